import PyProof.Rows.All
import Wide.All
import OpenK.AllK
import Wide.FinOn
import KE.KStateDown
import KE.DataEq
import HandS.ForMost
import HandS.Defaults
import HandS.IsInst
import HandS.RevRange
import HandS.SortKw
import HandS.Head0
import HandS.Head1
import HandS.Head2
import HandS.HeadEnd
import HandS.HeadHook1
import HandS.HeadHook2
import KE.SortKeyHeap
import HandS.Walk
import HandS.Dict
import HandS.WordsDict
import HandS.Call
import HandS.More
import HandS.DictComp
import HandS.Finally
import HandS.TryOnly
import KE.DatumOrd
import PyProof.Rows.SortShellAny
import HandS.ExcCtx
import HandS.HotCalls
import HandS.Hot
import HandS.ExcIs
import HandS.ExcOwn
import HandS.HeadHook4
import KE.KEqNest
import HandS.SetFor
import HandS.CallSlots
import PyProof.EnumMake
import PyProof.Draws
import PySem.Challenge.RW_onereading_k13_whole_reader
set_option Elab.async false
set_option linter.all false
set_option maxRecDepth 100000
set_option maxHeartbeats 4000000
/-! One: a small layer over the hand layer: texts as lists of codes, defs by name, heaps that only grow. -/
namespace One
open PySem PySem.Spec PyProof.Rows L2

/-! ### texts -/
abbrev Wd := List Nat
def S (a : Wd) : Str := ⟨a.toArray⟩
abbrev sv (a : Wd) : V := .str (S a)
theorem S_len (a : Wd) : (S a).length = a.length := by
  rw [TL.len_tl]; simp [S]
theorem S_size (a : Wd) : (S a).cps.size = a.length := by simp [S]
theorem S_cps (a : Wd) : (S a).cps.toList = a := by simp [S]
theorem S_inj {a b : Wd} : S a = S b ↔ a = b := by
  constructor
  · intro h
    have := congrArg (fun x : Str => x.cps.toList) h
    simpa [S] using this
  · intro h; rw [h]
theorem sv_inj {a b : Wd} : sv a = sv b ↔ a = b := by
  rw [V.str.injEq]; exact S_inj
theorem S_tl (x : Str) : S (TL.tl x) = x := TL.mk_tl x
theorem S_ex (x : Str) : ∃ a : Wd, x = S a := ⟨TL.tl x, (S_tl x).symm⟩
theorem S_app (a b : Wd) : S a ++ S b = S (a ++ b) := by
  apply TL.ext_tl
  rw [TL.tl_append]
  simp [S, TL.tl]
theorem dec_sv (a b : Wd) : decide (sv a = sv b) = decide (a = b) := by
  by_cases h : a = b
  · subst h; simp
  · rw [decide_eq_false h, decide_eq_false fun z => h (sv_inj.mp z)]
theorem starts_S (a b : Wd) : Txt.startswith (S a) (S b) = b.isPrefixOf a := by
  unfold Txt.startswith
  rw [StrLaws.subAt_eq, S_len, S_len, S_cps, S_cps, List.drop_zero, Nat.zero_add]
  rw [Bool.eq_iff_iff, Bool.and_eq_true, decide_eq_true_iff, beq_iff_eq, List.isPrefixOf_iff_prefix]
  constructor
  · intro h
    rw [← h.2]
    exact List.take_prefix _ _
  · intro h
    exact ⟨h.length_le, (List.prefix_iff_eq_take.mp h).symm⟩
theorem cutS_S (a : Wd) (lo hi : Option Int) : cutS (S a) lo hi = S ((a.drop (HT.sIx a.length 0 lo)).take (HT.sIx a.length a.length hi - HT.sIx a.length 0 lo)) := by
  unfold cutS
  rw [S_len, S_cps]
  rfl
theorem cut_from (a : Wd) (k : Nat) : cutS (S a) (some (k : Int)) none = S (a.drop k) := by
  rw [cutS_S, HT.sIx_none, HT.sIx_nat, S_inj]
  by_cases h : k ≤ a.length
  · rw [Nat.min_eq_left h, List.take_of_length_le]
    rw [List.length_drop]; exact Nat.le_refl _
  · rw [Nat.min_eq_right (by omega), List.drop_of_length_le (by omega), List.drop_of_length_le (by omega), List.take_nil]
theorem cut_to (a : Wd) (k : Nat) : cutS (S a) none (some (k : Int)) = S (a.take k) := by
  rw [cutS_S, HT.sIx_none, HT.sIx_nat, S_inj, List.drop_zero, Nat.sub_zero]
  by_cases h : k ≤ a.length
  · rw [Nat.min_eq_left h]
  · rw [Nat.min_eq_right (by omega), List.take_of_length_le (Nat.le_refl _), List.take_of_length_le (by omega)]
theorem cut_mid (a : Wd) (i k : Nat) : cutS (S a) (some (i : Int)) (some ((i : Int) + (k : Int))) = S ((a.drop i).take k) := by
  rw [cutS_S, show ((i : Int) + (k : Int)) = ((i + k : Nat) : Int) from rfl, HT.sIx_nat, HT.sIx_nat, S_inj]
  by_cases h : i + k ≤ a.length
  · rw [Nat.min_eq_left h, Nat.min_eq_left (by omega), Nat.add_sub_cancel_left]
  · by_cases h2 : i ≤ a.length
    · rw [Nat.min_eq_right (by omega), Nat.min_eq_left h2, List.take_of_length_le, List.take_of_length_le]
      · rw [List.length_drop]; omega
      · rw [List.length_drop]; exact Nat.le_refl _
    · rw [List.drop_of_length_le (l := a) (i := i) (by omega), Nat.min_eq_right (by omega), Nat.min_eq_right (by omega), List.drop_of_length_le (by omega), List.take_nil, List.take_nil]
theorem join_S (xs : List Wd) : Txt.join (S []) (xs.map S) = S xs.flatten := by
  rw [TL.join_eq]
  induction xs with
  | nil => rfl
  | cons x r ih =>
    cases r with
    | nil => 
      simp only [List.map_cons, List.map_nil, List.flatten_cons, List.flatten_nil, List.append_nil]
      rfl
    | cons y r =>
      have e : Str.join (S []) ((x :: y :: r).map S) = S x ++ S [] ++ Str.join (S []) ((y :: r).map S) := rfl
      rw [e, ih, S_app, S_app, List.append_nil]
      simp only [List.flatten_cons]

/-! ### what may be as long -/
theorem sz {n : Nat} (h : n ≤ 100000) : n ≤ sizeLine := Nat.le_trans h (by decide)
theorem szl {n : Nat} (h : n < 100000) : n < sizeLine := Nat.lt_of_lt_of_le h (by decide)
theorem szS {a : Wd} (h : a.length ≤ 100000) : (S a).length ≤ sizeLine := by rw [S_len]; exact sz h

/-! ### heaps that only grow -/
theorem new {H : Hp} {p : Addr} {o : HO} (h : H p = none) : Same H (upd H p o) := fun a u e => by
  rw [upd_ne (ne_of_none e h)]; exact e
/-- an object that H does not know may change -/
theorem mutd {H H' : Hp} {p : Addr} {o : HO} (e : Same H H') (h : H p = none) : Same H (upd H' p o) := fun a u ha => by
  rw [upd_ne (ne_of_none ha h)]; exact e a u ha
theorem sqT {K : PySem.W.Frag} {H H' : Hp} {a : Addr} {xs : List V} (e : Same H H') (h : SqT K H a xs) : SqT K H' a xs := by
  rcases h with h | h
  · rcases h with h | ⟨o, h⟩
    · exact .inl (.inl (e a _ h))
    · exact .inl (.inr ⟨o, e a _ h⟩)
  · exact .inr h
mutual
theorem dp_same {K : PySem.W.Frag} {H H' : Hp} (e : Same H H') : ∀ {d : PyData} {v : V}, Dp K H v d → Dp K H' v d
  | _, _, .non => .non
  | _, _, .bl b => .bl b
  | _, _, .int i => .int i
  | _, _, .str x => .str x
  | _, _, .lst h r => .lst (e.seq h) (dpAll_same e r)
  | _, _, .tup h r => .tup (sqT e h) (dpAll_same e r)
theorem dpAll_same {K : PySem.W.Frag} {H H' : Hp} (e : Same H H') : ∀ {ds : List PyData} {vs : List V}, DpAll K H vs ds → DpAll K H' vs ds
  | _, _, .nil => .nil
  | _, _, .cons h r => .cons (dp_same e h) (dpAll_same e r)
end
/-- lists of texts as data -/
theorem dpAll_strs {K : PySem.W.Frag} {H : Hp} : ∀ xs : List Wd, DpAll K H (xs.map sv) (xs.map fun a => PyData.str (S a))
  | [] => .nil
  | x :: r => .cons (.str _) (dpAll_strs r)

/-! ### the module's names -/
structure Bi (mg : Str → Option Value) : Prop where
  len : mg "len" = none
  isinstance : mg "isinstance" = none
  range : mg "range" = none
  sorted : mg "sorted" = none
  sum : mg "sum" = none
  max : mg "max" = none
  min : mg "min" = none
  reversed : mg "reversed" = none
  list : mg "list" = none
  dict : mg "dict" = none
  int : mg "int" = none
  str : mg "str" = none
  tuple : mg "tuple" = none
  bool : mg "bool" = none
  enumerate : mg "enumerate" = none
/-- a def of the text stands under its name -/
def Def (K : PySem.W.Frag) (mg : Str → Option Value) (x : Str) (st : Stmt) : Prop :=
  ∃ f fd, mg x = some (.ref f) ∧ FunD K x x (defArgs st) (defBody st) (defScope st) [] [] f fd
/-- a def that keeps a promise -/
structure Cal (P : Program) (w : World) (K : PySem.W.Frag) (mg : Str → Option Value) (base : Heap) (CX : CXT) (x : Str) (k : Nat) (ps : List Str) (sp : Sp) : Prop where
  ex : ∃ f fd, mg x = some (.ref f) ∧ PySem.W.keepIn K (.ref f) = true ∧ Binds K fd ps [] ∧ FnOk P w K mg base CX k f fd ps sp
section
variable {P : Program} {w : World} {K : PySem.W.Frag} {mg : Str → Option Value} {base : Heap} {CX : CXT} {x : Str} {st : Stmt} {N ps : List Str} {k : Nat} {sp : Sp}
theorem Def.cal (D : Def K mg x st) (S : FnScope N ps (defScope st))
    (hb : ∀ (kV doc pm : Value) (an : Option Addr) (cdv ct : Value) (us : List Value), us.length = ps.length → bindArgs (PySem.W.fnOf x x (defArgs st) (defBody st) (defScope st) .none kV doc pm an cdv ct) ⟨us, []⟩ = pure (ps.zip us))
    (len : ∀ vs H Q E, sp vs H Q E → vs.length = ps.length)
    (hbody : ∀ (f : Addr) (cdv : Value) (A : Around) (outer : List Env) (s : Shared) (H : Hp) (vs : List V) (Q : VK) (E : XK), Room k (A.deeper (envOfC x (defScope st) s.heap.objs.size f cdv)) → sp vs H Q E →
      ∃ t, PSs (cxOf CX P w K mg base N x (defScope st) f cdv A outer s H E) (defBody st) t ∧ t { nx := fun _ H' => Q .non H', rt := Q } (start N vs) H) : Cal P w K mg base CX x (k + 1) ps sp := by
  obtain ⟨f, fd, hm, F⟩ := D
  exact ⟨f, fd, hm, F.kp, F.bindsN hb, F.ok S len fun cdv A outer s H vs Q E hr h => hbody f cdv A outer s H vs Q E hr h⟩
end
section
variable {X : Cx} {CX : CXT} {j k : Nat} {ps : List Str} {sp : Sp} {E : XK} {x : Str} {p pos : Pos} {e : Expr} {es : List Expr} {t : TA}
theorem pe_calE (C : Cal X.prog X.w X.K X.mg X.base CX x k ps sp) (hr : Room j X.A) (hx : Passes CX X E) (ha : PA X (e :: es) t) (hk : k ≤ j := by decide) (hg : Gl X x := by rfl)
    (hdb : (x == ("__debug__" : Str)) = false := by decide) (he : starEach (e :: es) X.env = (false, eval e X.env) :: starEach es X.env := by rfl)
    (hpl : (backTo pos (starEach es X.env)).any (·.1) = false := by rfl) : PE X (.Call (.Name x p) (e :: es) [] pos) (tCall sp [] E t) := by
  obtain ⟨f, fd, hm, hkp, hb, F⟩ := C.ex
  exact pe_call F (hr.mono hk) hg hm hkp hb .nil hx ha hdb he hpl
theorem pe_cal (C : Cal X.prog X.w X.K X.mg X.base CX0 x k ps sp) (hr : Room j X.A) (ha : PA X (e :: es) t) (hk : k ≤ j := by decide) (hg : Gl X x := by rfl)
    (hdb : (x == ("__debug__" : Str)) = false := by decide) (he : starEach (e :: es) X.env = (false, eval e X.env) :: starEach es X.env := by rfl)
    (hpl : (backTo pos (starEach es X.env)).any (·.1) = false := by rfl) : PE X (.Call (.Name x p) (e :: es) [] pos) (tCall sp [] E0 t) :=
  pe_calE C hr pass0 ha hk hg hdb he hpl
end
end One


/-! ### rules over texts as lists of codes -/
namespace One
open PySem PySem.Spec PyProof.Rows L2
section
variable {X : Cx}
theorem OpR.imp {f : Value → Value → Sem Value} {r r' : R2} (h : OpR X f r) (i : ∀ x y H Q, r' x y H Q → r x y H Q) : OpR X f r' := fun pins s σ H x y v u Q I rx ry q => h pins s σ H x y v u Q I rx ry (i _ _ _ _ q)
theorem CallR.imp {f : Value} {r r' : List V → Hp → VK → Prop} (h : CallR X f r) (i : ∀ xs H Q, r' xs H Q → r xs H Q) : CallR X f r' := fun pins s σ H xs us Q I r q => h pins s σ H xs us Q I r (i _ _ _ q)
theorem MtR.imp {id : String} {r r' : V → List V → Hp → VK → Prop} (h : MtR X id r) (i : ∀ x xs H Q, r' x xs H Q → r x xs H Q) : MtR X id r' := fun pins s σ H x xs v us Q I rx rs q => h pins s σ H x xs v us Q I rx rs (i _ _ _ _ q)
theorem SlR.imp {r r' : V → Option Int → Option Int → Hp → VK → Prop} (h : SlR X r) (i : ∀ x lo hi H Q, r' x lo hi H Q → r x lo hi H Q) : SlR X r' := fun pins s σ H x v vl vu lo hi sl Q I rx hs pl pu q => h pins s σ H x v vl vu lo hi sl Q I rx hs pl pu (i _ _ _ _ _ q)
theorem IxR.imp {r r' : R2} (h : IxR X r) (i : ∀ x y H Q, r' x y H Q → r x y H Q) : IxR X r' := fun value slice pins s σ H x y v u Q I rx ry q e => h value slice pins s σ H x y v u Q I rx ry (i _ _ _ _ q) e
theorem pe_w {x : Str} {j : Nat} {pos : Pos} (a : Wd) (h : x = S a) : PE X (.Constant (.str x) j pos) (tC (sv a)) := h ▸ pe_str
/-- None or a text -/
def optv : Option Wd → V
  | none => .non
  | some a => sv a
theorem optv_inj {a b : Option Wd} : optv a = optv b ↔ a = b := by
  cases a <;> cases b <;> simp [optv, S_inj]
theorem scal_optv (a b : Option Wd) : scal (optv a) (optv b) = true := by cases a <;> cases b <;> rfl
theorem dec_optv (a b : Option Wd) : decide (optv a = optv b) = decide (a = b) := by
  by_cases h : a = b
  · subst h; simp
  · rw [decide_eq_false h, decide_eq_false fun z => h (optv_inj.mp z)]
theorem dec_int' (i j : Int) : decide (V.int i = V.int j) = decide (i = j) := by simp
def rAddW : R2 := fun x y H Q => ∃ a b : Wd, x = sv a ∧ y = sv b ∧ a.length + b.length ≤ 100000 ∧ Q (sv (a ++ b)) H
theorem op_addw : OpR X (binaryOp .Add) rAddW := OpR.imp op_add_str fun x y H Q ⟨a, b, hx, hy, hz, q⟩ => ⟨S a, S b, hx, hy, by rw [S_len, S_len]; exact sz hz, by rw [S_app]; exact q⟩
def rEqW : R2 := fun x y H Q => ∃ a b : Wd, x = sv a ∧ y = sv b ∧ Q (.bl (decide (a = b))) H
def rNeW : R2 := fun x y H Q => ∃ a b : Wd, x = sv a ∧ y = sv b ∧ Q (.bl (!decide (a = b))) H
theorem op_eqw : OpR X (compareOp .Eq) rEqW := OpR.imp op_eq fun x y H Q ⟨a, b, hx, hy, q⟩ => ⟨by rw [hx, hy]; rfl, by rw [hx, hy, dec_sv]; exact q⟩
theorem op_new : OpR X (compareOp .NotEq) rNeW := OpR.imp op_ne fun x y H Q ⟨a, b, hx, hy, q⟩ => ⟨by rw [hx, hy]; rfl, by rw [hx, hy, dec_sv]; exact q⟩
def rEqO : R2 := fun x y H Q => ∃ a b : Option Wd, x = optv a ∧ y = optv b ∧ Q (.bl (decide (a = b))) H
def rNeO : R2 := fun x y H Q => ∃ a b : Option Wd, x = optv a ∧ y = optv b ∧ Q (.bl (!decide (a = b))) H
theorem op_eqo : OpR X (compareOp .Eq) rEqO := OpR.imp op_eq fun x y H Q ⟨a, b, hx, hy, q⟩ => ⟨by rw [hx, hy]; exact scal_optv a b, by rw [hx, hy, dec_optv]; exact q⟩
theorem op_neo : OpR X (compareOp .NotEq) rNeO := OpR.imp op_ne fun x y H Q ⟨a, b, hx, hy, q⟩ => ⟨by rw [hx, hy]; exact scal_optv a b, by rw [hx, hy, dec_optv]; exact q⟩
def rEqN : R2 := fun x y H Q => ∃ i j : Int, x = .int i ∧ y = .int j ∧ Q (.bl (decide (i = j))) H
def rNeN : R2 := fun x y H Q => ∃ i j : Int, x = .int i ∧ y = .int j ∧ Q (.bl (!decide (i = j))) H
theorem op_eqn : OpR X (compareOp .Eq) rEqN := OpR.imp op_eq fun x y H Q ⟨a, b, hx, hy, q⟩ => ⟨by rw [hx, hy]; rfl, by rw [hx, hy, dec_int']; exact q⟩
theorem op_nen : OpR X (compareOp .NotEq) rNeN := OpR.imp op_ne fun x y H Q ⟨a, b, hx, hy, q⟩ => ⟨by rw [hx, hy]; rfl, by rw [hx, hy, dec_int']; exact q⟩
/-- len of a text, of a list -/
def rLenW : List V → Hp → VK → Prop := fun xs H Q => ∃ a : Wd, xs = [sv a] ∧ a.length ≤ 100000 ∧ Q (.int (a.length : Int)) H
theorem call_lenw : CallR X (.builtin "len") rLenW := CallR.imp call_len_str fun xs H Q ⟨a, e, hz, q⟩ => ⟨S a, e, szS hz, by rw [S_len]; exact q⟩
def rLenL (K : PySem.W.Frag) : List V → Hp → VK → Prop := fun xs H Q => ∃ p, xs = [.ref p] ∧ ∃ ys, SqL K H p ys ∧ Q (.int (ys.length : Int)) H
theorem call_lenl : CallR X (.builtin "len") (rLenL X.K) := CallR.imp call_len_seq fun xs H Q ⟨p, e, ys, h, q⟩ => ⟨p, ys, e, .inl h, q⟩
def rLenT (K : PySem.W.Frag) : List V → Hp → VK → Prop := fun xs H Q => ∃ p, xs = [.ref p] ∧ ∃ ys, SqT K H p ys ∧ Q (.int (ys.length : Int)) H
theorem call_lent : CallR X (.builtin "len") (rLenT X.K) := CallR.imp call_len_seq fun xs H Q ⟨p, e, ys, h, q⟩ => ⟨p, ys, e, .inr h, q⟩
/-- a text's slice -/
def cutW (a : Wd) (lo hi : Option Int) : Wd := (a.drop (HT.sIx a.length 0 lo)).take (HT.sIx a.length a.length hi - HT.sIx a.length 0 lo)
def rSlW : V → Option Int → Option Int → Hp → VK → Prop := fun x lo hi H Q => ∃ a : Wd, x = sv a ∧ a.length ≤ 100000 ∧ Q (sv (cutW a lo hi)) H
theorem sl_w : SlR X rSlW := SlR.imp sl_str fun x lo hi H Q ⟨a, e, hz, q⟩ => ⟨S a, e, szS hz, by rw [cutS_S]; exact q⟩
theorem cutW_from (a : Wd) (k : Nat) : cutW a (some (k : Int)) none = a.drop k := S_inj.mp ((cutS_S a _ _).symm.trans (cut_from a k))
theorem cutW_to (a : Wd) (k : Nat) : cutW a none (some (k : Int)) = a.take k := S_inj.mp ((cutS_S a _ _).symm.trans (cut_to a k))
theorem cutW_mid (a : Wd) (i k : Nat) : cutW a (some (i : Int)) (some ((i : Int) + (k : Int))) = (a.drop i).take k := S_inj.mp ((cutS_S a _ _).symm.trans (cut_mid a i k))
theorem cutW_len (a : Wd) (lo hi : Option Int) : (cutW a lo hi).length ≤ a.length := by
  unfold cutW
  rw [List.length_take, List.length_drop]; omega
/-- a text's sign, a list's item, a tuple's item -/
def rIxW : R2 := fun x y H Q => ∃ (a : Wd) (i : Int), x = sv a ∧ y = .int i ∧ a.length ≤ 100000 ∧ 0 ≤ i ∧ ∃ c, a[i.toNat]? = some c ∧ Q (sv [c]) H
theorem atI_toNat {α : Type} {xs : List α} {i : Int} {v : α} (h0 : 0 ≤ i) (h : xs[i.toNat]? = some v) : atI xs i = some v := by
  have := atI_nat (j := i.toNat) h
  rwa [Int.toNat_of_nonneg h0] at this
theorem ix_w : IxR X rIxW := IxR.imp ix_str fun x y H Q ⟨a, i, hx, hy, hz, h0, c, hc, q⟩ => ⟨S a, i, c, hx, hy, szS hz, by rw [S_cps]; exact atI_toNat h0 hc, q⟩
def rIxLn (K : PySem.W.Frag) : R2 := fun x y H Q => ∃ (p : Addr) (i : Int), x = .ref p ∧ y = .int i ∧ ∃ xs, SqL K H p xs ∧ 0 ≤ i ∧ ∃ v, xs[i.toNat]? = some v ∧ Q v H
theorem ix_l : IxR X (rIxLn X.K) := IxR.imp ix_list fun x y H Q ⟨p, i, hx, hy, xs, h, h0, v, hv, q⟩ => ⟨p, xs, i, v, hx, hy, h, atI_toNat h0 hv, q⟩
def rIxTn (K : PySem.W.Frag) : R2 := fun x y H Q => ∃ (p : Addr) (i : Int), x = .ref p ∧ y = .int i ∧ ∃ xs, SqT K H p xs ∧ 0 ≤ i ∧ ∃ v, xs[i.toNat]? = some v ∧ Q v H
theorem ix_t : IxR X (rIxTn X.K) := IxR.imp ix_tup fun x y H Q ⟨p, i, hx, hy, xs, h, h0, v, hv, q⟩ => ⟨p, xs, i, v, hx, hy, h, atI_toNat h0 hv, q⟩
/-- text.startswith(other), sep.join(list of texts) -/
def rStW : V → List V → Hp → VK → Prop := fun x xs H Q => ∃ a b : Wd, x = sv a ∧ xs = [sv b] ∧ Q (.bl (b.isPrefixOf a)) H
theorem mt_stw : MtR X "str.startswith" rStW := MtR.imp mt_startswith fun x xs H Q ⟨a, b, hx, hy, q⟩ => ⟨S a, S b, hx, hy, by rw [starts_S]; exact q⟩
theorem map_sv_len (ys : List Wd) : ((ys.map S).map (·.length)).sum = ys.flatten.length := by
  induction ys with
  | nil => rfl
  | cons x r ih => simp only [List.map_cons, List.sum_cons, List.flatten_cons, List.length_append, ih, S_len]
theorem map_sv (ys : List Wd) : (ys.map S).map V.str = ys.map sv := by rw [List.map_map]; rfl
def rJoW (K : PySem.W.Frag) : V → List V → Hp → VK → Prop := fun x xs H Q => ∃ p, x = sv [] ∧ xs = [.ref p] ∧ ∃ ys : List Wd, SqL K H p (ys.map sv) ∧ ys.flatten.length ≤ 100000 ∧ Q (sv ys.flatten) H
theorem mt_jow : MtR X "str.join" (rJoW X.K) := MtR.imp mt_join fun x xs H Q ⟨p, hx, hy, ys, h, hz, q⟩ => ⟨S [], p, ys.map S, hx, hy, .inl (by rw [map_sv]; exact h), by rw [map_sv_len, S_len]; show ys.flatten.length + _ * 0 ≤ _; omega, by rw [join_S]; exact q⟩
/-- a text in a list of texts -/
def rInW (K : PySem.W.Frag) (neg : Bool) : R2 := fun x y H Q => ∃ (a : Wd) (p : Addr), x = sv a ∧ y = .ref p ∧ ∃ xs : List Wd, SqL K H p (xs.map sv) ∧ Q (.bl (if neg then !decide (a ∈ xs) else decide (a ∈ xs))) H
theorem inV_sv (a : Wd) (xs : List Wd) : inV (sv a) (xs.map sv) = decide (a ∈ xs) := by
  unfold inV
  rw [List.any_map, Bool.eq_iff_iff, List.any_eq_true, decide_eq_true_iff]
  constructor
  · rintro ⟨x, hx, e⟩
    have e2 : (S x == S a) = true := e
    have e3 : S x = S a := by simpa using e2
    rw [← S_inj.mp e3]; exact hx
  · intro h
    exact ⟨a, h, by show (S a == S a) = true; simp⟩
theorem flat_sv (xs : List Wd) : (xs.map sv).all flatV = true := by
  rw [List.all_eq_true]
  intro v hv
  obtain ⟨a, _, rfl⟩ := List.mem_map.mp hv
  rfl
theorem op_inw : OpR X (compareOp .In) (rInW X.K false) := OpR.imp op_in_seq fun x y H Q ⟨a, p, hx, hy, xs, h, q⟩ => ⟨p, xs.map sv, hy, .inl h, by rw [hx]; rfl, flat_sv xs, by rw [hx, inV_sv]; exact q⟩
theorem op_niw : OpR X (compareOp .NotIn) (rInW X.K true) := OpR.imp op_notIn_seq fun x y H Q ⟨a, p, hx, hy, xs, h, q⟩ => ⟨p, xs.map sv, hy, .inl h, by rw [hx]; rfl, flat_sv xs, by rw [hx, inV_sv]; exact q⟩
/-- one sign in a text -/
def rInG (neg : Bool) : R2 := fun x y H Q => ∃ (c : Nat) (a : Wd), x = sv [c] ∧ y = sv a ∧ Q (.bl (if neg then !decide (c ∈ a) else decide (c ∈ a))) H
theorem op_ing : OpR X (compareOp .In) (rInG false) := OpR.imp op_in_sign fun x y H Q ⟨c, a, hx, hy, q⟩ => ⟨c, S a, hx, hy, by rw [S_cps]; exact q⟩
theorem op_nig : OpR X (compareOp .NotIn) (rInG true) := OpR.imp op_notIn_sign fun x y H Q ⟨c, a, hx, hy, q⟩ => ⟨c, S a, hx, hy, by rw [S_cps]; exact q⟩
end

/-! ### answers -/
/-- a value, the heap has grown at most; a new list; a new tuple -/
def Ret (H : Hp) (Q : VK) (v : V) : Prop := ∀ H', Same H H' → Q v H'
def RetL (H : Hp) (Q : VK) (xs : List V) : Prop := ∀ p H', Same H H' → H p = none → H' p = some (.lst xs) → Q (.ref p) H'
def RetT (H : Hp) (Q : VK) (xs : List V) : Prop := ∀ p H', Same H H' → H p = none → H' p = some (.tup xs) → Q (.ref p) H'
theorem Ret.mono {H H1 : Hp} {Q : VK} {v : V} (e : Same H H1) (r : Ret H Q v) : Ret H1 Q v := fun H' e' => r H' (e.trans e')
theorem RetL.mono {H H1 : Hp} {Q : VK} {xs : List V} (e : Same H H1) (r : RetL H Q xs) : RetL H1 Q xs := fun p H' e' hp h => r p H' (e.trans e') (e.free hp) h
theorem RetT.mono {H H1 : Hp} {Q : VK} {xs : List V} (e : Same H H1) (r : RetT H Q xs) : RetT H1 Q xs := fun p H' e' hp h => r p H' (e.trans e') (e.free hp) h
theorem RetT.at {H H1 : Hp} {Q : VK} {xs : List V} (r : RetT H Q xs) (e : Same H H1) {p : Addr} (hp : H1 p = none) : Q (.ref p) (upd H1 p (.tup xs)) := r p _ (e.trans (new hp)) (e.free hp) upd_same
theorem RetL.at {H H1 : Hp} {Q : VK} {xs : List V} (r : RetL H Q xs) (e : Same H H1) {p : Addr} (hp : H1 p = none) : Q (.ref p) (upd H1 p (.lst xs)) := r p _ (e.trans (new hp)) (e.free hp) upd_same
/-! ### ways -/
theorem itd {p A B : Prop} [Decidable p] (h1 : p → A) (h2 : ¬ p → B) : if decide p = true then A else B := by
  by_cases h : p
  · rw [if_pos (decide_eq_true h)]; exact h1 h
  · rw [if_neg (by simpa using h)]; exact h2 h
theorem itn {p A B : Prop} [Decidable p] (h1 : ¬ p → A) (h2 : p → B) : if (!decide p) = true then A else B := by
  by_cases h : p
  · rw [if_neg (by simpa using h)]; exact h2 h
  · rw [if_pos (by simpa using h)]; exact h1 h
theorem itb {b : Bool} {A B : Prop} (h1 : b = true → A) (h2 : b = false → B) : if b = true then A else B := by
  cases b
  · exact h2 rfl
  · exact h1 rfl
theorem itnb {b : Bool} {A B : Prop} (h1 : b = false → A) (h2 : b = true → B) : if (!b) = true then A else B := by
  cases b
  · exact h1 rfl
  · exact h2 rfl

/-! ### loops -/
section
variable {K : PySem.W.Frag} {a : Addr} {g : TG} {tb : TS} {D : Ends} {σ : L2.St} {H : Hp}
/-- over a list of texts that stays: Pv by what was taken -/
theorem for_ws {xs : List Wd} {j : Nat} (hS : SqL K H a (xs.map sv)) (Pv : List Wd → L2.St → Hp → Prop) (h0 : Pv [] σ H) (hm : ∀ pre σ' H', Pv pre σ' H' → Same H H')
    (hs : ∀ pre x post σ' H', xs = pre ++ x :: post → Pv pre σ' H' → tb { D with nx := Pv (pre ++ [x]), ct := Pv (pre ++ [x]), bk := D.nx } (σ'.set j (some (sv x))) H') (hd : ∀ σ' H', Pv xs σ' H' → D.nx σ' H') :
    ∃ W : Nat → Nat → L2.St → Hp → Prop, (∃ m, W 0 m σ H) ∧ ∀ i m σ H, W i m σ H →
      ((Itl K a).stop i H ∧ D.nx σ H) ∨ ((Itl K a).go i H ∧ ∃ N : L2.St → Hp → Prop, (∀ σ' H', N σ' H' → ∃ m', m' < m ∧ W (i + 1) m' σ' H') ∧ ∀ x H', (Itl K a).yld i H x H' → gName j x σ H' fun σ2 H2 => tb { D with nx := N, ct := N, bk := D.nx } σ2 H2) := by
  refine for_list (xs := xs.map sv) (fun i σ' H' => Pv (xs.take i) σ' H') (by rw [List.take_zero]; exact h0) (fun i σ' H' _ p => (hm _ _ _ p).seq hS) (fun i x σ' H' hx p => ?_) (fun σ' H' p => hd σ' H' (by rw [List.length_map, List.take_length] at p; exact p))
  rw [List.getElem?_map] at hx
  cases e : xs[i]? with
  | none => rw [e] at hx; cases hx
  | some y =>
    rw [e] at hx
    obtain rfl : sv y = x := Option.some.inj hx
    have hi : i < xs.length := (List.getElem?_eq_some_iff.mp e).1
    have ey : xs[i] = y := (List.getElem?_eq_some_iff.mp e).2
    have e1 : xs = xs.take i ++ y :: xs.drop (i + 1) := by
      rw [← ey, List.getElem_cons_drop, List.take_append_drop]
    have e2 : xs.take (i + 1) = xs.take i ++ [y] := by rw [List.take_add_one, e]; rfl
    show tb { D with nx := fun σ' H' => Pv (xs.take (i + 1)) σ' H', ct := fun σ' H' => Pv (xs.take (i + 1)) σ' H', bk := D.nx } (σ'.set j (some (sv y))) H'
    rw [e2]
    exact hs _ y _ σ' H' e1 p
end
/-! ### comprehensions whose element makes no object that is kept -/
/-- te gives v from any heap that has grown from H -/
def EvV (te : TE) (σ : L2.St) (H : Hp) (v : V) : Prop := ∀ H1, Same H H1 → ∀ Q : VK, (∀ H2, Same H1 H2 → Q v H2) → te σ H1 Q
def EvB (tt : TT) (σ : L2.St) (H : Hp) (b : Bool) : Prop := ∀ H1, Same H H1 → ∀ Q : Bool → Hp → Prop, (∀ H2, Same H1 H2 → Q b H2) → tt σ H1 Q
section
variable {K : PySem.W.Frag} {a : Addr} {tt : TT} {te : TE} {σ : L2.St} {H1 : Hp} {D : Addr} {Qd : Hp → Prop}
theorem wipe1 (σ : L2.St) (j : Nat) (v : Option V) : wipe ((wipe σ [j]).set j v) [j] = wipe σ [j] := by
  show ((σ.set j none).set j v).set j none = σ.set j none
  rw [List.set_set, List.set_set]
/-- over a list of values that stays -/
theorem lc_vals {xs : List V} {j : Nat} (c : V → Bool) (y : V → V) (hD : H1 D = none) (hS : SqL K H1 a xs) (hz : xs.length ≤ 100000)
    (ht : ∀ x ∈ xs, EvB tt ((wipe σ [j]).set j (some x)) H1 (c x)) (he : ∀ x ∈ xs, c x = true → EvV te ((wipe σ [j]).set j (some x)) H1 (y x))
    (hd : ∀ H', Same H1 H' → H' D = some (.lst ((xs.filter c).map y)) → Qd H') :
    ∃ W : Nat → Nat → Hp → Prop, (∃ m, W 0 m (upd H1 D (.lst []))) ∧ ∀ i m H, W i m H →
      ((Itl K a).stop i H ∧ Qd H) ∨ ((Itl K a).go i H ∧ ∃ Nx : Hp → Prop, (∀ H', Nx H' → ∃ m', m' < m ∧ W (i + 1) m' H') ∧ ∀ x H', (Itl K a).yld i H x H' → gName j x (wipe σ [j]) H' fun σ2 H2 => wipe σ2 [j] = wipe σ [j] ∧ tt σ2 H2 fun b H3 =>
        if b = true then te σ2 H3 fun y H4 => ∃ acc, H4 D = some (.lst acc) ∧ acc.length < sizeLine ∧ Nx (upd H4 D (.lst (acc ++ [y]))) else Nx H3) := by
  refine lc_list (K := K) (a := a) (xs := xs) (fun i H => Same H1 H ∧ H D = some (.lst (((xs.take i).filter c).map y))) ⟨new hD, upd_same⟩ (fun i H _ p => p.1.seq hS) (fun i x H hx p => ?_) (fun H p => hd H p.1 (by rw [List.take_length] at p; exact p.2))
  have hm : x ∈ xs := List.mem_of_getElem? hx
  have e2 : xs.take (i + 1) = xs.take i ++ [x] := by rw [List.take_add_one, hx]; rfl
  refine ⟨wipe1 σ j _, ht x hm H p.1 _ fun H2 s2 => ?_⟩
  refine itb (fun hc => ?_) fun hc => ?_
  · refine he x hm hc H2 (p.1.trans s2) _ fun H3 s3 => ⟨_, s3 _ _ (s2 _ _ p.2), ?_, mutd ((p.1.trans s2).trans s3) hD, ?_⟩
    · refine szl ?_
      rw [List.length_map]
      have h1 := List.length_filter_le c (xs.take i)
      have h2 : i < xs.length := (List.getElem?_eq_some_iff.mp hx).1
      rw [List.length_take] at h1
      omega
    · rw [upd_same, e2, List.filter_append, List.map_append, List.filter_cons, if_pos hc]; rfl
  · refine ⟨p.1.trans s2, ?_⟩
    rw [s2 _ _ p.2, e2, List.filter_append, List.filter_cons, if_neg (by rw [hc]; decide)]
    simp
/-- over a range, no test -/
theorem lc_rng {lo : Int} {n j : Nat} (y : Nat → V) (hD : H1 D = none) (hz : n ≤ 100000)
    (he : ∀ i, i < n → EvV te ((wipe σ [j]).set j (some (.int (lo + (i : Nat))))) H1 (y i))
    (hd : ∀ H', Same H1 H' → H' D = some (.lst ((List.range n).map y)) → Qd H') :
    ∃ W : Nat → Nat → Hp → Prop, (∃ m, W 0 m (upd H1 D (.lst []))) ∧ ∀ i m H, W i m H →
      ((Itr lo n).stop i H ∧ Qd H) ∨ ((Itr lo n).go i H ∧ ∃ Nx : Hp → Prop, (∀ H', Nx H' → ∃ m', m' < m ∧ W (i + 1) m' H') ∧ ∀ x H', (Itr lo n).yld i H x H' → gName j x (wipe σ [j]) H' fun σ2 H2 => wipe σ2 [j] = wipe σ [j] ∧ tYes σ2 H2 fun b H3 =>
        if b = true then te σ2 H3 fun y H4 => ∃ acc, H4 D = some (.lst acc) ∧ acc.length < sizeLine ∧ Nx (upd H4 D (.lst (acc ++ [y]))) else Nx H3) := by
  refine lc_range (lo := lo) (n := n) (fun i H => Same H1 H ∧ H D = some (.lst ((List.range i).map y))) ⟨new hD, upd_same⟩ (fun i H hi p => ?_) (fun H p => hd H p.1 p.2)
  refine ⟨wipe1 σ j _, ?_⟩
  refine he i hi H p.1 _ fun H3 s3 => ⟨_, s3 _ _ p.2, ?_, mutd (p.1.trans s3) hD, ?_⟩
  · refine szl ?_
    rw [List.length_map, List.length_range]; omega
  · rw [upd_same, List.range_succ, List.map_append]; rfl
end
end One


/-! ### isinstance of what a value is -/
namespace One
open PySem PySem.Spec PyProof.Rows L2
inductive Ty where | non | bl | int | str | lst | tup | dict
def Ty.nm : Ty → String
  | .non => "NoneType" | .bl => "bool" | .int => "int" | .str => "str" | .lst => "list" | .tup => "tuple" | .dict => "dict"
def Ty.is : Ty → Ty → Bool
  | .bl, .int => true
  | .non, .non => true | .bl, .bl => true | .int, .int => true | .str, .str => true | .lst, .lst => true | .tup, .tup => true | .dict, .dict => true
  | _, _ => false
theorem kit_all : ∀ t n : Ty, kitB t.nm n.nm = some (t.is n)
  | .non, .non => by decide +kernel | .non, .bl => by decide +kernel | .non, .int => by decide +kernel | .non, .str => by decide +kernel | .non, .lst => by decide +kernel | .non, .tup => by decide +kernel | .non, .dict => by decide +kernel
  | .bl, .non => by decide +kernel | .bl, .bl => by decide +kernel | .bl, .int => by decide +kernel | .bl, .str => by decide +kernel | .bl, .lst => by decide +kernel | .bl, .tup => by decide +kernel | .bl, .dict => by decide +kernel
  | .int, .non => by decide +kernel | .int, .bl => by decide +kernel | .int, .int => by decide +kernel | .int, .str => by decide +kernel | .int, .lst => by decide +kernel | .int, .tup => by decide +kernel | .int, .dict => by decide +kernel
  | .str, .non => by decide +kernel | .str, .bl => by decide +kernel | .str, .int => by decide +kernel | .str, .str => by decide +kernel | .str, .lst => by decide +kernel | .str, .tup => by decide +kernel | .str, .dict => by decide +kernel
  | .lst, .non => by decide +kernel | .lst, .bl => by decide +kernel | .lst, .int => by decide +kernel | .lst, .str => by decide +kernel | .lst, .lst => by decide +kernel | .lst, .tup => by decide +kernel | .lst, .dict => by decide +kernel
  | .tup, .non => by decide +kernel | .tup, .bl => by decide +kernel | .tup, .int => by decide +kernel | .tup, .str => by decide +kernel | .tup, .lst => by decide +kernel | .tup, .tup => by decide +kernel | .tup, .dict => by decide +kernel
  | .dict, .non => by decide +kernel | .dict, .bl => by decide +kernel | .dict, .int => by decide +kernel | .dict, .str => by decide +kernel | .dict, .lst => by decide +kernel | .dict, .tup => by decide +kernel | .dict, .dict => by decide +kernel
inductive TyW (H : Hp) : V → Ty → Prop where
  | non : TyW H .non .non
  | bl (b : Bool) : TyW H (.bl b) .bl
  | int (i : Int) : TyW H (.int i) .int
  | str (x : Str) : TyW H (.str x) .str
  | lst {p : Addr} {xs : List V} (h : H p = some (.lst xs)) : TyW H (.ref p) .lst
  | tup {p : Addr} {xs : List V} (h : H p = some (.tup xs)) : TyW H (.ref p) .tup
  | dict {p : Addr} {kvs : List (Key × V)} (h : H p = some (.dK kvs)) : TyW H (.ref p) .dict
theorem TyW.of {K : PySem.W.Frag} {H : Hp} {x : V} {t : Ty} (h : TyW H x t) : TyX K H x (.type t.nm) := by
  cases h with
  | non => exact .base .non
  | bl b => exact .base (.bl b)
  | int i => exact .base (.int i)
  | str x => exact .base (.str x)
  | lst h => exact .base (.lst h)
  | tup h => exact .base (.tup h)
  | dict h => exact .base (.dK h)
def rIs (n : Ty) : List V → Hp → VK → Prop := fun xs H Q => ∃ x, xs = [x, .ty n.nm] ∧ ∃ t, TyW H x t ∧ Q (.bl (t.is n)) H
theorem call_is {X : Cx} (n : Ty) : CallR X (.builtin "isinstance") (rIs n) := CallR.imp call_isi fun xs H Q ⟨x, e, t, h, q⟩ => ⟨x, .ty n.nm, .type t.nm, .type n.nm, t.is n, e, .ty _, h.of, kit_ty (kit_all t n), q⟩
theorem pe_ty {X : Cx} {x : Str} {pos : Pos} (n : Ty) (hg : Gl X x) (hm : X.mg x = none) (hv : bootBuiltins x = some (.type n.nm)) (hn : x ≠ "__name__" := by decide) (hd : (x == ("__debug__" : Str)) = false := by decide) : PE X (.Name x pos) (tC (.ty n.nm)) := pe_bltn hg hm hv rfl hn hd
theorem pick {α : Type} {xs : List α} {i : Int} (h0 : 0 ≤ i) (h1 : i < xs.length) : ∃ v, v ∈ xs ∧ xs[i.toNat]? = some v := by
  have h : i.toNat < xs.length := by omega
  exact ⟨xs[i.toNat], List.getElem_mem h, List.getElem?_eq_getElem h⟩
theorem flat1 {α β : Type} (f : α → β) (xs : List α) : (xs.map fun i => [f i]).flatten = xs.map f := by
  induction xs with
  | nil => rfl
  | cons x r ih => simp only [List.map_cons, List.flatten_cons, ih]; rfl
theorem cutW_toI (a : Wd) {x : Int} (h : 0 ≤ x) : cutW a none (some x) = a.take x.toNat := by
  have := cutW_to a x.toNat
  rwa [Int.toNat_of_nonneg h] at this
theorem cutW_fromI (a : Wd) {x : Int} (h : 0 ≤ x) : cutW a (some x) none = a.drop x.toNat := by
  have := cutW_from a x.toNat
  rwa [Int.toNat_of_nonneg h] at this
theorem cut_two (a : Wd) {x : Int} (h : 0 ≤ x) : (cutW a none (some x)).length + (cutW a (some (x + 1)) none).length ≤ a.length := by
  rw [cutW_toI a h, cutW_fromI a (by omega), List.length_take, List.length_drop]
  omega
def ABC : Wd := [97, 98, 99, 100, 101, 102, 103, 104, 105, 106, 107, 108, 109, 110, 111, 112, 113, 114, 115, 116, 117, 118, 119, 120, 121, 122]
theorem pe_globw {X : Cx} {x : Str} {z : Str} {pos : Pos} (a : Wd) (h : z = S a) (hm : ∃ t, X.mg x = some (.str z t)) (hg : Gl X x) (hd : (x == ("__debug__" : Str)) = false := by decide) : PE X (.Name x pos) (tC (sv a)) := by
  obtain ⟨t, hm⟩ := hm
  exact pe_glob hg hm ⟨t, by rw [h]⟩ hd
theorem pe_globi {X : Cx} {x : Str} {i : Int} {pos : Pos} (hm : ∃ t, X.mg x = some (.int i t)) (hg : Gl X x) (hd : (x == ("__debug__" : Str)) = false := by decide) : PE X (.Name x pos) (tC (.int i)) := by
  obtain ⟨t, hm⟩ := hm
  exact pe_glob hg hm ⟨t, rfl⟩ hd
end One
namespace One
open PySem PySem.Spec PyProof.Rows L2
section
variable {K : PySem.W.Frag} {a : Addr} {g : TG} {tb : TS} {D : Ends} {σ : L2.St} {H : Hp}
/-- over a list that stays, nothing that stood is changed: Pv by the turn and the slots -/
theorem for_g {xs : List V} (hS : SqL K H a xs) (Pv : Nat → L2.St → Prop) (h0 : Pv 0 σ)
    (hs : ∀ i x σ' H', xs[i]? = some x → Pv i σ' → Same H H' → g x σ' H' fun σ2 H2 => tb { D with nx := fun σ'' H'' => Pv (i + 1) σ'' ∧ Same H H'', ct := fun σ'' H'' => Pv (i + 1) σ'' ∧ Same H H'', bk := D.nx } σ2 H2)
    (hd : ∀ σ' H', Pv xs.length σ' → Same H H' → D.nx σ' H') :
    ∃ W : Nat → Nat → L2.St → Hp → Prop, (∃ m, W 0 m σ H) ∧ ∀ i m σ H, W i m σ H →
      ((Itl K a).stop i H ∧ D.nx σ H) ∨ ((Itl K a).go i H ∧ ∃ N : L2.St → Hp → Prop, (∀ σ' H', N σ' H' → ∃ m', m' < m ∧ W (i + 1) m' σ' H') ∧ ∀ x H', (Itl K a).yld i H x H' → g x σ H' fun σ2 H2 => tb { D with nx := N, ct := N, bk := D.nx } σ2 H2) :=
  for_list (xs := xs) (fun i σ' H' => Pv i σ' ∧ Same H H') ⟨h0, Same.refl _⟩ (fun _ _ _ _ p => p.2.seq hS) (fun i x σ' H' hx p => hs i x σ' H' hx p.1 p.2) (fun σ' H' p => hd σ' H' p.1 p.2)
end
end One
namespace One
open PySem PySem.Spec PyProof.Rows L2
theorem new_at {H : Hp} {p b : Addr} {o u : HO} (h : H p = none) (e : H b = some u) : upd H p o b = some u := new h b u e
theorem upd_at {H : Hp} {p b : Addr} {o u : HO} (h : b ≠ p) (e : H b = some u) : upd H p o b = some u := by rw [upd_ne h]; exact e
theorem upd_snoc {H : Hp} {p : Addr} {xs : List Wd} {a : Wd} : upd H p (.lst (xs.map sv ++ [sv a])) p = some (.lst ((xs ++ [a]).map sv)) := by rw [upd_same, List.map_append]; rfl
theorem upd_nil {H : Hp} {p : Addr} : upd H p (.lst []) p = some (.lst (List.map sv [])) := upd_same
/-- something lives at l, nothing at p -/
theorem ne_free {H : Hp} {p l : Addr} {u : HO} (h : H p = none) (e : H l = some u) : p ≠ l := fun z => by rw [← z, h] at e; cases e
theorem same_at {H H' : Hp} {b : Addr} {u : HO} (s : Same H H') (e : H b = some u) : H' b = some u := s b u e
end One
namespace One
open PySem PySem.Spec PyProof.Rows L2
def rCatL : R2 := fun x y H Q => ∃ (l b : Addr), x = .ref l ∧ y = .ref b ∧ ∃ xs, H l = some (.lst xs) ∧ ∃ zs, H b = some (.lst zs) ∧ xs.length + zs.length ≤ 100000 ∧ ∀ p, H p = none → Q (.ref p) (upd H p (.lst (xs ++ zs)))
theorem op_catl {X : Cx} : OpR X (binaryOp .Add) rCatL := OpR.imp op_cat fun x y H Q ⟨l, b, hx, hy, xs, h1, zs, h2, hz, q⟩ => ⟨l, b, xs, zs, hx, hy, h1, h2, sz hz, q⟩
end One
namespace One
open PySem PySem.Spec PyProof.Rows L2
/-! ### == of data -/
def okD (d : PyData) : Bool := d.plain && decide (d.depth ≤ 8)
def rEqP (K : PySem.W.Frag) : R2 := fun x y H Q => ∃ d, Dp K H x d ∧ okD d = true ∧ ∃ e, Dp K H y e ∧ okD e = true ∧ Q (.bl (PyData.eqv d e)) H
def rNeP (K : PySem.W.Frag) : R2 := fun x y H Q => ∃ d, Dp K H x d ∧ okD d = true ∧ ∃ e, Dp K H y e ∧ okD e = true ∧ Q (.bl (!PyData.eqv d e)) H
theorem eqv_self {d : PyData} (h : okD d = true) : PyData.eqv d d = true := SeqAt.eqv_refl_plain d (Bool.and_eq_true_iff.mp h).1
example (x : Str) (b : Bool) : okD (.tuple [.str x, .bool b]) = true := rfl
example (x : Str) (b : Bool) : okD (.tuple [.str x, .bool b, .list []]) = true := by rfl
example (x y : Str) (b : Bool) : PyData.eqv (.tuple [.str x, .bool b]) (.tuple [.str y, .bool b]) = ((x == y) && ((b == b) && true)) := by rfl
theorem op_eqp {X : Cx} (hu : X.A.units + 64 < cLine) : OpR X (compareOp .Eq) (rEqP X.K) := by
  intro pins s σ H x y v u Q I rx ry h
  obtain ⟨d, hd, sd, e, he, se, q⟩ := h
  obtain ⟨as, r1⟩ := Dp.reads I d x v hd rx
  obtain ⟨bs, r2⟩ := Dp.reads I e y u he ry
  have h1 := Bool.and_eq_true_iff.mp sd
  have h2 := Bool.and_eq_true_iff.mp se
  have d1 := of_decide_eq_true h1.2
  exact SeqAt.eq_plain r1 r2 h1.1 h2.1 (by have := Nat.min_le_left d.depth e.depth; omega) ⟨.bl _, H, I, rfl, q⟩
theorem op_nep {X : Cx} (hu : X.A.units + 64 < cLine) : OpR X (compareOp .NotEq) (rNeP X.K) := by
  intro pins s σ H x y v u Q I rx ry h
  obtain ⟨d, hd, sd, e, he, se, q⟩ := h
  obtain ⟨as, r1⟩ := Dp.reads I d x v hd rx
  obtain ⟨bs, r2⟩ := Dp.reads I e y u he ry
  have h1 := Bool.and_eq_true_iff.mp sd
  have h2 := Bool.and_eq_true_iff.mp se
  have d1 := of_decide_eq_true h1.2
  exact SeqAt.ne_plain r1 r2 h1.1 h2.1 (by have := Nat.min_le_left d.depth e.depth; omega) ⟨.bl _, H, I, rfl, q⟩
abbrev sd (a : Wd) : PyData := .str (S a)
theorem eqvAll_strs : ∀ xs ys : List Wd, PyData.eqvAll (xs.map sd) (ys.map sd) = decide (xs = ys)
  | [], [] => rfl
  | [], _ :: _ => by simp [PyData.eqvAll]
  | _ :: _, [] => by simp [PyData.eqvAll]
  | x :: xs, y :: ys => by
    have e : (S x == S y) = decide (x = y) := by
      by_cases h : x = y
      · subst h; simp
      · rw [decide_eq_false h]; simpa using fun z => h (S_inj.mp z)
    simp only [List.map_cons, PyData.eqvAll, PyData.eqv, e, eqvAll_strs xs ys, List.cons.injEq, Bool.decide_and]
theorem eqv_strs (xs ys : List Wd) : PyData.eqv (.list (xs.map sd)) (.list (ys.map sd)) = decide (xs = ys) := by
  rw [← eqvAll_strs xs ys]; simp only [PyData.eqv]
theorem plain_strs : ∀ xs : List Wd, PyData.plainAll (xs.map sd) = true
  | [] => rfl
  | x :: r => by simp only [List.map_cons, PyData.plainAll, PyData.plain, plain_strs r, Bool.and_self]
theorem depth_strs : ∀ xs : List Wd, PyData.depthAll (xs.map sd) = 0
  | [] => rfl
  | x :: r => by simp only [List.map_cons, PyData.depthAll, PyData.depth, depth_strs r, Nat.max_self]
theorem ok_strs (xs : List Wd) : okD (.list (xs.map sd)) = true := by
  unfold okD
  simp only [PyData.plain, PyData.depth, plain_strs, depth_strs]
  decide
end One

namespace One
open PySem PySem.Spec PyProof.Rows L2
/-! ### lists: slices, the last item, append -/
def rSlLn (K : PySem.W.Frag) : V → Option Int → Option Int → Hp → VK → Prop := fun x lo hi H Q => ∃ a, x = .ref a ∧ ∃ xs, SqL K H a xs ∧ ∀ p, H p = none → Q (.ref p) (upd H p (.lst (cutV xs lo hi)))
theorem sl_l {X : Cx} : SlR X (rSlLn X.K) := SlR.imp sl_list fun x lo hi H Q ⟨a, e, xs, h, q⟩ => ⟨a, xs, e, h, q⟩
def rSlTn (K : PySem.W.Frag) : V → Option Int → Option Int → Hp → VK → Prop := fun x lo hi H Q => ∃ a, x = .ref a ∧ ∃ xs, SqT K H a xs ∧
  ¬ (HT.sIx xs.length 0 lo = 0 ∧ HT.sIx xs.length xs.length hi = xs.length) ∧ ∀ p, H p = none → Q (.ref p) (upd H p (.tup (cutV xs lo hi)))
theorem sl_t {X : Cx} : SlR X (rSlTn X.K) := SlR.imp sl_tup fun x lo hi H Q ⟨a, e, xs, h, n, q⟩ => ⟨a, xs, e, h, n, q⟩
theorem cutV_toI {xs : List V} {x : Int} (h : 0 ≤ x) : cutV xs none (some x) = xs.take x.toNat := by
  unfold cutV
  rw [HT.sIx_none, ← Int.toNat_of_nonneg h, HT.sIx_nat, List.drop_zero, Nat.sub_zero, Int.toNat_natCast]
  by_cases h2 : x.toNat ≤ xs.length
  · rw [Nat.min_eq_left h2]
  · rw [Nat.min_eq_right (by omega), List.take_of_length_le (Nat.le_refl _), List.take_of_length_le (by omega)]
theorem cutV_fromI {xs : List V} {x : Int} (h : 0 ≤ x) : cutV xs (some x) none = xs.drop x.toNat := by
  unfold cutV
  rw [HT.sIx_none, ← Int.toNat_of_nonneg h, HT.sIx_nat, Int.toNat_natCast]
  by_cases h2 : x.toNat ≤ xs.length
  · rw [Nat.min_eq_left h2, List.take_of_length_le]
    rw [List.length_drop]; exact Nat.le_refl _
  · rw [Nat.min_eq_right (by omega), List.drop_of_length_le (Nat.le_refl _), List.drop_of_length_le (by omega), List.take_nil]
def rIxLm (K : PySem.W.Frag) : R2 := fun x y H Q => ∃ p, x = .ref p ∧ y = .int (-1) ∧ ∃ xs, SqL K H p xs ∧ ∃ v, xs.getLast? = some v ∧ Q v H
theorem atI_m1 {xs : List V} {v : V} (h : xs.getLast? = some v) : atI xs (-1) = some v := by
  cases xs with
  | nil => simp at h
  | cons x r =>
    have e := List.dropLast_concat_getLast (List.cons_ne_nil x r)
    rw [← e]
    have : v = (x :: r).getLast (List.cons_ne_nil x r) := by
      rw [List.getLast?_eq_some_getLast (List.cons_ne_nil x r)] at h
      exact (Option.some.inj h).symm
    rw [this]
    exact atI_last _ _
theorem ix_lm {X : Cx} : IxR X (rIxLm X.K) := IxR.imp ix_list fun x y H Q ⟨p, hx, hy, xs, h, v, hv, q⟩ => ⟨p, xs, -1, v, hx, hy, h, atI_m1 hv, q⟩
def rApp : V → List V → Hp → VK → Prop := fun x vs H Q => ∃ l y, x = .ref l ∧ vs = [y] ∧ ∃ xs, H l = some (.lst xs) ∧ xs.length < 16000000 ∧ Q .non (upd H l (.lst (xs ++ [y])))
theorem MtM.imp {X : Cx} {id : String} {r r' : V → List V → Hp → VK → Prop} (h : MtM X id r) (i : ∀ x xs H Q, r' x xs H Q → r x xs H Q) : MtM X id r' := fun pins s σ H x xs v us Q I rx rs q => h pins s σ H x xs v us Q I rx rs (i _ _ _ _ q)
theorem mt_app {X : Cx} : MtM X "list.append" rApp := MtM.imp mt_append fun x vs H Q ⟨l, y, hx, hv, xs, h, hz, q⟩ => ⟨l, xs, y, hx, hv, h, Nat.lt_of_lt_of_le hz (by decide), q⟩
theorem tyL {K : PySem.W.Frag} {H : Hp} {p : Addr} {xs : List V} (h : SqL K H p xs) : tyV K "list" (.ref p) H := .inl ⟨rfl, _, h⟩
def rListOf (K : PySem.W.Frag) : List V → Hp → VK → Prop := fun xs H Q => ∃ p, xs = [.ref p] ∧ ∃ ys, SqL K H p ys ∧ ∀ l, H l = none → Q (.ref l) (upd H l (.lst ys))
theorem call_listl {X : Cx} : CallR X (.type "list") (rListOf X.K) := CallR.imp call_list_of fun xs H Q ⟨p, e, ys, h, q⟩ => ⟨p, ys, e, .inl h, q⟩
/-- [x, ..] * n -/
def rRepN : R2 := fun x y H Q => ∃ (l : Addr) (k : Int), x = .ref l ∧ y = .int k ∧ ∃ v, H l = some (.lst [v]) ∧ 0 ≤ k ∧ k ≤ 100000 ∧ ∀ p, H p = none → Q (.ref p) (upd H p (.lst (List.replicate k.toNat v)))
theorem op_repn {X : Cx} : OpR X (binaryOp .Mult) rRepN := OpR.imp op_rep fun x y H Q ⟨l, k, hx, hy, v, h, h0, h1, q⟩ => ⟨l, k, [v], hx, hy, h, by omega, by omega, sz (by show 1 * _ ≤ _; omega), by
  have e : (List.replicate k.toNat [v]).flatten = List.replicate k.toNat v := by
    generalize k.toNat = n
    induction n with
    | zero => rfl
    | succ n ih => rw [List.replicate_succ, List.flatten_cons, ih, List.replicate_succ]; rfl
  rw [e]; exact q⟩
section
variable {K : PySem.W.Frag} {a : Addr} {g : TG} {tb : TS} {D : Ends} {σ : L2.St} {H : Hp}
/-- over a list of texts that stays: Pv by what was taken -/
theorem for_wl {xs : List Wd} {j : Nat} (Pv : List Wd → L2.St → Hp → Prop) (h0 : Pv [] σ H) (hl : ∀ pre σ' H', Pv pre σ' H' → SqL K H' a (xs.map sv))
    (hs : ∀ pre x post σ' H', xs = pre ++ x :: post → Pv pre σ' H' → tb { D with nx := Pv (pre ++ [x]), ct := Pv (pre ++ [x]), bk := D.nx } (σ'.set j (some (sv x))) H') (hd : ∀ σ' H', Pv xs σ' H' → D.nx σ' H') :
    ∃ W : Nat → Nat → L2.St → Hp → Prop, (∃ m, W 0 m σ H) ∧ ∀ i m σ H, W i m σ H →
      ((Itl K a).stop i H ∧ D.nx σ H) ∨ ((Itl K a).go i H ∧ ∃ N : L2.St → Hp → Prop, (∀ σ' H', N σ' H' → ∃ m', m' < m ∧ W (i + 1) m' σ' H') ∧ ∀ x H', (Itl K a).yld i H x H' → gName j x σ H' fun σ2 H2 => tb { D with nx := N, ct := N, bk := D.nx } σ2 H2) := by
  refine for_list (xs := xs.map sv) (fun i σ' H' => Pv (xs.take i) σ' H') (by rw [List.take_zero]; exact h0) (fun i σ' H' _ p => hl _ _ _ p) (fun i x σ' H' hx p => ?_) (fun σ' H' p => hd σ' H' (by rw [List.length_map, List.take_length] at p; exact p))
  rw [List.getElem?_map] at hx
  cases e : xs[i]? with
  | none => rw [e] at hx; cases hx
  | some y =>
    rw [e] at hx
    obtain rfl : sv y = x := Option.some.inj hx
    have hi : i < xs.length := (List.getElem?_eq_some_iff.mp e).1
    have ey : xs[i] = y := (List.getElem?_eq_some_iff.mp e).2
    have e1 : xs = xs.take i ++ y :: xs.drop (i + 1) := by
      rw [← ey, List.getElem_cons_drop, List.take_append_drop]
    have e2 : xs.take (i + 1) = xs.take i ++ [y] := by rw [List.take_add_one, e]; rfl
    show tb { D with nx := fun σ' H' => Pv (xs.take (i + 1)) σ' H', ct := fun σ' H' => Pv (xs.take (i + 1)) σ' H', bk := D.nx } (σ'.set j (some (sv y))) H'
    rw [e2]
    exact hs _ y _ σ' H' e1 p
end
/-! ### words -/
def Word (a : Wd) : Prop := 1 ≤ a.length ∧ a.length ≤ 10 ∧ ∀ c ∈ a, c ∈ ABC
def Abc (a : Wd) : Prop := ∀ c ∈ a, c ∈ ABC
structure Code (xs : List Wd) : Prop where
  nd : xs.Nodup
  le : xs.length ≤ 12
  wd : ∀ a ∈ xs, Word a
theorem Code.len {xs : List Wd} (c : Code xs) {a : Wd} (h : a ∈ xs) : a.length ≤ 10 := (c.wd a h).2.1
/-- an item by a remainder -/
theorem pickm {α : Type} (xs : List α) (i : Int) (h : xs ≠ []) : ∃ v, v ∈ xs ∧ xs[(i % (xs.length : Int)).toNat]? = some v := by
  have hp : (0 : Int) < (xs.length : Int) := by
    have := List.length_pos_iff.mpr h
    omega
  exact pick (Int.emod_nonneg _ (Int.ne_of_gt hp)) (Int.emod_lt_of_pos _ hp)
theorem get_map {α β : Type} {f : α → β} {xs : List α} {i : Nat} {v : α} (h : xs[i]? = some v) : (xs.map f)[i]? = some (f v) := by
  rw [List.getElem?_map, h]; rfl
end One
namespace One
open PySem PySem.Spec PyProof.Rows L2
/-- an item at a place that lies in the list: whichever -/
theorem ex_pick {α : Type} {xs : List α} {i : Int} {Q : α → Prop} (h0 : 0 ≤ i) (h1 : i < xs.length) (q : ∀ v, v ∈ xs → Q v) : ∃ v, xs[i.toNat]? = some v ∧ Q v := by
  obtain ⟨v, hv, e⟩ := pick h0 h1
  exact ⟨v, e, q v hv⟩
theorem ex_pickm {α : Type} {xs : List α} {i : Int} {Q : α → Prop} (h : xs ≠ []) (q : ∀ v, v ∈ xs → Q v) : ∃ v, xs[(i % (xs.length : Int)).toNat]? = some v ∧ Q v := by
  obtain ⟨v, hv, e⟩ := pickm xs i h
  exact ⟨v, e, q v hv⟩
theorem Abc.app {a b : Wd} (h : Abc a) (k : Abc b) : Abc (a ++ b) := fun c hc => (List.mem_append.mp hc).elim (h c) (k c)
theorem Abc.take {a : Wd} (h : Abc a) (n : Nat) : Abc (a.take n) := fun c hc => h c (List.mem_of_mem_take hc)
theorem Abc.drop {a : Wd} (h : Abc a) (n : Nat) : Abc (a.drop n) := fun c hc => h c (List.mem_of_mem_drop hc)
theorem Word.abc {a : Wd} (h : Word a) : Abc a := h.2.2
theorem cutW_abc {a : Wd} (h : Abc a) (lo hi : Option Int) : Abc (cutW a lo hi) := fun c hc => h c (List.mem_of_mem_drop (List.mem_of_mem_take hc))
theorem Word.cut {a : Wd} (h : Abc a) (h1 : 1 ≤ a.length) {n : Int} (h2 : 1 ≤ n) (h3 : n ≤ 10) : Word (cutW a none (some n)) := by
  rw [cutW_toI a (by omega)]
  refine ⟨?_, ?_, h.take _⟩ <;> rw [List.length_take] <;> omega
end One
namespace One
open PySem PySem.Spec PyProof.Rows L2
def rSetLn : V → V → V → Hp → (Hp → Prop) → Prop := fun o i v H Q => ∃ (p : Addr) (k : Int), o = .ref p ∧ i = .int k ∧ ∃ xs, H p = some (.lst xs) ∧ 0 ≤ k ∧ k < xs.length ∧ Q (upd H p (.lst (xs.set k.toNat v)))
theorem set_ln {X : Cx} : PSet X rSetLn := fun pins s σ H o i v ov iv u Q I ro ri rv ⟨p, k, h1, h2, xs, h3, h4, h5, q⟩ =>
  set_list pins s σ H o i v ov iv u Q I ro ri rv ⟨p, xs, k, k.toNat, h1, h2, h3, by unfold ixN; rw [if_pos h4, if_pos h5], q⟩
def rSumN (K : PySem.W.Frag) : List V → Hp → VK → Prop := fun vs H Q => ∃ (a : Addr), vs = [V.ref a] ∧ ∃ ns : List Int, SqL K H a (ns.map V.int) ∧ Q (.int ns.sum) H
theorem call_sumn {X : Cx} (hc : X.calm = true) : CallR X (.builtin "sum") (rSumN X.K) := fun pins s σ H vs us Q I r ⟨a, h1, ns, h2, q⟩ => cr_sum hc pins s σ H vs us Q I r ⟨a, ns, h1, h2, q⟩
end One

namespace One
open PySem PySem.Spec PyProof.Rows L2
/-! ### sorted(texts, key=len) -/
theorem len_turn {prog : Program} {w : World} {A : Around} {s : Shared} {z : Str} {t : Tok} (hz : z.length ≤ sizeLine) :
    wpAny (model prog w) A (call (.builtin "len") [.str z t]) (PySem.W.KeyPure (.int z.length) s) (fun _ _ => False) s := by
  have hn := line63
  exact len_str (by omega) ⟨s.heap, _, rfl, fun _ _ h => h, .int _ _⟩
theorem each_strs : ∀ {us : List Value} {xs : List Str}, StrsAre us xs → PySem.W.EachIs (fun v x => ∃ t, v = .str x t) us xs
  | _, _, .nil => .nil
  | _, _, .cons _ t h => .cons ⟨t, rfl⟩ (each_strs h)
theorem strs_each : ∀ {us : List Value} {xs : List Str}, PySem.W.EachIs (fun v x => ∃ t, v = .str x t) us xs → StrsAre us xs
  | _, _, .nil => .nil
  | _, _, .cons ⟨t, e⟩ h => by subst e; exact .cons _ t (strs_each h)
def tSortLen (K : PySem.W.Frag) (ta : TA) : TE := fun σ H Q => ta σ H fun vs H1 => ∃ a, vs = [.ref a] ∧ ∃ ws : List Wd, SqL K H1 a (ws.map sv) ∧ ws.length ≤ 1000 ∧ (∀ w ∈ ws, w.length ≤ 1000) ∧ ∀ (zs : List Wd) (p : Addr), zs.Perm ws → zs.Pairwise (fun x y => x.length ≤ y.length) → H1 p = none → Q (.ref p) (upd H1 p (.lst (zs.map sv)))
theorem map_strs (ws : List Wd) : (ws.map S).map V.str = ws.map sv := by rw [List.map_map]; rfl
theorem perm_S {zs : List Str} {ws : List Wd} (h : zs.Perm (ws.map S)) : ∃ ys : List Wd, zs = ys.map S ∧ ys.Perm ws := by
  refine ⟨zs.map fun z => z.cps.toList, ?_, ?_⟩
  · rw [List.map_map]
    have : ∀ z ∈ zs, (S ∘ fun z => z.cps.toList) z = z := fun z hz => by
      obtain ⟨a, _, rfl⟩ := List.mem_map.mp (h.mem_iff.mp hz)
      rfl
    exact (List.map_id' zs).symm.trans (List.map_congr_left fun z hz => (this z hz).symm)
  · have := h.map fun z : Str => z.cps.toList
    rw [List.map_map] at this
    have e : ((fun z : Str => z.cps.toList) ∘ S) = id := by funext a; rfl
    rw [e, List.map_id] at this
    exact this
theorem pe_sortLen {X : Cx} {p p2 p3 pos : Pos} {e : Expr} {ta : TA} (hu : X.A.units + 64 < cLine) (hg : Gl X "sorted") (hm : X.mg "sorted" = none) (hgl : Gl X "len") (hml : X.mg "len" = none) (ha : PA X [e] ta)
    (h1 : backTo pos (starEach [e] X.env) = (false, eval e X.env) :: backTo pos (starEach [] X.env) := by rfl) (hpl : (backTo pos (starEach [e] X.env)).any (·.1) = false := by rfl)
    (hall : (backToKw pos (keywordEach [⟨some (Str.ofString "key"), .Name "len" p2, p3⟩] X.env)).all (·.1.isSome) = true := by rfl) (hnone : (backToKw pos (keywordEach [⟨some (Str.ofString "key"), .Name "len" p2, p3⟩] X.env)).any (·.1.isNone) = false := by rfl) (hks : (backToKw pos (keywordEach [⟨some (Str.ofString "key"), .Name "len" p2, p3⟩] X.env)).filterMap (·.1) = [Str.ofString "key"] := by rfl) :
    PE X (.Call (.Name "sorted" p) [e] [⟨some (Str.ofString "key"), .Name "len" p2, p3⟩] pos) (tSortLen X.K ta) := by
  refine ⟨fun pins s σ H Q I h => ?_⟩
  refine wpAny_Call_Name_kw (ld_blt I hg hm boot_sorted ?_)
  refine PyProof.Rows.callWith_kw (thn (ha.run pos pins s σ H _ I h) fun us s1 ⟨vs, H1, I1, r1, q1⟩ => ?_) h1 hpl hall hnone
  obtain ⟨a, rfl, ws, hS, hl, hb, q⟩ := q1
  obtain rfl := Vals.ref1 r1
  show wpAny _ _ (evalAll ((do let v ← eval (.Name "len" p2) X.env; standAt pos; pure v) :: [])) _ _ s1
  refine wpAny_evalAll_cons (wpAny_bind (ld_blt I1 hgl hml boot_len (wpAny_bind (wpAny_standAt (wpAny_pure (wpAny_evalAll_nil ?_))))))
  rw [hks]
  show wpAny _ _ (call (.builtin "sorted") [.ref a] [(Str.ofString "key", .builtin "len")]) _ _ s1
  obtain ⟨its, rv, pl, _⟩ := I1.list hS
  rw [← map_strs] at rv
  have e1 := each_strs rv.strs
  refine PySem.W.sorted_key_data (b := false) (fun z : Str => .int (z.length : Int)) pl.isList e1 ?_ ?_ (by rw [List.length_map]; exact sz (by omega)) (fun _ _ => ?_) (PyProof.Rows.ksk_s1 _ _) (fun _ => PyProof.Rows.ksk_l1 _ _) (fun x => PyProof.Rows.ksk_t4 "len" x) ?_ ?_
  · exact fun d hd d' hd' => by
      obtain ⟨a, _, rfl⟩ := List.mem_map.mp hd
      obtain ⟨b, _, rfl⟩ := List.mem_map.mp hd'
      rfl
  · exact .inr fun d hd => by
      obtain ⟨a, _, rfl⟩ := List.mem_map.mp hd
      exact ⟨fun z => (by cases z), fun _ z => (by cases z)⟩
  · show X.A.units + 2 + 0 < cLine
    omega
  · rintro v x ⟨t, rfl⟩ hx h tk _
    obtain ⟨w, hw, rfl⟩ := List.mem_map.mp hx
    exact len_turn (by rw [S_len]; exact sz (by have := hb w hw; omega))
  · intro out c h' tk keep fr new hlen each
    rw [PySem.W.dataLe_int] at each
    obtain ⟨ys, eys, py⟩ := perm_S (List.mergeSort_perm (ws.map S) _)
    have pw := List.pairwise_mergeSort (le := fun a b : Str => decide ((a.length : Int) ≤ b.length)) (fun a b c h1 h2 => by simp only [decide_eq_true_eq] at *; omega) (fun a b => by simp only [Bool.or_eq_true, decide_eq_true_eq]; omega) (ws.map S)
    rw [eys] at pw each
    rw [List.pairwise_map] at pw
    have vo : Vals (ys.map sv) out := by rw [← map_strs]; exact vals_of_strs (strs_each each)
    have lo : (ys.map sv).length ≤ sizeLine := by rw [List.length_map, py.length_eq]; exact sz (by omega)
    exact ⟨.ref (s1.heap.objs.size + 1), upd H1 (s1.heap.objs.size + 1) (.lst (ys.map sv)), I1.laid (t' := tk) keep (Nat.le_succ _) ⟨lo, out, c, vo, new⟩, rfl, q ys _ py (pw.imp fun h => by simpa [S_len] using h) (I1.hok.fresh (Nat.le_succ _))⟩
end One
namespace One
open PySem PySem.Spec PyProof.Rows L2
def rSortedW (K : PySem.W.Frag) : List V → Hp → VK → Prop := fun vs H Q => ∃ a : Addr, vs = [V.ref a] ∧ ∃ xs : List Wd, SqL K H a (xs.map sv) ∧ xs.length < 64 ∧
  ∀ (ys : List Wd), ys.Perm xs → sortedS (ys.map S) = true → ∀ p : Addr, H p = none → Q (.ref p) (upd H p (.lst (ys.map sv)))
theorem call_sortedw {X : Cx} : CallR X (.builtin "sorted") (rSortedW X.K) := fun pins s σ H vs us Q I r ⟨a, e, xs, h1, h2, q⟩ =>
  cr_sortedS pins s σ H vs us Q I r ⟨a, xs.map S, e, by rw [map_strs]; exact h1, by rw [List.length_map]; exact h2, fun ys p py so hp => by
    obtain ⟨zs, rfl, pz⟩ := perm_S py
    rw [map_strs]
    exact q zs pz so p hp⟩
end One
namespace One
open PySem PySem.Spec PyProof.Rows L2
section
variable {K : PySem.W.Frag} {tt : TT} {te : TE} {Qd : Hp → Prop} {σ : L2.St} {H1 : Hp} {a D : Addr}
def wv : V → Wd
  | .str x => x.cps.toList
  | _ => []
/-- a comprehension over a list of texts -/
theorem lc_w {xs : List Wd} {j : Nat} (c : Wd → Bool) (y : Wd → V) (hD : H1 D = none) (hS : SqL K H1 a (xs.map sv)) (hz : xs.length ≤ 100000)
    (ht : ∀ x ∈ xs, EvB tt ((wipe σ [j]).set j (some (sv x))) H1 (c x)) (he : ∀ x ∈ xs, c x = true → EvV te ((wipe σ [j]).set j (some (sv x))) H1 (y x))
    (hd : ∀ H', Same H1 H' → H' D = some (.lst ((xs.filter c).map y)) → Qd H') :
    ∃ W : Nat → Nat → Hp → Prop, (∃ m, W 0 m (upd H1 D (.lst []))) ∧ ∀ i m H, W i m H →
      ((Itl K a).stop i H ∧ Qd H) ∨ ((Itl K a).go i H ∧ ∃ Nx : Hp → Prop, (∀ H', Nx H' → ∃ m', m' < m ∧ W (i + 1) m' H') ∧ ∀ x H', (Itl K a).yld i H x H' → gName j x (wipe σ [j]) H' fun σ2 H2 => wipe σ2 [j] = wipe σ [j] ∧ tt σ2 H2 fun b H3 =>
        if b = true then te σ2 H3 fun y H4 => ∃ acc, H4 D = some (.lst acc) ∧ acc.length < sizeLine ∧ Nx (upd H4 D (.lst (acc ++ [y]))) else Nx H3) := by
  refine lc_vals (fun v => c (wv v)) (fun v => y (wv v)) hD hS (by rw [List.length_map]; exact hz) (fun x hx => ?_) (fun x hx hc => ?_) (fun H' e h => hd H' e ?_)
  · obtain ⟨b, hb, rfl⟩ := List.mem_map.mp hx
    exact ht b hb
  · obtain ⟨b, hb, rfl⟩ := List.mem_map.mp hx
    exact he b hb hc
  · rw [List.filter_map, List.map_map] at h
    exact h
theorem evYes {σ : L2.St} {H : Hp} : EvB tYes σ H true := fun H' e Q q => q _ (Same.refl _)
end
end One
namespace One
open PySem PySem.Spec PyProof.Rows L2
section
variable {tb : TS} {D : Ends} {σ : L2.St} {H : Hp}
/-- over a text, sign by sign: Pv by what was taken -/
theorem for_str {a : Wd} {j : Nat} (Pv : Wd → L2.St → Hp → Prop) (h0 : Pv [] σ H)
    (hs : ∀ pre x post σ' H', a = pre ++ x :: post → Pv pre σ' H' → tb { D with nx := Pv (pre ++ [x]), ct := Pv (pre ++ [x]), bk := D.nx } (σ'.set j (some (sv [x]))) H') (hd : ∀ σ' H', Pv a σ' H' → D.nx σ' H') :
    ∃ W : Nat → Nat → L2.St → Hp → Prop, (∃ m, W 0 m σ H) ∧ ∀ i m σ H, W i m σ H →
      ((Its (S a)).stop i H ∧ D.nx σ H) ∨ ((Its (S a)).go i H ∧ ∃ N : L2.St → Hp → Prop, (∀ σ' H', N σ' H' → ∃ m', m' < m ∧ W (i + 1) m' σ' H') ∧ ∀ x H', (Its (S a)).yld i H x H' → gName j x σ H' fun σ2 H2 => tb { D with nx := N, ct := N, bk := D.nx } σ2 H2) := by
  refine for_it walk_str (fun i σ' H' => Pv (a.take i) σ' H') (by rw [List.take_zero]; exact h0) (fun _ _ _ _ _ => trivial) ?_ (fun σ' H' p => hd σ' H' ?_)
  · rintro i x σ H H' hi p ⟨rfl, c, hc, rfl⟩
    have hc' : a[i]? = some c := by
      rw [← hc]; exact (List.getElem?_toArray).symm
    obtain ⟨hi', ey⟩ := List.getElem?_eq_some_iff.mp hc'
    have e1 : a = a.take i ++ c :: a.drop (i + 1) := by rw [← ey, List.getElem_cons_drop, List.take_append_drop]
    have e2 : a.take (i + 1) = a.take i ++ [c] := by rw [List.take_add_one, hc']; rfl
    show tb { D with nx := fun σ' H' => Pv (a.take (i + 1)) σ' H', ct := fun σ' H' => Pv (a.take (i + 1)) σ' H', bk := D.nx } (σ.set j (some (sv [c]))) _
    rw [e2]
    exact hs _ c _ σ _ e1 p
  · have : (S a).cps.size = a.length := by show a.toArray.size = _; simp
    rw [this, List.take_length] at p
    exact p
end
end One
namespace One
open PySem PySem.Spec PyProof.Rows L2
abbrev di (i : Int) : PyData := .int i
theorem dpAll_ints {K : PySem.W.Frag} {H : Hp} : ∀ xs : List Int, DpAll K H (xs.map V.int) (xs.map di)
  | [] => .nil
  | x :: r => .cons (.int _) (dpAll_ints r)
theorem eqvAll_ints : ∀ xs ys : List Int, PyData.eqvAll (xs.map di) (ys.map di) = decide (xs = ys)
  | [], [] => rfl
  | [], _ :: _ => by simp [PyData.eqvAll]
  | _ :: _, [] => by simp [PyData.eqvAll]
  | x :: xs, y :: ys => by
    have e : PyData.eqv (.int x) (.int y) = decide (x = y) := by
      simp only [PyData.eqv]
      by_cases h : x = y
      · subst h; simp
      · rw [decide_eq_false h]; simpa using h
    simp only [List.map_cons, PyData.eqvAll, e, eqvAll_ints xs ys, List.cons.injEq, Bool.decide_and]
theorem eqv_ints (xs ys : List Int) : PyData.eqv (.list (xs.map di)) (.list (ys.map di)) = decide (xs = ys) := by
  rw [← eqvAll_ints xs ys]; simp only [PyData.eqv]
theorem plain_ints : ∀ xs : List Int, PyData.plainAll (xs.map di) = true
  | [] => rfl
  | x :: r => by simp only [List.map_cons, PyData.plainAll, PyData.plain, plain_ints r, Bool.and_self]
theorem depth_ints : ∀ xs : List Int, PyData.depthAll (xs.map di) = 0
  | [] => rfl
  | x :: r => by simp only [List.map_cons, PyData.depthAll, PyData.depth, depth_ints r, Nat.max_self]
theorem ok_ints (xs : List Int) : okD (.list (xs.map di)) = true := by
  unfold okD
  simp only [PyData.plain, PyData.depth, plain_ints, depth_ints]
  decide
theorem ok_nil : okD (.list []) = true := rfl
def rClearN : V → List V → Hp → VK → Prop := fun x vs H Q => ∃ l : Addr, x = .ref l ∧ vs = [] ∧ ∃ xs, H l = some (.lst xs) ∧ Q .non (upd H l (.lst []))
theorem mt_clrn {X : Cx} : MtM X "list.clear" rClearN := MtM.imp mt_clear fun x vs H Q ⟨l, e1, e2, xs, h, q⟩ => ⟨l, xs, e1, e2, h, q⟩
end One

namespace One
open PySem PySem.Spec PyProof.Rows L2
/-! ### dicts by raw tables -/
theorem kI (i : Int) : V.int i = kV (.inl i) := rfl
theorem kS (a : Wd) : sv a = kV (.inr (S a)) := rfl
def tDInN (neg : Bool) (ty td : TE) : TE := fun σ H Q => ty σ H fun y H1 => td σ H1 fun x H2 => ∃ a, x = .ref a ∧ ∃ k, y = kV k ∧ ∃ kvs, Rd H2 a (.dK kvs) ∧ Q (.bl (if neg then !(valV kvs k).isSome else (valV kvs k).isSome)) H2
def tDGetN (td ty : TE) : TE := fun σ H Q => td σ H fun x H1 => ty σ H1 fun y H2 => ∃ a, x = .ref a ∧ ∃ k, y = kV k ∧ ∃ kvs, Rd H2 a (.dK kvs) ∧ ∃ v, valV kvs k = some v ∧ Q v H2
def sDPutN (td ty tv : TE) : TS := fun D σ H => tv σ H fun v H1 => td σ H1 fun x H2 => ty σ H2 fun y H3 => ∃ a, x = .ref a ∧ ∃ k, y = kV k ∧ ∃ kvs, H3 a = some (.dK kvs) ∧ kvs.length < 100000 ∧ D.nx σ (upd H3 a (.dK (putK kvs k v)))
def tDGet1N (td ty : TE) : TE := fun σ H Q => td σ H fun x H1 => ∃ a, x = .ref a ∧ ∃ kvs0, Rd H1 a (.dK kvs0) ∧ ty σ H1 fun y H2 => ∃ k, y = kV k ∧ ∃ kvs, Rd H2 a (.dK kvs) ∧ Q ((valV kvs k).getD .non) H2
theorem DGet.kr {H : Hp} {a : Addr} {kvs : List (Key × V)} {k : Key} (e : Rd H a (.dK kvs)) : DGet H a (kV k) (valV kvs k) := .inl ⟨kvs, k, e, rfl, rfl⟩
section
variable {X : Cx} {o i e value : Expr} {pos pos' apos cpos : Pos} {td ty tv : TE}
theorem pc_dinN (hu : X.A.units + 1 < cLine) (hi : PE X i ty) (ho : PE X o td) : PC X .In i o (tDInN false ty td) := by
  refine ⟨fun pins s σ H Q I h => ?_⟩
  refine thn (hi.run pins s σ H _ I h) fun iv s1 ⟨y, H1, I1, ry, q1⟩ => thn (ho.run pins s1 σ H1 _ I1 q1) fun u s2 ⟨x, H2, I2, rx, a, ex, k, ey, kvs, hk, q2⟩ => ?_
  subst ex ey
  obtain rfl : u = Value.ref a := rx
  exact d_in hu I2 (DGet.kr hk) ry fun s3 I3 => ⟨.bl (valV kvs k).isSome, H2, I3, rfl, q2⟩
theorem pc_dniN (hu : X.A.units + 1 < cLine) (hi : PE X i ty) (ho : PE X o td) : PC X .NotIn i o (tDInN true ty td) := by
  refine ⟨fun pins s σ H Q I h => ?_⟩
  refine thn (hi.run pins s σ H _ I h) fun iv s1 ⟨y, H1, I1, ry, q1⟩ => thn (ho.run pins s1 σ H1 _ I1 q1) fun u s2 ⟨x, H2, I2, rx, a, ex, k, ey, kvs, hk, q2⟩ => ?_
  subst ex ey
  obtain rfl : u = Value.ref a := rx
  exact d_notIn hu I2 (DGet.kr hk) ry fun s3 I3 => ⟨.bl (!(valV kvs k).isSome), H2, I3, rfl, q2⟩
theorem pe_dgetN (hu : X.A.units + 1 < cLine) (ho : PE X o td) (hi : PE X i ty) (hs : NoSl i) : PE X (.Subscript o i pos) (tDGetN td ty) := by
  refine ⟨fun pins s σ H Q I h => ?_⟩
  refine subD_of PySem.F.slot_dict_getitem.lookup hs (thn (ho.run pins s σ H _ I h) fun u s1 ⟨x, H1, I1, rx, q1⟩ => thn (hi.run pins s1 σ H1 _ I1 q1) fun iv s2 ⟨y, H2, I2, ry, a, ex, k, ey, kvs, hk, v, hv, q2⟩ => ?_)
  subst ex ey
  obtain rfl : u = Value.ref a := rx
  have g : DGet H2 a (kV k) (some v) := by rw [← hv]; exact DGet.kr hk
  exact ⟨dict_typeIs I2 g, d_getItem hu I2 g ry fun w' s3 I3 rw' => ⟨v, H2, I3, rw', q2⟩⟩
theorem ps_dputN (hu : X.A.units + 1 < cLine) (ho : PE X o td) (hi : PE X i ty) (hv : PE X value tv) (hs : swapsWith value (some (.Subscript o i pos')) pos.line X.env = pure false) :
    PS X (.Assign [.Subscript o i pos'] value pos) (sDPutN td ty tv) := by
  refine ⟨fun pins s σ H D I h => ?_⟩
  refine wpAny_Assign_Subscript (thn (hv.run pins s σ H _ I h) fun r s1 ⟨v, H1, I1, rv, q1⟩ => thn (ho.run pins s1 σ H1 _ I1 q1) fun u s2 ⟨x, H2, I2, rx, q2⟩ => thn (hi.run pins s2 σ H2 _ I2 q2) fun iv s3 ⟨y, H3, I3, ry, a, ex, k, ey, kvs, hk, hl, q3⟩ => ?_) hs
  subst ex ey
  obtain rfl : u = Value.ref a := rx
  exact d_setItem hu I3 (DPut.k hk (szl hl)) ry rv fun s4 I4 => ⟨σ, _, I4, q3⟩
theorem pe_dget1N (hu : X.A.units + 1 < cLine) (ho : PE X o td) (he : PE X e ty) (m : M1 X o "get" apos e cpos) : PE X (.Call (.Attribute o "get" apos) [e] [] cpos) (tDGet1N td ty) := by
  refine ⟨fun pins s σ H Q I h => ?_⟩
  refine wpAny_Call_method m.base m.few m.line PySem.F.plainAttrs_dict PySem.F.slot_dict_get PySem.F.type_dict_get (thn (ho.run pins s σ H _ I h) fun u s1 ⟨x, H1, I1, rx, a, ex, kvs0, d0, q1⟩ => ?_)
  subst ex
  obtain rfl : u = Value.ref a := rx
  obtain ⟨t1, t2, _⟩ := isD_at I1 (.inl ⟨kvs0, d0⟩)
  refine ⟨t1, t2, ?_⟩
  rw [m.trees]
  refine Calls.callWith_builtin rfl (Calls.evalArgs_plain (Calls.spliced_cons (thn (he.run pins s1 σ H1 _ I1 q1) fun iv s2 ⟨y, H2, I2, ry, k, ey, kvs, hk, q2⟩ => Calls.spliced_nil ?_)))
  subst ey
  exact d_get1 hu I2 (DGet.kr hk) ry fun w' s3 I3 rw' => ⟨_, H2, I3, rw', q2⟩
def rLenDN : List V → Hp → VK → Prop := fun xs H Q => ∃ a, xs = [V.ref a] ∧ ∃ kvs, H a = some (.dK kvs) ∧ Q (.int kvs.length) H
theorem call_lendn : CallR X (.builtin "len") rLenDN := CallR.imp call_lenD fun xs H Q ⟨a, e, kvs, h, q⟩ => ⟨a, kvs, e, h, q⟩
/-- an int in a list of ints -/
def rInN (K : PySem.W.Frag) (neg : Bool) : R2 := fun x y H Q => ∃ (n : Int) (p : Addr), x = .int n ∧ y = .ref p ∧ ∃ ns : List Int, SqL K H p (ns.map V.int) ∧ Q (.bl (if neg then !decide (n ∈ ns) else decide (n ∈ ns))) H
theorem inV_ints (n : Int) (ns : List Int) : inV (.int n) (ns.map V.int) = decide (n ∈ ns) := by
  unfold inV
  rw [List.any_map, Bool.eq_iff_iff, List.any_eq_true, decide_eq_true_iff]
  constructor
  · rintro ⟨x, hx, e⟩
    have e2 : (x == n) = true := e
    have e3 : x = n := by simpa using e2
    rw [← e3]; exact hx
  · intro h
    exact ⟨n, h, by show (n == n) = true; simp⟩
theorem flat_ints (xs : List Int) : (xs.map V.int).all flatV = true := by
  rw [List.all_eq_true]
  intro v hv
  obtain ⟨a, _, rfl⟩ := List.mem_map.mp hv
  rfl
theorem op_inn : OpR X (compareOp .In) (rInN X.K false) := OpR.imp op_in_seq fun x y H Q ⟨a, p, hx, hy, xs, h, q⟩ => ⟨p, xs.map V.int, hy, .inl h, by rw [hx]; rfl, flat_ints xs, by rw [hx, inV_ints]; exact q⟩
theorem op_nin : OpR X (compareOp .NotIn) (rInN X.K true) := OpR.imp op_notIn_seq fun x y H Q ⟨a, p, hx, hy, xs, h, q⟩ => ⟨p, xs.map V.int, hy, .inl h, by rw [hx]; rfl, flat_ints xs, by rw [hx, inV_ints]; exact q⟩
end
end One

namespace One
open PySem PySem.Spec PyProof.Rows L2
/-! ### methods -/
/-- the method m of the class C -/
def DefM (K : PySem.W.Frag) (C : Addr) (m qual : Str) (st : Stmt) : Prop := ∃ f fd, Meth K C m f ∧ FunD K m qual (defArgs st) (defBody st) (defScope st) [] [] f fd
/-- the class C under its name, and its __init__ -/
def DefI (K : PySem.W.Frag) (mg : Str → Option Value) (C : Addr) (x qual : Str) (st : Stmt) : Prop := ∃ f fd, Mk K C f ∧ mg x = some (.ref C) ∧ FunD K "__init__" qual (defArgs st) (defBody st) (defScope st) [] [] f fd
structure CalM (P : Program) (w : World) (K : PySem.W.Frag) (mg : Str → Option Value) (base : Heap) (CX : CXT) (C : Addr) (m : Str) (k : Nat) (ps : List Str) (sp : Sp) : Prop where
  ex : ∃ f fd, Meth K C m f ∧ Binds K fd ps [] ∧ FnOk P w K mg base CX k f fd ps sp
structure CalI (P : Program) (w : World) (K : PySem.W.Frag) (mg : Str → Option Value) (base : Heap) (CX : CXT) (C : Addr) (x : Str) (k : Nat) (ps : List Str) (sp : Sp) : Prop where
  ex : ∃ f fd, Mk K C f ∧ mg x = some (.ref C) ∧ Binds K fd ps [] ∧ FnOk P w K mg base CX k f fd ps sp
section
variable {P : Program} {w : World} {K : PySem.W.Frag} {mg : Str → Option Value} {base : Heap} {CX : CXT} {C : Addr} {x m qual : Str} {st : Stmt} {N ps : List Str} {k : Nat} {sp : Sp}
theorem DefM.cal (D : DefM K C m qual st) (S : FnScope N ps (defScope st))
    (hb : ∀ (kV doc pm : Value) (an : Option Addr) (cdv ct : Value) (us : List Value), us.length = ps.length → bindArgs (PySem.W.fnOf m qual (defArgs st) (defBody st) (defScope st) .none kV doc pm an cdv ct) ⟨us, []⟩ = pure (ps.zip us))
    (len : ∀ vs H Q E, sp vs H Q E → vs.length = ps.length)
    (hbody : ∀ (f : Addr) (cdv : Value) (A : Around) (outer : List Env) (s : Shared) (H : Hp) (vs : List V) (Q : VK) (E : XK), Room k (A.deeper (envOfC qual (defScope st) s.heap.objs.size f cdv)) → sp vs H Q E →
      ∃ t, PSs (cxOf CX P w K mg base N qual (defScope st) f cdv A outer s H E) (defBody st) t ∧ t { nx := fun _ H' => Q .non H', rt := Q } (start N vs) H) : CalM P w K mg base CX C m (k + 1) ps sp := by
  obtain ⟨f, fd, hm, F⟩ := D
  exact ⟨f, fd, hm, F.bindsN hb, F.ok S len fun cdv A outer s H vs Q E hr h => hbody f cdv A outer s H vs Q E hr h⟩
theorem DefI.cal (D : DefI K mg C x qual st) (S : FnScope N ps (defScope st))
    (hb : ∀ (kV doc pm : Value) (an : Option Addr) (cdv ct : Value) (us : List Value), us.length = ps.length → bindArgs (PySem.W.fnOf "__init__" qual (defArgs st) (defBody st) (defScope st) .none kV doc pm an cdv ct) ⟨us, []⟩ = pure (ps.zip us))
    (len : ∀ vs H Q E, sp vs H Q E → vs.length = ps.length)
    (hbody : ∀ (f : Addr) (cdv : Value) (A : Around) (outer : List Env) (s : Shared) (H : Hp) (vs : List V) (Q : VK) (E : XK), Room k (A.deeper (envOfC qual (defScope st) s.heap.objs.size f cdv)) → sp vs H Q E →
      ∃ t, PSs (cxOf CX P w K mg base N qual (defScope st) f cdv A outer s H E) (defBody st) t ∧ t { nx := fun _ H' => Q .non H', rt := Q } (start N vs) H) : CalI P w K mg base CX C x (k + 1) ps sp := by
  obtain ⟨f, fd, hm, hg, F⟩ := D
  exact ⟨f, fd, hm, hg, F.bindsN hb, F.ok S len fun cdv A outer s H vs Q E hr h => hbody f cdv A outer s H vs Q E hr h⟩
end
section
variable {X : Cx} {CX : CXT} {j k : Nat} {C : Addr} {ps : List Str} {sp : Sp} {E : XK} {x m : Str} {p pos apos : Pos} {o e : Expr} {es : List Expr} {ta : TE} {t : TA}
theorem pe_calM {pl : Sem Bool} (M : CalM X.prog X.w X.K X.mg X.base CX0 C m k ps sp) (c : Cls X.K C) (hr : Room j X.A) (he : PE X o ta) (ha : PA X (e :: es) t) (hk : k ≤ j := by decide)
    (hst : starEach (e :: es) X.env = (false, eval e X.env) :: starEach es X.env := by rfl) (hpl : (backTo pos (starEach es X.env)).any (·.1) = false := by rfl)
    (ht : eval (.Call (.Attribute o m apos) (e :: es) [] pos) X.env = (do
      let ov ← eval o X.env
      standAt apos.atName
      let (f, first) ← holding [ov] (getMethod ov m pl)
      callWith pos f first (backTo pos (starEach (e :: es) X.env)) (backToKw pos (keywordEach [] X.env))) := by rfl) :
    PE X (.Call (.Attribute o m apos) (e :: es) [] pos) (tMeth C m sp [] E0 ta t) := by
  obtain ⟨f, fd, hm, hb, F⟩ := M.ex
  exact pe_meth he c hm F (hr.mono hk) hb .nil pass0 ha hst hpl ht
theorem pe_calM0 {pl : Sem Bool} (M : CalM X.prog X.w X.K X.mg X.base CX0 C m k ps sp) (c : Cls X.K C) (hr : Room j X.A) (he : PE X o ta) (hk : k ≤ j := by decide)
    (ht : eval (.Call (.Attribute o m apos) [] [] pos) X.env = (do
      let ov ← eval o X.env
      standAt apos.atName
      let (f, first) ← holding [ov] (getMethod ov m pl)
      callWith pos f first (backTo pos (starEach [] X.env)) (backToKw pos (keywordEach [] X.env))) := by rfl) :
    PE X (.Call (.Attribute o m apos) [] [] pos) (tMeth C m sp [] E0 ta tNil) := by
  obtain ⟨f, fd, hm, hb, F⟩ := M.ex
  exact pe_meth0 he c hm F (hr.mono hk) hb .nil pass0 ht
theorem pe_calI (M : CalI X.prog X.w X.K X.mg X.base CX0 C x k ps sp) (hr : Room j X.A) (hk : k + 1 ≤ j := by decide) (hg : Gl X x := by rfl) (hdb : (x == ("__debug__" : Str)) = false := by decide) :
    PE X (.Call (.Name x p) [] [] pos) (tMake C sp [] E0 tNil) := by
  obtain ⟨f, fd, hm, hmg, hb, F⟩ := M.ex
  exact pe_make0 hm F (hr.mono hk) hg hmg hb .nil pass0 hdb
end
end One

namespace One
open PySem PySem.Spec PyProof.Rows L2
/-! ### loops over dicts of texts, dicts compared and copied -/
def RetD (H : Hp) (Q : VK) (kvs : List (Key × V)) : Prop := ∀ p H', Same H H' → H p = none → H' p = some (.dK kvs) → Q (.ref p) H'
theorem unlock {H H' : Hp} {d : Addr} {u f : HO} (h : H d = some u) (s : Same (upd H d f) H') : Same H (upd H' d u) := fun b o e => by
  by_cases z : b = d
  · rw [z] at e ⊢
    rw [upd_same, ← h, e]
  · rw [upd_ne z]
    exact s b o (by rw [upd_ne z]; exact e)
theorem lock_base {H H' : Hp} {d : Addr} {u : HO} (f : HO) (hd : H d = some u) (s : Same H H') :
    ∃ H0, Same H0 (upd H' d f) ∧ (∀ b o, b ≠ d → H b = some o → H0 b = some o) ∧ (∀ b, H b = none → H0 b = none) ∧ H0 d = some f ∧ ∀ H'', Same H0 H'' → Same H (upd H'' d u) := by
  refine ⟨upd H d f, fun b o e => ?_, fun b o n e => by rw [upd_ne n]; exact e, fun b e => ?_, upd_same, fun H'' => unlock hd⟩
  · by_cases z : b = d
    · rw [z] at e ⊢
      rw [upd_same] at e ⊢
      exact e
    · rw [upd_ne z] at e ⊢
      exact s b o e
  · rw [upd_ne (fun z => by rw [z, hd] at e; cases e)]; exact e
section
variable {K : PySem.W.Frag} {g : TG} {tb : TS} {D : Ends} {σ : L2.St} {H : Hp} {td : TE}
/-- a loop over the keys of the locked dict at d, all of them texts -/
theorem keys_in {d : Addr} {od : Obj} {kvs : List (Key × V)} {ks : List Wd} {j : Nat} (hk : kvs.map (·.1) = ks.map fun a => (.inr (S a) : Key)) (hd : H d = some (.frz od (.dK kvs)))
    (Pv : List Wd → L2.St → Hp → Prop) (h0 : Pv [] σ H) (hf : ∀ pre σ' H', Pv pre σ' H' → H' d = some (.frz od (.dK kvs)))
    (hs : ∀ pre x post σ' H', ks = pre ++ x :: post → Pv pre σ' H' → tb { D with nx := Pv (pre ++ [x]), ct := Pv (pre ++ [x]), bk := D.nx } (σ'.set j (some (sv x))) H') (he : ∀ σ' H', Pv ks σ' H' → D.nx σ' H') :
    ∃ d' o, V.ref d = .ref d' ∧ ((∃ kvs, H d' = some (.frz o (.dK kvs)) ∧ ∃ W : Nat → Nat → L2.St → Hp → Prop, (∃ m, W 0 m σ H) ∧ ∀ i m σ H, W i m σ H →
      ((Itk d' o kvs).stop i H ∧ D.nx σ H) ∨ ((Itk d' o kvs).go i H ∧ ∃ N : L2.St → Hp → Prop, (∀ σ' H', N σ' H' → ∃ m', m' < m ∧ W (i + 1) m' σ' H') ∧ ∀ x H', (Itk d' o kvs).yld i H x H' → gName j x σ H' fun σ2 H2 => tb { D with nx := N, ct := N, bk := D.nx } σ2 H2)) ∨
      ∃ kvs, H d' = some (.frz o (.dT kvs)) ∧ ∃ W : Nat → Nat → L2.St → Hp → Prop, (∃ m, W 0 m σ H) ∧ ∀ i m σ H, W i m σ H →
      ((Itkt d' o kvs).stop i H ∧ D.nx σ H) ∨ ((Itkt d' o kvs).go i H ∧ ∃ N : L2.St → Hp → Prop, (∀ σ' H', N σ' H' → ∃ m', m' < m ∧ W (i + 1) m' σ' H') ∧ ∀ x H', (Itkt d' o kvs).yld i H x H' → gName j x σ H' fun σ2 H2 => tb { D with nx := N, ct := N, bk := D.nx } σ2 H2)) := by
  have kl : kvs.length = ks.length := by
    have := congrArg List.length hk
    rwa [List.length_map, List.length_map] at this
  refine ⟨d, od, rfl, .inl ⟨kvs, hd, for_it walk_keys (fun i σ' H' => Pv (ks.take i) σ' H') (by rw [List.take_zero]; exact h0) (fun _ _ _ _ p => hf _ _ _ p) ?_ fun σ' H' p => he σ' H' ?_⟩⟩
  · rintro i x σ H H' hi p ⟨rfl, k, v, hkv, rfl⟩
    have hi' : i < ks.length := by omega
    have hq : (kvs.map (·.1))[i]? = some k := by rw [List.getElem?_map, hkv]; rfl
    rw [hk, List.getElem?_map, List.getElem?_eq_getElem hi'] at hq
    obtain rfl : (.inr (S ks[i]) : Key) = k := Option.some.inj hq
    have e1 : ks = ks.take i ++ ks[i] :: ks.drop (i + 1) := by rw [List.getElem_cons_drop, List.take_append_drop]
    have e2 : ks.take (i + 1) = ks.take i ++ [ks[i]] := by rw [List.take_add_one, List.getElem?_eq_getElem hi']; rfl
    show tb { D with nx := fun σ' H' => Pv (ks.take (i + 1)) σ' H', ct := fun σ' H' => Pv (ks.take (i + 1)) σ' H', bk := D.nx } (σ.set j (some (sv ks[i]))) _
    rw [e2]
    exact hs _ ks[i] _ σ _ e1 p
  · rw [kl, List.take_length] at p
    exact p
/-- a list of things told by what the heap has at them -/
theorem for_rl {α : Type} {a : Addr} {g : TG} {xs : List V} {qs : List α} (hl : xs.length = qs.length) (Pv : List α → L2.St → Hp → Prop) (h0 : Pv [] σ H)
    (hs0 : ∀ pre σ' H', Pv pre σ' H' → SqL K H' a xs)
    (hs : ∀ pre x post v σ' H', qs = pre ++ x :: post → xs[pre.length]? = some v → Pv pre σ' H' → g v σ' H' fun σ2 H2 => tb { D with nx := Pv (pre ++ [x]), ct := Pv (pre ++ [x]), bk := D.nx } σ2 H2) (hd : ∀ σ' H', Pv qs σ' H' → D.nx σ' H') :
    ∃ W : Nat → Nat → L2.St → Hp → Prop, (∃ m, W 0 m σ H) ∧ ∀ i m σ H, W i m σ H →
      ((Itl K a).stop i H ∧ D.nx σ H) ∨ ((Itl K a).go i H ∧ ∃ N : L2.St → Hp → Prop, (∀ σ' H', N σ' H' → ∃ m', m' < m ∧ W (i + 1) m' σ' H') ∧ ∀ x H', (Itl K a).yld i H x H' → g x σ H' fun σ2 H2 => tb { D with nx := N, ct := N, bk := D.nx } σ2 H2) := by
  refine for_list (xs := xs) (fun i σ' H' => Pv (qs.take i) σ' H') (by rw [List.take_zero]; exact h0) (fun i σ' H' _ p => hs0 _ _ _ p) (fun i x σ' H' hx p => ?_) (fun σ' H' p => hd σ' H' (by rw [hl, List.take_length] at p; exact p))
  have hi : i < xs.length := (List.getElem?_eq_some_iff.mp hx).1
  have hi' : i < qs.length := by omega
  have e1 : qs = qs.take i ++ qs[i] :: qs.drop (i + 1) := by rw [List.getElem_cons_drop, List.take_append_drop]
  have e2 : qs.take (i + 1) = qs.take i ++ [qs[i]] := by rw [List.take_add_one, List.getElem?_eq_getElem hi']; rfl
  rw [e2]
  exact hs _ qs[i] _ x σ' H' e1 (by rw [List.length_take, Nat.min_eq_left (Nat.le_of_lt hi')]; exact hx) p
end
section
variable {X : Cx}
def rEqDN : R2 := fun x y H Q => ∃ a b, x = .ref a ∧ y = .ref b ∧ ∃ ks, H a = some (.dK ks) ∧ ∃ ls, H b = some (.dK ls) ∧ ks.length = ls.length ∧ (∀ p ∈ ks, valV ls p.1 = some p.2 ∧ flatB p.2 = true) ∧ Q (.bl true) H
def rNeDN : R2 := fun x y H Q => ∃ a b, x = .ref a ∧ y = .ref b ∧ ∃ ks, H a = some (.dK ks) ∧ ∃ ls, H b = some (.dK ls) ∧ ks.length = ls.length ∧ (∀ p ∈ ks, valV ls p.1 = some p.2 ∧ flatB p.2 = true) ∧ Q (.bl false) H
theorem op_eqdn (hu : X.A.units + 1 < cLine) : OpR X (compareOp .Eq) rEqDN := OpR.imp (op_eq_dictA (by omega)) fun x y H Q ⟨a, b, hx, hy, ks, h1, ls, h2, h3, h4, q⟩ => ⟨a, b, ks, ls, hx, hy, h1, h2, h3, h4, q⟩
theorem op_nedn (hu : X.A.units + 1 < cLine) : OpR X (compareOp .NotEq) rNeDN := OpR.imp (op_ne_dictA (by omega)) fun x y H Q ⟨a, b, hx, hy, ks, h1, ls, h2, h3, h4, q⟩ => ⟨a, b, ks, ls, hx, hy, h1, h2, h3, h4, q⟩
theorem tyD {K : PySem.W.Frag} {H : Hp} {p : Addr} {kvs : List (Key × V)} (h : H p = some (.dK kvs)) : tyV K "dict" (.ref p) H := .inr (.inr (.inl ⟨rfl, .inl ⟨_, h⟩⟩))
def rDClearN : V → List V → Hp → VK → Prop := fun x vs H Q => ∃ a : Addr, x = .ref a ∧ vs = [] ∧ ∃ kvs, H a = some (.dK kvs) ∧ Q .non (upd H a (.dK []))
theorem mt_dclrn {X : Cx} : MtR X "dict.clear" rDClearN := by
  intro pins s σ H x vs v us Q I rx rv h
  obtain ⟨a, e1, e2, kvs, h1, q⟩ := h
  exact mtd_clear pins s σ H x vs v us Q I rx rv ⟨a, kvs, e1, e2, h1, q⟩
def rDictOf : List V → Hp → VK → Prop := fun xs H Q => ∃ a, xs = [V.ref a] ∧ ∃ kvs, Rd H a (.dK kvs) ∧ ∀ p : Addr, H p = none → Q (.ref p) (upd H p (.dK kvs))
theorem call_dictn : CallR X (.type "dict") rDictOf := CallR.imp call_dictD fun xs H Q ⟨a, e, kvs, h, q⟩ => ⟨a, kvs, e, h, q⟩
end
end One

namespace One
open PySem PySem.Spec PyProof.Rows L2
/-! ### sorted(rows, key=the size of a row's first word) -/
/-- a def that is called for a key: R tells of what it is asked and what it answers -/
structure KeyFn (P : Program) (w : World) (K : PySem.W.Frag) (mg : Str → Option Value) (base : Heap) (x : Str) (R : Hp → V → Nat → Prop) : Prop where
  ex : ∃ f, mg x = some (.ref f) ∧ ∀ (A : Around) (outer : List Env) (s : Shared) (H : Hp) (v : V) (u : Value) (n : Nat), Room 1 A → Env0 P w K mg base A outer s H → R H v n → RelV v u →
    wpAny (model P w) A (call (.ref f) [u]) (PySem.W.KeyPure (.int n) s) (fun _ _ => False) s
/-- a row whose first word has n signs -/
def RowHead (H : Hp) (v : V) (n : Nat) : Prop := ∃ (a : Addr) (w : Wd) (xs : List V), v = .ref a ∧ H a = some (.lst (sv w :: xs)) ∧ n = w.length ∧ w.length ≤ 1000
theorem ld_var {X : Cx} {E : Value → Shared → Prop} {pins : List (Addr × Obj)} {s : Shared} {σ : L2.St} {H : Hp} {i : Nat} {x : Str} {v : V} {pos : Pos} {Q : Value → Shared → Prop} (I : Inv X pins σ H s) (hN : X.N[i]? = some x) (e : σ[i]? = some (some v)) (hv : Vis X.env.scope x) (h : ∀ u, RelV v u → Q u s)
    (hd : (x == ("__debug__" : Str)) = false) (hcd : (x == ("__classdict__" : Str)) = false) : wpAny (model X.prog X.w) X.A (eval (.Name x pos) X.env) Q E s := by
  obtain ⟨m, hn, hl⟩ := I.loc
  obtain ⟨u, r, l⟩ := hl i x v hN e hv
  rcases l with ⟨hk, hm⟩ | ⟨hk, c, hc, hcell⟩
  · exact wpAny_Name (wpAny_loadName_local I.ok.kind hk hn hm (h u r)) hd
  · rcases hk with hk | hk
    · exact wpAny_Name (wpAny_loadName_cell I.ok.kind hk hc hcell (h u r)) hd
    · exact wpAny_Name (wpAny_loadName_free I.ok.kind hk hc hcell (h u r) hcd) hd
theorem headKey {P : Program} {w : World} {K : PySem.W.Frag} {mg : Str → Option Value} {base : Heap} {x y : Str} {st : Stmt} {p1 p2 p3 p4 p5 p6 : Pos} {j : Nat} (B : Bi mg) (D : Def K mg x st) (S : FnScope [y] [y] (defScope st))
    (hg : (defScope st).names.lookup ("len" : Str) = some NameKind.globalImplicit) (hv : Vis (defScope st) y) (hd : (y == ("__debug__" : Str)) = false) (hcl : (y == ("__classdict__" : Str)) = false) (hbd : defBody st = [.Return (some (.Call (.Name "len" p1) [.Subscript (.Name y p2) (.Constant (.int 0) j p3) p4] [] p5)) p6])
    (hb : ∀ (kV doc pm : Value) (an : Option Addr) (cdv ct : Value) (us : List Value), us.length = [y].length → bindArgs (PySem.W.fnOf x x (defArgs st) (defBody st) (defScope st) .none kV doc pm an cdv ct) ⟨us, []⟩ = pure ([y].zip us)) : KeyFn P w K mg base x RowHead := by
  obtain ⟨f, fd, hm, F⟩ := D
  have hbd2 := fun s us hl => FunD.bindsA (ps := [y]) F hb s us hl
  obtain ⟨oc, od, dV, kV, doc, pm, an, cdv, ct, osl, rfl, lk, hcd, _, _⟩ := F.ex
  refine ⟨f, hm, fun A outer s H v u n hr e0 hR r => ?_⟩
  obtain ⟨a, wd, xs, rfl, hL, rfl, hz⟩ := hR
  obtain rfl : u = Value.ref a := r
  have KX : K.In s.heap := e0.mod.kin.keeps fun b o e => (e0.bs b o e).1
  have lim : s.heap.NoLimit := e0.mod.nolimit.keeps fun b o e => (e0.bs b o e).1
  have hkind : ∀ z ∈ [y].zip [Value.ref a], (defScope st).names.lookup z.1 = some .local ∨ ((defScope st).names.lookup z.1 = some .cell ∧ ((cellsFrom (s.heap.objs.size + 1) (defScope st).names []).lookup z.1).isSome = true) := fun ⟨n, v⟩ hy => by
    rcases S.par n (List.of_mem_zip hy).1 with q | q
    · exact .inl q
    · exact .inr ⟨q, PySem.W.cellsFrom_some _ _ _ (.inl q)⟩
  refine wpAny_call (codeAny_call_function hr.depth (KX _ _ lk) rfl S.co S.gen rfl (PySem.W.codeRec_of KX hcd) (hbd2 s [.ref a] rfl _ _ _ _ ?_))
  refine wpAny_newFunctionEnv_cells S.kind hkind fun env he s1 x1 => ?_
  subst he
  refine ⟨lim.keeps x1.toInCall.keep, codeAny_func ?_⟩
  have I : Inv (cxOf CX0 P w K mg base [y] x (defScope st) f cdv A outer s H E0) [] (L2.start [y] [.ref a]) H s1 := inv_start (us := [.ref a]) (vs := [.ref a]) S hr.hd e0 rfl (.cons rfl .nil) x1
  rw [hbd]
  obtain ⟨h1, tk1, es1, k1⟩ := x1.done
  refine wpAny_execs_cons (wpAny_Return_some ?_)
  refine wpAny_Call_Name_kw (ld_blt (X := cxOf CX0 P w K mg base [y] x (defScope st) f cdv A outer s H E0) I hg B.len boot_len ?_)
  refine PyProof.Rows.callWith_builtin1 ?_ rfl rfl
  refine Calls.spliced_cons ?_
  refine Subscript_ (ld_var (X := cxOf CX0 P w K mg base [y] x (defScope st) f cdv A outer s H E0) (i := 0) I rfl rfl hv (fun u hu => ?_) hd hcl)
  obtain rfl : u = Value.ref a := hu
  refine wpAny_Constant_int ?_
  obtain ⟨its, rv, pl, hz2⟩ := I.list (SqL.of hL)
  cases rv with
  | cons r0 rr =>
    obtain ⟨t0, rfl⟩ := r0
    refine item_listR pl.isList (by decide) (by decide) rfl ?_
    have hn := line63
    have hl2 : (One.S wd).length = wd.length := S_len wd
    refine Calls.spliced_nil (len_str (by have := sz (show wd.length ≤ 100000 by omega); omega) ?_)
    show PySem.W.KeyPure _ s _ _
    exact ⟨h1, _, by rw [es1], k1, by rw [← hl2]; exact .int _ _⟩
/-- two things in an order of their own -/
theorem perm_two {α : Type} {a b : α} {zs : List α} (h : zs.Perm [a, b]) : zs = [a, b] ∨ zs = [b, a] := by
  have hl := h.length_eq
  match zs, hl with
  | [x, y], _ =>
    have hx : x ∈ [a, b] := h.mem_iff.mp List.mem_cons_self
    rcases List.mem_cons.mp hx with rfl | hx
    · have := (List.perm_cons x).mp h
      rw [List.perm_singleton.mp this]
      exact .inl rfl
    · obtain rfl := List.mem_singleton.mp hx
      have h2 : [y].Perm [a] := (List.perm_cons x).mp (h.trans (List.Perm.swap x a []))
      rw [List.perm_singleton.mp h2]
      exact .inr rfl
def tSortKey (K : PySem.W.Frag) (R : Hp → V → Nat → Prop) (ta : TA) : TE := fun σ H Q => ta σ H fun vs H1 => ∃ a, vs = [.ref a] ∧ ∃ bs : List (V × Nat), SqL K H1 a (bs.map (·.1)) ∧ bs.length ≤ 1000 ∧ (∀ b ∈ bs, R H1 b.1 b.2) ∧
  ∀ (zs : List (V × Nat)) (p : Addr), zs.Perm bs → zs.Pairwise (fun x y => x.2 ≤ y.2) → H1 p = none → Q (.ref p) (upd H1 p (.lst (zs.map (·.1))))
theorem each_vals : ∀ {us : List Value} {bs : List (V × Nat)}, Vals (bs.map (·.1)) us → PySem.W.EachIs (fun v (x : V × Nat) => RelV x.1 v) us bs
  | [], [], _ => .nil
  | _ :: _, b :: bs, .cons r h => .cons r (each_vals h)
theorem vals_each : ∀ {us : List Value} {bs : List (V × Nat)}, PySem.W.EachIs (fun v (x : V × Nat) => RelV x.1 v) us bs → Vals (bs.map (·.1)) us
  | _, _, .nil => .nil
  | _, _, .cons r h => .cons r (vals_each h)
theorem pe_sortKey {X : Cx} {x : Str} {R : Hp → V → Nat → Prop} {p p2 p3 pos : Pos} {e : Expr} {ta : TA} (KF : KeyFn X.prog X.w X.K X.mg X.base x R) (hr : Room 3 X.A) (hg : Gl X "sorted") (hm : X.mg "sorted" = none) (hgl : Gl X x) (hdb : (x == ("__debug__" : Str)) = false) (ha : PA X [e] ta)
    (h1 : backTo pos (starEach [e] X.env) = (false, eval e X.env) :: backTo pos (starEach [] X.env) := by rfl) (hpl : (backTo pos (starEach [e] X.env)).any (·.1) = false := by rfl)
    (hall : (backToKw pos (keywordEach [⟨some (Str.ofString "key"), .Name x p2, p3⟩] X.env)).all (·.1.isSome) = true := by rfl) (hnone : (backToKw pos (keywordEach [⟨some (Str.ofString "key"), .Name x p2, p3⟩] X.env)).any (·.1.isNone) = false := by rfl) (hks : (backToKw pos (keywordEach [⟨some (Str.ofString "key"), .Name x p2, p3⟩] X.env)).filterMap (·.1) = [Str.ofString "key"] := by rfl) :
    PE X (.Call (.Name "sorted" p) [e] [⟨some (Str.ofString "key"), .Name x p2, p3⟩] pos) (tSortKey X.K R ta) := by
  obtain ⟨f, hmf, KF⟩ := KF.ex
  have hu := hr.units
  refine ⟨fun pins s σ H Q I h => ?_⟩
  refine wpAny_Call_Name_kw (ld_blt I hg hm boot_sorted ?_)
  refine PyProof.Rows.callWith_kw (thn (ha.run pos pins s σ H _ I h) fun us s1 ⟨vs, H1, I1, r1, q1⟩ => ?_) h1 hpl hall hnone
  obtain ⟨a, rfl, bs, hS, hl, hb, q⟩ := q1
  obtain rfl := Vals.ref1 r1
  show wpAny _ _ (evalAll ((do let v ← eval (.Name x p2) X.env; standAt pos; pure v) :: [])) _ _ s1
  refine wpAny_evalAll_cons (wpAny_bind (ld_glob I1 hgl hmf (wpAny_bind (wpAny_standAt (wpAny_pure (wpAny_evalAll_nil ?_)))) hdb))
  rw [hks]
  show wpAny _ _ (call (.builtin "sorted") [.ref a] [(Str.ofString "key", .ref f)]) _ _ s1
  obtain ⟨its, rv, pl, _⟩ := I1.list hS
  have e1 := each_vals rv
  refine PySem.W.sorted_key_data (f := .ref f) (b := false) (fun z : V × Nat => .int (z.2 : Int)) pl.isList e1 ?_ ?_ (sz (by omega)) (fun _ _ => ?_) (PyProof.Rows.ksk_s1 _ _) (fun _ => PyProof.Rows.ksk_l1 _ _) (fun y => rfl) ?_ ?_
  · exact fun d hd d' hd' => by
      obtain ⟨a, _, rfl⟩ := List.mem_map.mp hd
      obtain ⟨b, _, rfl⟩ := List.mem_map.mp hd'
      rfl
  · exact .inr fun d hd => by
      obtain ⟨a, _, rfl⟩ := List.mem_map.mp hd
      exact ⟨fun z => (by cases z), fun _ z => (by cases z)⟩
  · show X.A.units + 2 + 0 < cLine
    omega
  · intro v y hv hy h tk keep
    have I2 : Inv X pins σ H1 { s1 with heap := h, toks := tk } := I1.kept (t' := tk) keep
    exact KF X.A.in1.in1 X.stack _ H1 y.1 v y.2 (hr.in1.in1) I2.env0.in1.in1 (hb y hy) hv
  · intro out c h' tk keep fr new hlen each
    rw [PySem.W.dataLe_int] at each
    have py := List.mergeSort_perm bs fun a b : V × Nat => decide ((a.2 : Int) ≤ b.2)
    have pw := List.pairwise_mergeSort (le := fun a b : V × Nat => decide ((a.2 : Int) ≤ b.2)) (fun a b c h1 h2 => by simp only [decide_eq_true_eq] at *; omega) (fun a b => by simp only [Bool.or_eq_true, decide_eq_true_eq]; omega) bs
    have vo := vals_each each
    have lo : ((bs.mergeSort fun a b : V × Nat => decide ((a.2 : Int) ≤ b.2)).map (·.1)).length ≤ sizeLine := by rw [List.length_map, py.length_eq]; exact sz (by omega)
    exact ⟨.ref (s1.heap.objs.size + 1), upd H1 (s1.heap.objs.size + 1) (.lst _), I1.laid (t' := tk) keep (Nat.le_succ _) ⟨lo, out, c, vo, new⟩, rfl, q _ _ py (pw.imp fun h => by simpa using h) (I1.hok.fresh (Nat.le_succ _))⟩
section
variable {K : PySem.W.Frag} {a : Addr} {tb : TS} {D : Ends} {σ : L2.St} {H : Hp}
/-- over a list of texts from its end -/
theorem for_rwl {xs : List Wd} {j : Nat} (Pv : List Wd → L2.St → Hp → Prop) (h0 : Pv [] σ H) (hl : ∀ pre σ' H', Pv pre σ' H' → SqL K H' a (xs.map sv))
    (hs : ∀ pre x post σ' H', xs.reverse = pre ++ x :: post → Pv pre σ' H' → tb { D with nx := Pv (pre ++ [x]), ct := Pv (pre ++ [x]), bk := D.nx } (σ'.set j (some (sv x))) H') (hd : ∀ σ' H', Pv xs.reverse σ' H' → D.nx σ' H') :
    ∃ W : Nat → Nat → L2.St → Hp → Prop, (∃ m, W 0 m σ H) ∧ ∀ i m σ H, W i m σ H →
      ((Itv K a (xs.map sv).length).stop i H ∧ D.nx σ H) ∨ ((Itv K a (xs.map sv).length).go i H ∧ ∃ N : L2.St → Hp → Prop, (∀ σ' H', N σ' H' → ∃ m', m' < m ∧ W (i + 1) m' σ' H') ∧ ∀ x H', (Itv K a (xs.map sv).length).yld i H x H' → gName j x σ H' fun σ2 H2 => tb { D with nx := N, ct := N, bk := D.nx } σ2 H2) := by
  refine for_it (walk_rev (xs := xs.map sv)) (fun i σ' H' => Pv (xs.reverse.take i) σ' H') (by rw [List.take_zero]; exact h0) (fun i σ' H' _ p => hl _ _ _ p) ?_ (fun σ' H' p => hd σ' H' ?_)
  · rintro i x σ H H' hi p ⟨rfl, hx⟩
    rw [List.length_map] at hi hx
    have hr : i < xs.reverse.length := by rw [List.length_reverse]; exact hi
    have ex : xs.reverse[i] = xs[xs.length - 1 - i]'(by omega) := List.getElem_reverse hr
    rw [List.getElem?_map, List.getElem?_eq_getElem (by omega)] at hx
    obtain rfl : sv _ = x := Option.some.inj hx
    rw [← ex]
    have e1 : xs.reverse = xs.reverse.take i ++ xs.reverse[i] :: xs.reverse.drop (i + 1) := by rw [List.getElem_cons_drop, List.take_append_drop]
    have e2 : xs.reverse.take (i + 1) = xs.reverse.take i ++ [xs.reverse[i]] := by rw [List.take_add_one, List.getElem?_eq_getElem hr]; rfl
    show tb { D with nx := fun σ' H' => Pv (xs.reverse.take (i + 1)) σ' H', ct := fun σ' H' => Pv (xs.reverse.take (i + 1)) σ' H', bk := D.nx } (σ.set j (some (sv xs.reverse[i]))) _
    rw [e2]
    exact hs _ xs.reverse[i] _ σ _ e1 p
  · rw [List.length_map, ← List.length_reverse, List.take_length] at p
    exact p
end
end One

namespace One
open PySem PySem.Spec PyProof.Rows L2
/-! ### an if whose branches meet again -/
theorem if_cont {b : Bool} {A : TS} {D : Ends} {σ : L2.St} {H : Hp} (I : L2.St → Hp → Prop) (hc : ∀ σ' H', I σ' H' → D.nx σ' H') (h1 : b = true → ∀ D' : Ends, D'.rt = D.rt → (∀ σ' H', I σ' H' → D'.nx σ' H') → A D' σ H) (h2 : b = false → I σ H) :
    if b = true then A D σ H else tNext D σ H := by
  cases b with
  | true => rw [if_pos rfl]; exact h1 rfl D rfl hc
  | false => rw [if_neg (by decide)]; exact hc _ _ (h2 rfl)
/-! ### comprehensions whose elements are made by calls -/
theorem Paired.get {α β : Type} {F : α → β → Prop} : ∀ {xs : List α} {ys : List β}, Paired F xs ys → ∀ (i : Nat) (v : α), xs[i]? = some v → ∃ y, ys[i]? = some y ∧ F v y
  | _, _, .nil, i, v, h => by cases h
  | _, _, .cons (a := a) (b := b) f t, 0, v, h => by
    obtain rfl : a = v := Option.some.inj h
    exact ⟨b, rfl, f⟩
  | _, _, .cons f t, i + 1, v, h => Paired.get t i v h
section
variable {K : PySem.W.Frag} {a : Addr} {te : TE} {σ : L2.St} {H1 : Hp} {D : Addr} {Qd : Hp → Prop}
theorem lc_p {xs : List Wd} {j : Nat} (F : Hp → V → Wd → Prop) (Fm : ∀ {H H' : Hp} {x : Wd} {v : V}, (∀ t u, H t = some (.tup u) → H' t = some (.tup u)) → F H v x → F H' v x) (hD : H1 D = none) (hS : SqL K H1 a (xs.map sv)) (hz : xs.length ≤ 100000)
    (he : ∀ x ∈ xs, ∀ H2, Same H1 H2 → ∀ Q : VK, (∀ v H3, Same H2 H3 → F H3 v x → Q v H3) → te ((wipe σ [j]).set j (some (sv x))) H2 Q)
    (hd : ∀ H' vs, Same H1 H' → H' D = some (.lst vs) → Paired (F H') vs xs → Qd H') :
    ∃ W : Nat → Nat → Hp → Prop, (∃ m, W 0 m (upd H1 D (.lst []))) ∧ ∀ i m H, W i m H →
      ((Itl K a).stop i H ∧ Qd H) ∨ ((Itl K a).go i H ∧ ∃ Nx : Hp → Prop, (∀ H', Nx H' → ∃ m', m' < m ∧ W (i + 1) m' H') ∧ ∀ x H', (Itl K a).yld i H x H' → gName j x (wipe σ [j]) H' fun σ2 H2 => wipe σ2 [j] = wipe σ [j] ∧ tYes σ2 H2 fun b H3 =>
        if b = true then te σ2 H3 fun y H4 => ∃ acc, H4 D = some (.lst acc) ∧ acc.length < sizeLine ∧ Nx (upd H4 D (.lst (acc ++ [y]))) else Nx H3) := by
  refine lc_list (K := K) (a := a) (xs := xs.map sv) (fun i H => Same H1 H ∧ ∃ vs, H D = some (.lst vs) ∧ Paired (F H) vs (xs.take i)) ⟨new hD, [], upd_same, .nil⟩ (fun i H _ p => p.1.seq hS) (fun i x H hx p => ?_) (fun H p => ?_)
  · rw [List.getElem?_map] at hx
    cases e : xs[i]? with
    | none => rw [e] at hx; cases hx
    | some y =>
      rw [e] at hx
      obtain rfl : sv y = x := Option.some.inj hx
      obtain ⟨s0, vs, h1, h2⟩ := p
      have e2 : xs.take (i + 1) = xs.take i ++ [y] := by rw [List.take_add_one, e]; rfl
      refine ⟨wipe1 σ j _, ?_⟩
      refine he y (List.mem_of_getElem? e) H s0 _ fun v H3 s3 hf => ⟨vs, s3 _ _ h1, ?_, mutd (s0.trans s3) hD, vs ++ [v], upd_same, ?_⟩
      · refine szl ?_
        rw [Paired.length h2, List.length_take]
        have : i < xs.length := (List.getElem?_eq_some_iff.mp e).1
        omega
      · have nt : ∀ t u, H3 t = some (.tup u) → upd H3 D (.lst (vs ++ [v])) t = some (.tup u) := fun t u et => by
          rw [upd_ne (fun z => by rw [z, s3 _ _ h1] at et; cases et)]; exact et
        rw [e2]
        exact Paired.snoc (Paired.mapP h2 fun a b h => Fm nt (Fm (fun t u => s3 t _) h)) (Fm nt hf)
  · obtain ⟨s0, vs, h1, h2⟩ := p
    rw [List.length_map, List.take_length] at h2
    exact hd H vs s0 h1 h2
end
end One

namespace One
open PySem PySem.Spec PyProof.Rows L2
/-! ### max(numbers, default=0) -/
def most : List Nat → Nat
  | [] => 0
  | x :: xs => max x (most xs)
theorem most_le {ns : List Nat} : ∀ n ∈ ns, n ≤ most ns := by
  induction ns with
  | nil => exact fun _ h => nomatch h
  | cons x xs ih =>
    intro n hn
    show n ≤ max x (most xs)
    rcases List.mem_cons.mp hn with rfl | hn
    · exact Nat.le_max_left _ _
    · exact Nat.le_trans (ih n hn) (Nat.le_max_right _ _)
theorem most_snoc (ns : List Nat) (n : Nat) : most (ns ++ [n]) = max (most ns) n := by
  induction ns with
  | nil => show max n 0 = max 0 n; omega
  | cons x xs ih =>
    show max x (most (xs ++ [n])) = max (max x (most xs)) n
    rw [ih]; omega
theorem maxOf_most (x : Nat) (ns : List Nat) : PySem.W.maxOf (Int.ofNat x) (ns.map Int.ofNat) = Int.ofNat (max x (most ns)) := by
  unfold PySem.W.maxOf
  induction ns generalizing x with
  | nil => exact congrArg Int.ofNat (by show x = max x 0; omega)
  | cons y ns ih =>
    rw [List.map_cons, List.foldl_cons]
    have e : (if PySem.W.DatumOrd.lt (Int.ofNat x) (Int.ofNat y) = true then Int.ofNat y else Int.ofNat x) = Int.ofNat (max x y) := by
      show (if decide (Int.ofNat x < Int.ofNat y) = true then Int.ofNat y else Int.ofNat x) = _
      by_cases h : x < y
      · have h' : Int.ofNat x < Int.ofNat y := Int.ofNat_lt.mpr h
        rw [if_pos (decide_eq_true h'), Nat.max_eq_right (Nat.le_of_lt h)]
      · have h' : ¬ decide (Int.ofNat x < Int.ofNat y) = true := fun z => h (Int.ofNat_lt.mp (of_decide_eq_true z))
        rw [if_neg h', Nat.max_eq_left (Nat.le_of_not_lt h)]
    rw [e, ih]
    exact congrArg Int.ofNat (by show max (max x y) (most ns) = max x (max y (most ns)); omega)
def tMaxD (K : PySem.W.Frag) (ta : TA) : TE := fun σ H Q => ta σ H fun vs H1 => ∃ a, vs = [.ref a] ∧ ∃ ns : List Nat, SqL K H1 a (ns.map fun n => V.int (n : Nat)) ∧ Q (.int (most ns : Nat)) H1
theorem hold_nats {h : Heap} : ∀ {us : List Value} {ns : List Nat}, Vals (ns.map fun n => V.int (n : Nat)) us → PySem.W.HoldAll h us (ns.map Int.ofNat)
  | [], [], _ => .nil
  | _ :: _, n :: ns, .cons r t => by
    obtain ⟨k, rfl⟩ := r
    exact .cons ⟨[], .int _ _⟩ (hold_nats t)
theorem pe_maxD {X : Cx} {p p2 p3 pos : Pos} {j : Nat} {e : Expr} {ta : TA} (hc : X.calm = true) (hu : X.A.units + 64 < cLine) (hg : Gl X "max") (hm : X.mg "max" = none) (ha : PA X [e] ta)
    (h1 : backTo pos (starEach [e] X.env) = (false, eval e X.env) :: backTo pos (starEach [] X.env) := by rfl) (hpl : (backTo pos (starEach [e] X.env)).any (·.1) = false := by rfl)
    (hall : (backToKw pos (keywordEach [⟨some (Str.ofString "default"), .Constant (.int 0) j p2, p3⟩] X.env)).all (·.1.isSome) = true := by rfl) (hnone : (backToKw pos (keywordEach [⟨some (Str.ofString "default"), .Constant (.int 0) j p2, p3⟩] X.env)).any (·.1.isNone) = false := by rfl) (hks : (backToKw pos (keywordEach [⟨some (Str.ofString "default"), .Constant (.int 0) j p2, p3⟩] X.env)).filterMap (·.1) = [Str.ofString "default"] := by rfl) :
    PE X (.Call (.Name "max" p) [e] [⟨some (Str.ofString "default"), .Constant (.int 0) j p2, p3⟩] pos) (tMaxD X.K ta) := by
  refine ⟨fun pins s σ H Q I h => ?_⟩
  refine wpAny_Call_Name_kw (ld_blt I hg hm (show bootBuiltins (Str.ofString "max") = some (.builtin "max") by decide +kernel) ?_)
  refine PyProof.Rows.callWith_kw (thn (ha.run pos pins s σ H _ I h) fun us s1 ⟨vs, H1, I1, r1, q1⟩ => ?_) h1 hpl hall hnone
  obtain ⟨a, rfl, ns, hS, q⟩ := q1
  obtain rfl := Vals.ref1 r1
  show wpAny _ _ (evalAll ((do let v ← eval (.Constant (.int 0) j p2) X.env; standAt pos; pure v) :: [])) _ _ s1
  refine wpAny_evalAll_cons (wpAny_bind (wpAny_Constant_int (wpAny_bind (wpAny_standAt (wpAny_pure (wpAny_evalAll_nil ?_))))))
  rw [hks]
  obtain ⟨its, rv, pl, _⟩ := I1.list hS
  have I2 := I1.tok (s1.toks + 1)
  have fin : ∀ (v : Value) (n : Nat) (h' : Heap) (tk : Nat), RelV (.int (n : Nat)) v → n = most ns → (∀ b o, s1.heap.get? b = some o → h'.get? b = some o) → EP X pins σ Q v { s1 with heap := h', toks := tk } := fun v n h' tk r e k =>
    ⟨.int (n : Nat), H1, I1.kept (t' := tk) k, r, by rw [e]; exact q⟩
  refine PySem.W.max_list_datum_default (α := Int) (xs := ns.map Int.ofNat) (I1.ok.hd hc) pl.isList (hold_nats rv) ?_ (fun e0 h' tk k => ?_) fun y ys i v h' tk e0 hi hv k => ?_
  · show X.A.units + 1 + 0 < cLine
    omega
  · obtain rfl : ns = [] := List.map_eq_nil_iff.mp e0
    exact fin _ 0 h' tk ⟨_, rfl⟩ rfl k
  · cases ns with
    | nil => cases e0
    | cons n ns =>
      obtain ⟨rfl, rfl⟩ := List.cons.inj e0
      rw [maxOf_most] at hv
      obtain ⟨as, rd⟩ := hv
      cases rd with
      | int i t => exact fin _ _ h' tk ⟨_, rfl⟩ rfl k
section
variable {tt : TT} {te : TE} {σ : L2.St} {H1 : Hp}
/-- a comprehension over the keys of the locked dict at d, all of them texts -/
theorem keys_lc {d : Addr} {od : Obj} {kvs : List (Key × V)} {ks : List Wd} {j : Nat} (hk : kvs.map (·.1) = ks.map fun a => (.inr (S a) : Key)) (hd : H1 d = some (.frz od (.dK kvs))) (hz : ks.length ≤ 100000)
    (c : Wd → Bool) (Qd : Addr → Hp → Prop) (ht : ∀ x ∈ ks, EvB tt ((wipe σ [j]).set j (some (sv x))) H1 (c x)) (he : ∀ x ∈ ks, c x = true → EvV te ((wipe σ [j]).set j (some (sv x))) H1 (sv x))
    (hq : ∀ D H', H1 D = none → Same H1 H' → H' D = some (.lst ((ks.filter c).map sv)) → Qd D H') :
    ∃ d' o, V.ref d = .ref d' ∧ ((∃ kvs, H1 d' = some (.frz o (.dK kvs)) ∧ ∀ D, H1 D = none → ∃ W : Nat → Nat → Hp → Prop, (∃ m, W 0 m (upd H1 D (.lst []))) ∧ ∀ i m H, W i m H →
      ((Itk d' o kvs).stop i H ∧ Qd D H) ∨ ((Itk d' o kvs).go i H ∧ ∃ Nx : Hp → Prop, (∀ H', Nx H' → ∃ m', m' < m ∧ W (i + 1) m' H') ∧ ∀ x H', (Itk d' o kvs).yld i H x H' → gName j x (wipe σ [j]) H' fun σ2 H2 => wipe σ2 [j] = wipe σ [j] ∧ tt σ2 H2 fun b H3 =>
        if b = true then te σ2 H3 fun y H4 => ∃ acc, H4 D = some (.lst acc) ∧ acc.length < sizeLine ∧ Nx (upd H4 D (.lst (acc ++ [y]))) else Nx H3)) ∨
      ∃ kvs, H1 d' = some (.frz o (.dT kvs)) ∧ ∀ D, H1 D = none → ∃ W : Nat → Nat → Hp → Prop, (∃ m, W 0 m (upd H1 D (.lst []))) ∧ ∀ i m H, W i m H →
      ((Itkt d' o kvs).stop i H ∧ Qd D H) ∨ ((Itkt d' o kvs).go i H ∧ ∃ Nx : Hp → Prop, (∀ H', Nx H' → ∃ m', m' < m ∧ W (i + 1) m' H') ∧ ∀ x H', (Itkt d' o kvs).yld i H x H' → gName j x (wipe σ [j]) H' fun σ2 H2 => wipe σ2 [j] = wipe σ [j] ∧ tt σ2 H2 fun b H3 =>
        if b = true then te σ2 H3 fun y H4 => ∃ acc, H4 D = some (.lst acc) ∧ acc.length < sizeLine ∧ Nx (upd H4 D (.lst (acc ++ [y]))) else Nx H3)) := by
  have kl : kvs.length = ks.length := by
    have := congrArg List.length hk
    rwa [List.length_map, List.length_map] at this
  refine ⟨d, od, rfl, .inl ⟨kvs, hd, fun D hD => ?_⟩⟩
  refine lc_it walk_keys (fun i H => Same H1 H ∧ H D = some (.lst (((ks.take i).filter c).map sv))) ⟨new hD, upd_same⟩ (fun i H _ p => p.1 _ _ hd) (fun i x H H' hi p y => ?_) (fun H p => ?_)
  · obtain ⟨rfl, k, v, hkv, rfl⟩ := y
    have hi' : i < ks.length := by omega
    have hq : (kvs.map (·.1))[i]? = some k := by rw [List.getElem?_map, hkv]; rfl
    rw [hk, List.getElem?_map, List.getElem?_eq_getElem hi'] at hq
    obtain rfl : (.inr (S ks[i]) : Key) = k := Option.some.inj hq
    have hm : ks[i] ∈ ks := List.getElem_mem hi'
    have e2 : ks.take (i + 1) = ks.take i ++ [ks[i]] := by rw [List.take_add_one, List.getElem?_eq_getElem hi']; rfl
    refine ⟨wipe1 σ j _, ht _ hm _ p.1 _ fun H2 s2 => ?_⟩
    refine itb (fun hc => ?_) fun hc => ?_
    · refine he _ hm hc H2 (p.1.trans s2) _ fun H3 s3 => ⟨_, s3 _ _ (s2 _ _ p.2), ?_, mutd ((p.1.trans s2).trans s3) hD, ?_⟩
      · refine szl ?_
        rw [List.length_map]
        have h1 := List.length_filter_le c (ks.take i)
        rw [List.length_take] at h1
        omega
      · rw [upd_same, e2, List.filter_append, List.map_append, List.filter_cons, if_pos hc]; rfl
    · refine ⟨p.1.trans s2, ?_⟩
      rw [s2 _ _ p.2, e2, List.filter_append, List.filter_cons, if_neg (by rw [hc]; decide)]
      simp
  · rw [kl, List.take_length] at p
    exact hq D H hD p.1 p.2
end
end One

namespace One
open PySem PySem.Spec PyProof.Rows L2
/-! ### sorted(a dict of texts), any length -/
def rSortedDA : List V → Hp → VK → Prop := fun xs H Q => ∃ a, xs = [V.ref a] ∧ ∃ kvs, Rd H a (.dK kvs) ∧ ∃ ks : List Wd, kvs.map (·.1) = ks.map (fun a => (.inr (S a) : Key)) ∧ ks.length ≤ 1000 ∧
  ∀ ys : List Wd, ys.Perm ks → sortedS (ys.map S) = true → ∀ p : Addr, H p = none → Q (.ref p) (upd H p (.lst (ys.map sv)))
theorem call_sortedDA {X : Cx} (calm : X.calm = true) : CallR X (.builtin "sorted") rSortedDA := by
  rintro pins s0 σ H xs us Q I0 rv ⟨ad, rfl, kvs, rd, ks, ek, lk, fin⟩
  obtain ⟨u1, rfl, r1⟩ := vals1 rv
  obtain rfl : u1 = Value.ref ad := r1
  obtain ⟨_, low, vs, kv, dof⟩ := dk_rd I0.hok rd
  obtain ⟨ep, at_⟩ := dof.dictAt
  have ev : vs.map (fun p => kV p.1) = ks.map sv := by
    have e1 : vs.map (·.1) = ks.map (fun a => (.inr (S a) : Key)) := kv.keys.symm.trans ek
    have e2 := congrArg (List.map (kV ·)) e1
    rw [List.map_map, List.map_map] at e2
    exact e2
  have nv : vs.length = ks.length := by
    have := congrArg List.length ev
    rwa [List.length_map, List.length_map] at this
  have big : vs.length ≤ sizeLine := by rw [nv]; exact sz (by omega)
  refine Calls.call_function_entry kind_sorted plain_sorted entry_sorted (args_sorted1 _) (show wpAny _ _ (Builtin.«sorted» ⟨[.ref ad], []⟩) _ _ s0 from ?_)
  unfold Builtin.«sorted»
  refine wpAny_bind (m := checkCount "sorted" 1 1 _) (wpAny_pure (wpAny_bind (PySem.W.kdu_collect (A := X.A.in1) (PySem.W.kdl_dict (knd := mixKind X.prog X.w) (kvs := vs) (ep := ep) low) (I0.ok.hd calm) at_ big fun g tk got kp io => ?_)))
  have gl : got.toList.length = vs.length := by rw [Array.length_toList, io.1]
  have gv : Vals (ks.map sv) got.toList := by
    rw [← ev]
    exact keys_at gl fun j v e => io.2 j v (by rw [← Array.getElem?_toList]; exact e)
  have gS : StrsAre got.toList (ks.map S) := by
    rw [← map_strs] at gv
    exact gv.strs
  have J : Inv X pins σ H { s0 with heap := g, toks := tk } := I0.kept kp
  refine wpAny_bind (wpAny_newList ?_ (by rw [gl]; exact big))
  have top : (g.push (seqObj "list" got.toList.toArray 0)).get? g.objs.size = some (seqObj "list" got.toList.toArray 0) := Heap.get?_push_size _ rfl
  refine wpAny_bind (wpAny_holding (wpAny_call_entry (s := { s0 with heap := g.push (seqObj "list" got.toList.toArray 0), toks := tk }) slot_list_sort ⟨_, top, rfl⟩ entry_list_sort (list_sort_treeKAny strKind_oneLt (s := { s0 with heap := g.push (seqObj "list" got.toList.toArray 0), toks := tk }) top gS.keysOf (fun _ _ _ e => keyKind_strs (by rw [← e]; exact gS)) (by rw [gl]; exact big) fun st c1 c2 => ⟨_, rfl, ?_⟩) (args_list_sort _)))
  obtain ⟨zs, z1, z2, z3⟩ := sorted_out_str gS c1 c2
  obtain ⟨ys, rfl, py⟩ := perm_S z2
  obtain ⟨ee, hee⟩ := sortedHeap_at (vs := got.toList) (out := (arrOf st).map (·.2)) top
  have vo : Vals (ys.map sv) ((arrOf st).map (·.2)).toList := by rw [← map_strs]; exact vals_of_strs z1
  have ll : (ys.map sv).length ≤ sizeLine := by rw [List.length_map, py.length_eq, ← nv]; exact big
  refine wpAny_pure ⟨_, rfl, .ref g.objs.size, upd H g.objs.size (.lst (ys.map sv)), J.laid (t' := tk) (fun b o e => ?_) (Nat.le_refl _) (show ObjOk X.prog X.w _ _ _ (.lst (ys.map sv)) from ⟨ll, _, ee, vo, by rw [Array.toArray_toList]; exact hee⟩), rfl, fin ys py z3 _ (J.hok.fresh (Nat.le_refl _))⟩
  have lt : b < g.objs.size := Heap.lt_size e
  rw [sortedHeap_old (Nat.ne_of_lt lt) (size_push' _ _ ▸ Nat.lt_succ_of_lt lt), Heap.get?_push_of_some _ e]
theorem rise_pair : ∀ (p : Wd) (xs : List Wd), risingS (S p) (xs.map S) = true → (p :: xs).Pairwise (fun a b : Wd => a ≤ b)
  | p, [], _ => List.pairwise_singleton _ _
  | p, x :: xs, h => by
    obtain ⟨h1, h2⟩ := Bool.and_eq_true_iff.mp (show (!ltCps (S x).cps.toList (S p).cps.toList && risingS (S x) (xs.map S)) = true from h)
    have ih := rise_pair x xs h2
    have px : p ≤ x := by
      rw [ltCps_eq] at h1
      have h2 : (!decide (x < p)) = true := h1
      exact fun z => by rw [decide_eq_true z] at h2; cases h2
    refine List.pairwise_cons.mpr ⟨fun y hy => ?_, ih⟩
    rcases List.mem_cons.mp hy with rfl | hy
    · exact px
    · exact List.le_trans px ((List.pairwise_cons.mp ih).1 y hy)
theorem sorted_pair {xs : List Wd} (h : sortedS (xs.map S) = true) : xs.Pairwise (fun a b : Wd => a ≤ b) := by
  cases xs with
  | nil => exact .nil
  | cons x xs => exact rise_pair x xs h
theorem sorted_uniq {xs ys : List Wd} (p : xs.Perm ys) (h : sortedS (xs.map S) = true) (k : sortedS (ys.map S) = true) : xs = ys :=
  List.Perm.eq_of_pairwise (le := fun a b : Wd => a ≤ b) (fun a b _ _ h1 h2 => List.le_antisymm h1 h2) (sorted_pair h) (sorted_pair k) p
end One
namespace One
open PySem PySem.Spec PyProof.Rows L2
/-- where a text stands first in a list of different ones -/
def rIndexW (K : PySem.W.Frag) : V → List V → Hp → VK → Prop := fun x xs H Q => ∃ a : Addr, x = V.ref a ∧ ∃ w : Wd, xs = [sv w] ∧ ∃ ws : List Wd, SqL K H a (ws.map sv) ∧ ws.Nodup ∧ ∃ j : Nat, ws[j]? = some w ∧ Q (.int (j : Nat)) H
theorem mt_indexw {X : Cx} : MtR X "list.index" (rIndexW X.K) := MtR.imp mt_index fun x xs H Q ⟨a, hx, w, hy, ws, hs, nd, j, hj, q⟩ => by
  refine ⟨a, ws.map sv, sv w, j, sv w, hx, hy, hs, rfl, ?_, by rw [List.getElem?_map, hj]; rfl, ?_, fun m z hm hz => ?_, q⟩
  · rw [List.all_eq_true]
    intro v hv
    obtain ⟨u, _, rfl⟩ := List.mem_map.mp hv
    rfl
  · show (S w == S w) = true
    simp
  · rw [List.getElem?_map] at hz
    cases e : ws[m]? with
    | none => rw [e] at hz; cases hz
    | some u =>
      rw [e] at hz
      obtain rfl : sv u = z := Option.some.inj hz
      show (S u == S w) = false
      obtain ⟨h1, e1⟩ := List.getElem?_eq_some_iff.mp e
      obtain ⟨h2, e2⟩ := List.getElem?_eq_some_iff.mp hj
      have : u ≠ w := fun z => by
        rw [← e1, ← e2] at z
        have := (List.getElem_inj nd).mp z
        omega
      simpa using fun z => this (S_inj.mp z)
end One

namespace One
open PySem PySem.Spec PyProof.Rows L2 L2H HotX
/-! ### the end of a walk while an exception is handled -/
section
variable {prog : Program} {w : World} {A : Around} {E : Value → Shared → Prop} {s : Shared}
/-- StopIteration raised and read, an exception x1 being handled -/
theorem hot_keep {A : Around} {x1 : Addr} {h h' : Heap} (t : HotAt A x1 h) (k : ∀ o, h.get? x1 = some o → h'.get? x1 = some o) : HotAt A x1 h' :=
  let ⟨a, o, vs, b, c, d⟩ := t; ⟨a, o, vs, k o b, c, d⟩
theorem hot_ne {A : Around} {x1 it : Addr} {h : Heap} (t : HotAt A x1 h) {o : Obj} {a b : Value} (e : h.get? it = some o) (d : o.data = .fields #[a, b]) : it ≠ x1 := fun z => by
  obtain ⟨_, o', vs, e', d', c⟩ := t
  rw [← z, e] at e'
  cases e'
  rw [d] at d'
  cases d'
  cases c
theorem stop_tail {x1 : Addr} {T oX : Obj} {vs : Array Value} {Q : Option Value → Shared → Prop} {R : PySem.Fin → Shared → Prop} (hot : HotAt A x1 s.heap) (hc : oX.cls = .type "StopIteration") (hd : oX.data = .fields vs) (hi : 2 < vs.size)
    (hQ : ∀ h', (∀ b o, s.heap.get? b = some o → h'.get? b = some o) → Q none { s with heap := h' }) :
    wpAny (model prog w) A.in1 (raiseNew (.ref (s.heap.push T).objs.size) : Sem (PySem.Fin)) R (fun e s' => wpAny (model prog w) A (do
      let b ← isInstance e (.type "StopIteration")
      if b = true then pure none else throw e) Q E s') { s with heap := (s.heap.push T).push oX } := by
  obtain ⟨hh, o1, v1, e1, d1, c1⟩ := hot
  have fX : oX.isFreed = false := Obj.isFreed_of_fields hd
  have k1 : ∀ b o, s.heap.get? b = some o → ((s.heap.push T).push oX).get? b = some o := fun b o e => Heap.get?_push_of_some _ (Heap.get?_push_of_some _ e)
  have top : ((s.heap.push T).push oX).get? (s.heap.push T).objs.size = some oX := Heap.get?_push_size _ fX
  have old : ∀ b o, s.heap.get? b = some o → (s.heap.push T).objs.size ≠ b := fun b o e => Nat.ne_of_gt (Heap.lt_size (Heap.get?_push_of_some _ e))
  refine raiseNew_hot (x1 := x1) ⟨hh, o1, v1, k1 _ _ e1, d1, c1⟩ (old _ _ e1).symm top hd hi ?_
  have top2 := Heap.get?_update_self (Obj.mapFields fun x => x.setIfInBounds 2 (.ref x1)) top (Obj.isFreed_of_fields (Obj.data_mapFields hd _))
  refine wpAny_bind (wpAny_isInstance (T := "StopIteration") (b := true) ⟨_, top2, (Obj.cls_mapFields ..).trans hc⟩ isSubtype_stop ?_)
  exact wpAny_pure (hQ _ fun b o e => (Heap.get?_update_other _ _ (old b o e)).trans (k1 b o e))
theorem list_end_hot {it l x1 : Addr} {i : Nat} {items : Array Value} {Q : Option Value → Shared → Prop} (hot : HotAt A x1 s.heap) (hit : s.heap.IsListIter it l i) (hl : s.heap.IsList l items) (hx : items[i]? = none)
    (hQ : ∀ h', Heap.ExtBut it s.heap h' → Q none { s with heap := h' }) : wpAny (model prog w) A (pyNext (.ref it)) Q E s := by
  obtain ⟨oi, g1, g2, g3⟩ := id hit
  obtain ⟨oL, g4, _, nL, g5⟩ := hl
  have far := hot_ne hot g1 g3
  unfold pyNext; refine wpAny_bind (wpAny_attempt (wpAny_callSpecial?_slot (name := Str.ofString "__next__") hit.typeIs slot_listiter_next (wpAny_call_entry slot_listiter_next hit.typeIs entry_listiter_next ?_ (args_listiter_next _))))
  show wpAny _ _ (field (.ref it) 0 >>= _) _ _ s; refine wpAny_bind (wpAny_field g1 g3 (x := .ref l) rfl ?_)
  show wpAny _ _ (if (Value.ref l == Value.none) = true then _ else _) _ _ s; rw [if_neg (show ¬ ((Value.ref l == Value.none) = true) from Bool.false_ne_true)]
  show wpAny _ _ (field (.ref it) 1 >>= _) _ _ s; refine wpAny_bind (wpAny_field g1 g3 (x := .int i 0) rfl ?_)
  show wpAny _ _ (seqItems? (.ref l) >>= _) _ _ s; refine wpAny_bind (wpAny_seqItems g4 g5 ?_)
  simp only [Int.toNat_natCast, hx]; refine wpAny_bind (wpAny_rule (wpAny_bind (wpAny_setField g1 g3 (by simp) ?_)))
  show wpAny _ _ (newExc (.type "StopIteration") [] >>= _) _ _ _; refine wpAny_bind ?_
  simp only [newExc, newTuple]; refine wpAny_bind (wpAny_newObj_type ?_ (by size_fits))
  refine wpAny_bind (m := firstArgMember _ _) (wpAny_of_eq (a := Value.none) (by first | rfl | (simp only [firstArgMember]; rfl)) ?_); refine wpAny_newObj_type ?_ (by size_fits)
  have hot2 := hot_keep hot (h' := s.heap.update it (Obj.mapFields fun x => x.setIfInBounds 0 .none)) fun o e => (Heap.get?_update_other _ _ far).trans e
  refine stop_tail (s := { s with heap := s.heap.update it (Obj.mapFields fun x => x.setIfInBounds 0 .none) }) hot2 rfl (by rfl) (by first | (simp; done) | (simp only [Array.size_append]; simp; omega)) fun h' k => hQ h' fun b o n e => k b o ((Heap.get?_update_other _ _ n.symm).trans e)
theorem tuple_end_hot {it l x1 : Addr} {i : Nat} {items : Array Value} {Q : Option Value → Shared → Prop} (hot : HotAt A x1 s.heap) (hit : IsTupIter s.heap it l i) (hl : IsTup s.heap l items) (hx : items[i]? = none)
    (hQ : ∀ h', Heap.ExtBut it s.heap h' → Q none { s with heap := h' }) : wpAny (model prog w) A (pyNext (.ref it)) Q E s := by
  obtain ⟨oi, g1, g2, g3⟩ := id hit
  obtain ⟨oL, g4, _, nL, g5⟩ := hl
  have far := hot_ne hot g1 g3
  unfold pyNext; refine wpAny_bind (wpAny_attempt (wpAny_callSpecial?_slot (name := Str.ofString "__next__") hit.typeIs slot_tupleiter_next (wpAny_call_entry slot_tupleiter_next hit.typeIs entry_tupleiter_next ?_ (args_tupleiter_next _))))
  show wpAny _ _ (field (.ref it) 0 >>= _) _ _ s; refine wpAny_bind (wpAny_field g1 g3 (x := .ref l) rfl ?_)
  show wpAny _ _ (if (Value.ref l == Value.none) = true then _ else _) _ _ s; rw [if_neg (show ¬ ((Value.ref l == Value.none) = true) from Bool.false_ne_true)]
  show wpAny _ _ (field (.ref it) 1 >>= _) _ _ s; refine wpAny_bind (wpAny_field g1 g3 (x := .int i 0) rfl ?_)
  show wpAny _ _ (seqItems? (.ref l) >>= _) _ _ s; refine wpAny_bind (wpAny_seqItems g4 g5 ?_)
  simp only [Int.toNat_natCast, hx]; refine wpAny_bind (wpAny_rule (wpAny_bind (wpAny_setField g1 g3 (by simp) ?_)))
  show wpAny _ _ (newExc (.type "StopIteration") [] >>= _) _ _ _; refine wpAny_bind ?_
  simp only [newExc, newTuple]; refine wpAny_bind (wpAny_newObj_type ?_ (by size_fits))
  refine wpAny_bind (m := firstArgMember _ _) (wpAny_of_eq (a := Value.none) (by first | rfl | (simp only [firstArgMember]; rfl)) ?_); refine wpAny_newObj_type ?_ (by size_fits)
  have hot2 := hot_keep hot (h' := s.heap.update it (Obj.mapFields fun x => x.setIfInBounds 0 .none)) fun o e => (Heap.get?_update_other _ _ far).trans e
  refine stop_tail (s := { s with heap := s.heap.update it (Obj.mapFields fun x => x.setIfInBounds 0 .none) }) hot2 rfl (by rfl) (by first | (simp; done) | (simp only [Array.size_append]; simp; omega)) fun h' k => hQ h' fun b o n e => k b o ((Heap.get?_update_other _ _ n.symm).trans e)
theorem items_hot {t x1 : Addr} {items : Array Value} {Q : List Value → Shared → Prop} (hot : HotAt A x1 s.heap) (ht : IsTup s.heap t items)
    (hQ : ∀ h', Heap.ExtBut s.heap.objs.size s.heap h' → Q items.toList { s with heap := h' }) : wpAny (model prog w) A (unpackItems (.ref t) items.size none) Q E s := by
  have apart : t ≠ s.heap.objs.size := let ⟨o, ho, _⟩ := ht; Nat.ne_of_lt (Heap.lt_size ho)
  have apart1 : x1 ≠ s.heap.objs.size := let ⟨_, o, _, ho, _⟩ := hot; Nat.ne_of_lt (Heap.lt_size ho)
  unfold unpackItems; refine wpAny_bind ?_
  unfold notIterableAtAll; refine wpAny_bind (wpAny_specialOf ht.typeIs slot_tuple_iter.lookup (wpAny_pure ?_))
  simp only [Bool.false_eq_true, if_false]; refine wpAny_bind (wpAny_holding (iter_tuple ht ?_))
  refine wpAny_bind (wpAny_holding (draw_tuple apart items.size 0 _ _ ⟨_, Heap.get?_push_size _ rfl, rfl, rfl⟩ (ht.push _) (by omega) fun h1 it1 s1 => ?_))
  have all : List.take items.size (List.drop 0 items.toList) = items.toList := by rw [List.drop_zero]; exact List.take_of_length_le (by simp)
  rw [all, if_neg (by simp)]
  have hot1 : HotAt A x1 h1 := hot_keep hot fun o e => (s1.2 x1 apart1).trans (Heap.get?_push_of_some _ e)
  refine wpAny_bind (wpAny_holding (tuple_end_hot hot1 it1 ((ht.push _).extBut s1.extBut apart) (by simp) fun h2 e2 => ?_))
  simp only [Option.isSome_none, Bool.false_eq_true, if_false]; exact wpAny_pure (hQ h2 fun b o hb e => e2 b o hb (s1.extBut b o hb (Heap.get?_push_of_some _ e)))
end
theorem pg_tupH {X : Cx} {es : List Expr} {k : Nat} {t : TGs} {n : Nat} {pos : Pos} (hc : HotC X) (h : PGs X es t) (hn : (assignEach es X.env).length = n := by rfl) (hst : (assignEach es X.env).findIdx? (·.1) = none := by rfl) : PG X (.Tuple es k pos) (gTup X.K n t) := by
  refine ⟨fun pins s σ H v u Q I r hw => ?_⟩
  obtain ⟨a, xs, rfl, hq, hl, hw⟩ := hw
  cases r
  obtain ⟨its, rv, ht, _⟩ := I.tuple hq
  obtain ⟨x1, hot⟩ := hc.at I
  have sz : (assignEach es X.env).length = its.toArray.size := by simp [hn, ← hl, rv.length]
  rw [assign_Tuple]
  refine wpAny_bind (wpAny_standAt ?_)
  unfold unpack
  rw [sz, hst]
  refine wpAny_bind (wpAny_holding (items_hot hot ht fun h' hx => ?_))
  have I1 : Inv X pins σ H { s with heap := h' } := I.kept (t' := s.toks) fun b o e => hx b o (Nat.ne_of_lt (Heap.lt_size e)) e
  exact h.run pins _ σ H xs _ Q I1 (by simpa using rv) hw
/-! ### a list walked there -/
theorem turn_listH {P : Program} {w : World} {K : PySem.W.Frag} {tg : Expr} (a it : Addr) : TurnH P w K tg (Itl K a) [it] it (fun i h => h.IsListIter it a i) where
  mem := List.mem_cons_self
  obj := fun i h ⟨o, e, _, d⟩ b hb => by
    rw [List.mem_singleton.mp hb]
    exact ⟨o, e, fun v z => by rw [d] at z; cases z⟩
  keep := fun i h h' st k => st.at fun o e => k it List.mem_cons_self o e
  item := by
    rintro X rfl rfl rfl _ i pins s σ H E I hf st ⟨xs, x, hq, hx⟩
    obtain ⟨its, rv, p, _⟩ := I.list hq
    obtain ⟨u, hu, ru⟩ := rv.get hx
    obtain ⟨f0, f1, f2, f3, f4, f5⟩ := hf it List.mem_cons_self
    refine wpAny_pyNext_list_item st p.isList (x := u) (by simpa using hu) fun h' st' sb => ?_
    have I1 : Inv X pins σ H { s with heap := h' } := I.turned (t' := s.toks) (fun b o hb e => (sb.2 b hb).trans e) f0 f1 f3 f4 f5
    obtain ⟨o, e, c, d⟩ := id st'
    refine ⟨u, rfl, go_of (s := { s with heap := h' }) e c d (by decide) ⟨x, H, I1, ru, ⟨rfl, fun ys hy => ?_⟩, st', fun b hb => (hf b hb).1⟩⟩
    rw [I.list_inj hy hq]; exact hx
  done := by
    rintro X rfl rfl rfl hc i pins s σ H E I hf st ⟨xs, hq, hx⟩
    obtain ⟨its, rv, p, _⟩ := I.list hq
    obtain ⟨f0, f1, f2, f3, f4, f5⟩ := hf it List.mem_cons_self
    obtain ⟨x1, hot⟩ := hc.at I
    have hl := rv.length
    exact list_end_hot hot st p.isList (by simp; omega) fun h' eb => ⟨rfl, I.turned (t' := s.toks) (fun b o hb e => eb b o hb e) f0 f1 f3 f4 f5⟩
  self := fun _ _ _ _ _ st h => wpAny_pyIter_listiter st h
theorem pi_listH {X : Cx} {tg l : Expr} {tl : TE} (hl : PE X l tl) : PIH X tg l (iList X.K tl) := by
  refine ⟨fun pins s σ H R I h => thn (hl.run pins s σ H _ I h) fun v s1 ⟨x, H1, I1, r1, a, e, ⟨xs, hq⟩, q⟩ => ?_⟩
  subst e
  cases r1
  obtain ⟨its, rv, p, _⟩ := I1.list hq
  refine wpAny_pyIter_list p.isList ⟨s1.heap.objs.size, [s1.heap.objs.size], _, _, H1, rfl, I1.kept (t' := s1.toks) fun b o e => Heap.get?_push_of_some _ e, turn_listH a _, ⟨_, Heap.get?_push_size _ rfl, rfl, rfl⟩, fun b hb => ?_, q⟩
  rw [List.mem_singleton.mp hb]; exact I1.fpOk (Nat.le_refl _) (I1.hok.fresh (Nat.le_refl _))
end One
namespace One
open PySem PySem.Spec PyProof.Rows L2 L2H HotX
/-! ### a comprehension there: its block keeps the pins -/
abbrev blkP (X : Cx) (s : Shared) (H : Hp) (scope : Scope) (ce : Env) (fp : List Addr) : Cx := { X.blk s H scope ce fp with pn := X.pn }
section
variable {X : Cx} {s sB : Shared} {H HB : Hp} {scope : Scope} {ce : Env} {fp : List Addr} {pl : List (Addr × Obj)} {τ : L2.St}
theorem to_blkP (J : Inv (X.blk s H scope ce fp) [] τ HB sB) (hp : ∀ p ∈ X.pn, sB.heap.get? p.1 = some p.2 ∧ HB p.1 = none ∧ p.1 ≠ ce.locals ∧ p.1 ∉ frs X.stack ∧ ∀ v, p.2.data ≠ .cell v) : Inv (blkP X s H scope ce fp) [] τ HB sB :=
  ⟨⟨J.ok.mod, J.ok.kind, J.ok.glob, J.ok.blt, J.ok.above, J.ok.inj, J.ok.has, J.ok.cab, J.ok.hd, J.ok.frames, J.ok.stk, J.ok.exf, J.ok.bs, J.ok.bsz, J.ok.noex, J.ok.exfs, J.ok.funs, J.ok.frf⟩,
   J.os, J.bare, J.base, J.loc, J.cell, J.free, J.freeC, fun p hm => hp p (by rw [List.append_nil] at hm; exact hm), J.hok, J.len⟩
end
theorem lc_hot {X : Cx} {pins : List (Addr × Obj)} {s : Shared} {σ : L2.St} {H : Hp} {Q : VK} {elt tg iter : Expr} {ifs : List Expr} {scope : Scope} {own : List (Str × Nat)} {pos pos' : Pos} {wi : TI} {g : TG} {tt : TT} {te : TE} {Qf : Value → Shared → Prop}
    (hc : HotC X) (hN : X.N.Nodup) (I : Inv X pins σ H s) (hi : PIH X tg iter wi) (ok : BlkOk X.N X.env.scope scope own)
    (hg : ∀ s H C cl fp, PG (blkP X s H scope (compEnvC scope cl C X.env) fp) tg g) (ht : ∀ s H C cl fp, PTs (blkP X s H scope (compEnvC scope cl C X.env) fp) ifs tt)
    (he : ∀ s H C cl fp, PE (blkP X s H scope (compEnvC scope cl C X.env) fp) elt te) (hs : ∀ x, foldedSetIterable iter X.env x = pure x) (h : tLc wi g tt te (own.map (·.2)) σ H Q)
    (fin : ∀ D C s' m H', Inv X pins σ H' s' → Q (.ref D) H' → s'.heap.Ns C m → FpOk X pins H' C → compPost (model X.prog X.w) X.A X.xe none Qf (.ref D) C (.ok .next) s') :
    wpAny (model X.prog X.w) X.A (comprehension (.ListComp elt [⟨tg, iter, ifs, 0⟩] scope pos) scope X.env pos' (newList []) false (eval iter X.env) none) Qf X.xe s := by
  have cells : ∀ y ∈ scope.names, y.2 = .free → ∃ c, X.env.cells.lookup y.1 = some c := fun y hy e => (ok.free y hy e).elim (fun k => I.ok.has _ (.inl k)) fun k => I.ok.has _ (.inr k)
  refine wpAny_comprehension_free (use := none) rfl hs (closure_ok cells) ok.kind (fun y hy e => by rw [ok.uniq y hy, e]) (thn (hi.run pins s σ H _ I h) fun xv sa hx => thn hx fun itv sb hb => ?_)
  obtain ⟨it, fp, tn, J, Hb, rfl, Ib, T, tn0, fpo, w0⟩ := hb
  refine wpAny_newObj_type (newEnv_comp ?_) (Nat.zero_le _)
  have newD : Hb sb.heap.objs.size = none := Ib.hok.fresh (Nat.le_refl _)
  obtain ⟨W, ⟨m0, start⟩, turn⟩ := w0 _ newD
  -- the list is laid
  let D := sb.heap.objs.size
  let sc : Shared := { sb with heap := sb.heap.push { cls := .type "list", data := .seq ([] : List Value).toArray } }
  let Hc : Hp := upd Hb D (.lst [])
  have topD : sc.heap.get? D = some { cls := .type "list", data := .seq ([] : List Value).toArray } := Heap.get?_push_size _ rfl
  have Ic : Inv X pins σ Hc sc := Ib.laid (t' := sb.toks) (fun b o e => Heap.get?_push_of_some _ e) (Nat.le_refl _) ⟨Nat.zero_le _, [], 0, .nil, topD⟩
  have below : ∀ b ∈ fp, b < sb.heap.objs.size := fun b hb => let ⟨o, e, _⟩ := T.obj _ _ tn0 b hb; Heap.lt_size e
  have fpc : ∀ b ∈ fp, FpOk X pins Hc b ∧ b < sc.heap.objs.size := fun b hb => by
    have lt := below b hb
    refine ⟨⟨?_, (fpo b hb).2⟩, by show b < (sb.heap.push _).objs.size; rw [Heap.size_push]; exact Nat.lt_succ_of_lt lt⟩
    show upd Hb D _ b = none
    rw [upd_ne (Nat.ne_of_lt lt)]; exact (fpo b hb).1
  let ce : Env := compEnvC scope (cellsFrom (sc.heap.objs.size + 1) scope.names (cloFrom X.env.cells scope.names [])) sc.heap.objs.size X.env
  let sd : Shared := { sc with heap := pushCells (sc.heap.push { cls := .type "dict", data := .dict #[] }) scope.names }
  have kd : ∀ b o, sc.heap.get? b = some o → sd.heap.get? b = some o := fun b o e => pushCells_keeps _ _ _ _ (Heap.get?_push_of_some _ e)
  have Id : Inv (blkP X sc Hc scope ce fp) [] (wipe σ (own.map (·.2))) Hc sd := to_blkP (block_start Ic ok hN fpc) fun p hp => by
    obtain ⟨z1, z2, z3, z4, z5⟩ := Ic.pin p (List.mem_append_left _ hp)
    exact ⟨kd _ _ z1, z2, Nat.ne_of_lt (Heap.lt_size z1), fun hm => (List.mem_cons.mp (Ic.stkSub p.1 hm)).elim z3 z4, z5⟩
  have hcP : HotC (blkP X sc Hc scope ce fp) := hc
  have tnd : tn 0 sd.heap := T.keep _ _ _ tn0 fun b _ o e => kd _ _ (Heap.get?_push_of_some _ e)
  have pinNe : ∀ b ∈ fp, ∀ p ∈ X.pn, p.1 ≠ b := fun b hb p hp => (fpo b hb).2.2.2.2.2 p (List.mem_append_left _ hp)
  have stat : ∀ {τ : L2.St} {H' : Hp} {s' : Shared}, Inv (blkP X sc Hc scope ce fp) [] τ H' s' → (∀ b ∈ fp, H' b = none) → ∀ b ∈ fp, FpOk (blkP X sc Hc scope ce fp) [] H' b := fun I' n b hb =>
    ⟨n b hb, (I'.ok.exf b hb).1, I'.ok.exfs b hb, .inl hb, fun x c e => (I'.ok.exf b hb).2 x c e, fun p hp => pinNe b hb p (by rw [List.append_nil] at hp; exact hp)⟩
  have pg := hg sc Hc sc.heap.objs.size (cellsFrom (sc.heap.objs.size + 1) scope.names (cloFrom X.env.cells scope.names [])) fp
  have pt := ht sc Hc sc.heap.objs.size (cellsFrom (sc.heap.objs.size + 1) scope.names (cloFrom X.env.cells scope.names [])) fp
  have pe := he sc Hc sc.heap.objs.size (cellsFrom (sc.heap.objs.size + 1) scope.names (cloFrom X.env.cells scope.names [])) fp
  show codeAny _ _ (.compStart (.ListComp elt [⟨tg, iter, ifs, 0⟩] scope pos) 0 (.ref it) (.ref D) ce) (compPost (model X.prog X.w) X.A X.xe none Qf (.ref D) sc.heap.objs.size) sd
  have loop : codeAny (model X.prog X.w) X.A (.compLoop (.ListComp elt [⟨tg, iter, ifs, 0⟩] scope pos) 0 (.ref it) (.ref D) ce) (compPost (model X.prog X.w) X.A X.xe none Qf (.ref D) sc.heap.objs.size) sd := by
    refine compLoop_any (fun n s' => ∃ i H', Inv (blkP X sc Hc scope ce fp) [] (wipe σ (own.map (·.2))) H' s' ∧ tn i s'.heap ∧ (∀ b ∈ fp, H' b = none) ∧ W i n H') ?_ m0 ⟨0, Hc, Id, tnd, fun b hb => (fpc b hb).1.1, start⟩
    rintro n s5 ⟨i, H5, I5, t5, n5, w5⟩
    rcases turn i n H5 w5 with ⟨stop, qq⟩ | ⟨go, Nx, hNx, step⟩
    · refine thnF (T.done (blkP X sc Hc scope ce fp) rfl rfl rfl hcP i [] s5 _ H5 (fun _ _ => False) I5 (stat I5 n5) t5 stop) fun r s6 ⟨hr, I6⟩ => ?_
      subst hr
      have back : Inv X pins σ H5 s6 := Ic.call' (ch := fp) I6.os I6.base I6.hok I6.bare fun b hb => let z := (fpc b hb).1.2; ⟨z.2.2.1, z.1, z.2.2.2.1, z.2.2.2.2⟩
      obtain ⟨m, hn, _⟩ := I6.loc
      exact fin D sc.heap.objs.size s6 m H5 back qq hn (Ic.fpOk (Nat.le_refl _) I6.free)
    · refine thnF (T.item (blkP X sc Hc scope ce fp) rfl rfl rfl hcP i [] s5 _ H5 (fun _ _ => False) I5 (stat I5 n5) t5 go) fun r s6 ⟨u, hr, h6⟩ => ?_
      subst hr
      refine thnF h6 fun _ s7 ⟨x, H7, I7, r7, y7, t7, n7⟩ => ?_
      have J7 := I7.pinned (stat I7 n7) (T.obj _ _ t7)
      refine thnF (pg.run _ s7 _ H7 x u _ J7 r7 (step x H7 y7)) fun _ s8 ⟨σ8, H8, I8, e8, q8⟩ => ?_
      refine thnF (pt.run _ s8 σ8 H8 _ I8 q8) fun b s9 ⟨H9, I9, q9⟩ => ?_
      have again : ∀ {s' : Shared} {H' : Hp}, Inv (blkP X sc Hc scope ce fp) ([] ++ pinsAt fp s7.heap) σ8 H' s' → Nx H' → ∃ m, m < n ∧ ∃ i H', Inv (blkP X sc Hc scope ce fp) [] (wipe σ (own.map (·.2))) H' s' ∧ tn i s'.heap ∧ (∀ b ∈ fp, H' b = none) ∧ W i m H' := fun {s' H'} I' nx => by
        obtain ⟨m', lt, w'⟩ := hNx H' nx
        have held : ∀ b ∈ fp, ∀ o, s7.heap.get? b = some o → s'.heap.get? b = some o ∧ H' b = none := fun b hb o e => let z := I'.pin (b, o) (List.mem_append_right _ (List.mem_append_right _ (mem_pinsAt hb e))); ⟨z.1, z.2.1⟩
        refine ⟨m', lt, i + 1, H', (I'.unpinned (pins := [])).weak (by rw [← e8, wipe_length]) (fun j v e => (wipe_some (by rw [e8]; exact e)).1), T.keep _ _ _ t7 fun b hb o e => (held b hb o e).1, fun b hb => ?_, w'⟩
        obtain ⟨o, e, _⟩ := T.obj _ _ t7 b hb
        exact (held b hb o e).2
      cases b with
      | false => exact again I9 q9
      | true => exact thnF (pe.run _ s9 σ8 H9 _ I9 q9) fun z s10 ⟨yv, H10, I10, r10, acc, hD, hz, nx⟩ => app_ok (X := blkP X sc Hc scope ce fp) I10 hD hz r10 fun s11 I11 => again I11 nx
  exact codeAny_compStart_list loop (T.self X.A 0 _ _ _ tnd loop)
theorem pe_lcH {X : Cx} {elt tg iter : Expr} {ifs : List Expr} {scope : Scope} {own : List (Str × Nat)} {pos : Pos} {wi : TI} {g : TG} {tt : TT} {te : TE} (hc : HotC X) (hN : X.N.Nodup) (hi : PIH X tg iter wi) (ok : BlkOk X.N X.env.scope scope own)
    (hg : ∀ s H C cl fp, PG (blkP X s H scope (compEnvC scope cl C X.env) fp) tg g) (ht : ∀ s H C cl fp, PTs (blkP X s H scope (compEnvC scope cl C X.env) fp) ifs tt)
    (he : ∀ s H C cl fp, PE (blkP X s H scope (compEnvC scope cl C X.env) fp) elt te) (hs : ∀ x, foldedSetIterable iter X.env x = pure x := by intro _; rfl) : PE X (.ListComp elt [⟨tg, iter, ifs, 0⟩] scope pos) (tLc wi g tt te (own.map (·.2))) := by
  refine ⟨fun pins s σ H Q I h => ?_⟩; rw [eval_ListComp]
  refine lc_hot hc hN I hi ok hg ht he hs h fun D C s' m H' I' q hn ⟨f0, f1, f2, f3, f4, f5⟩ => ⟨m, hn, fun h2 sb => ?_⟩
  exact ⟨.ref D, H', I'.turned (t' := s'.toks) (fun b o hb e => (sb.2 b hb).trans e) f0 f1 f3 f4 f5, rfl, q⟩
end One
namespace One
open PySem PySem.Spec PyProof.Rows L2 L2H HotX
/-! ### a def of one argument, the exception that is handled -/
/-- p's object is an exception of the own class D without own fields -/
def ExcAt (D : Addr) (p : Addr × Obj) : Prop := L2N.Zn (.ref D) none p.2 ∧ ∃ vs : Array Value, p.2.data = .fields vs
abbrev cxE (P : Program) (w : World) (K : PySem.W.Frag) (mg : Str → Option Value) (base : Heap) (N : List Str) (qual : Str) (sc : Scope) (f : Addr) (cd : Value) (A : Around) (outer : List Env) (s : Shared) (H : Hp) (p : Addr × Obj) : Cx :=
  cxH CX0 P w K mg base N qual sc f cd A outer s H E0 p
structure CalX (P : Program) (w : World) (K : PySem.W.Frag) (mg : Str → Option Value) (base : Heap) (x : Str) (k : Nat) (sp : Addr → Hp → VK → Prop) : Prop where
  ex : ∃ f fd, mg x = some (.ref f) ∧ PySem.W.keepIn K (.ref f) = true ∧ Binds K fd ["_law_e"] [] ∧
    ∀ (D : Addr) (A : Around) (outer : List Env) (s : Shared) (H : Hp) (args : Args) (u : Value) (Q : VK) (p : Addr × Obj), RoomH k A → Hot1 A p → ExcAt D p → PinOk outer H s p → Env0 P w K mg base A outer s H → BindsTo s fd args [("_law_e", u)] → RelV (.ref p.1) u → sp D H Q →
      codeAny (model P w) A (.call (.ref f) args) (CR CX0 outer P w H s Q E0) s
theorem Def.calX {P : Program} {w : World} {K : PySem.W.Frag} {mg : Str → Option Value} {base : Heap} {x : Str} {st : Stmt} {N : List Str} {k : Nat} {sp : Addr → Hp → VK → Prop} (d : Def K mg x st) (S : FnScope N ["_law_e"] (defScope st))
    (hb : ∀ (kV doc pm : Value) (an : Option Addr) (cdv ct : Value) (us : List Value), us.length = 1 → bindArgs (PySem.W.fnOf x x (defArgs st) (defBody st) (defScope st) .none kV doc pm an cdv ct) ⟨us, []⟩ = pure ([("_law_e" : Str)].zip us))
    (body : ∀ (D f : Addr) (cdv : Value) (A : Around) (outer : List Env) (s : Shared) (H : Hp) (Q : VK) (p : Addr × Obj), HotC (cxE P w K mg base N x (defScope st) f cdv A outer s H p) → ExcAt D p → sp D H Q →
      ∃ t, PSs (cxE P w K mg base N x (defScope st) f cdv A outer s H p) (defBody st) t ∧ t { nx := fun _ H' => Q .non H', rt := Q } (L2.start N [.ref p.1]) H) : CalX P w K mg base x (k + 1) sp := by
  obtain ⟨f, fd, hm, F⟩ := d
  refine ⟨f, fd, hm, F.kp, F.bindsN hb, fun D A outer s H args u Q p room hot exc pin e0 bound ru q => ?_⟩
  obtain ⟨oc, od, dV, kV, doc, pm, an, cdv, ct, osl, rfl, lk, code, _, _⟩ := F.ex
  have inK : K.In s.heap := e0.mod.kin.keeps fun b o e => (e0.bs b o e).1
  have names : ∀ y ∈ [("_law_e" : Str)].zip [u], (defScope st).names.lookup y.1 = some .local ∨ ((defScope st).names.lookup y.1 = some .cell ∧ ((cellsFrom (s.heap.objs.size + 1) (defScope st).names []).lookup y.1).isSome = true) := fun y hy =>
    (S.par y.1 (List.of_mem_zip hy).1).imp id fun z => ⟨z, PySem.W.cellsFrom_some _ _ _ (.inl z)⟩
  refine codeAny_call_function room.depth (inK _ _ lk) rfl S.co S.gen rfl (PySem.W.codeRec_of inK code) (bound _ _ _ _ (wpAny_newFunctionEnv_cells S.kind names ?_))
  rintro _ rfl s1 fresh
  refine ⟨(e0.mod.nolimit.keeps fun b o e => (e0.bs b o e).1).keeps fresh.toInCall.keep, codeAny_func ?_⟩
  have hotc : HotC (cxE P w K mg base N x (defScope st) f cdv (A.deeper (envOfC x (defScope st) s.heap.objs.size f cdv)) outer s H p) := ⟨p, hot, List.mem_cons_self⟩
  obtain ⟨t, ht, hq⟩ := body D f cdv A outer s H Q p ⟨p, hot, List.mem_cons_self⟩ exc q
  have I : Inv (cxE P w K mg base N x (defScope st) f cdv A outer s H p) [] (L2.start N [.ref p.1]) H s1 := inv_startH (us := [u]) S pin e0 rfl (.cons ru .nil) fresh
  refine wpAny_mono (ht.run [] s1 _ H _ I hq) (fun fl s' r => ?_) fun _ _ z => z
  cases fl with
  | ret u =>
    obtain ⟨v, _, H', J, rv, z⟩ := r
    exact ⟨v, H', J.os, J.bare, J.base, J.hok, rv, z⟩
  | next =>
    obtain ⟨_, H', J, z⟩ := r
    exact ⟨.non, H', J.os, J.bare, J.base, J.hok, rfl, z⟩
  | brk =>
    obtain ⟨_, _, _, z⟩ := r
    exact z.elim
  | cont =>
    obtain ⟨_, _, _, z⟩ := r
    exact z.elim
/-- x(e) in an except suite, e the name of what is handled -/
def tCalX (sp : Addr → Hp → VK → Prop) (a : Addr) (cls : Value) (d : Option Addr) (t : TA) : TE := fun σ H Q => t σ H fun vs H1 => vs = [.ref a] ∧ ∃ D, cls = .ref D ∧ d = none ∧ sp D H1 Q
theorem pe_calX {X : Cx} {x : Str} {k j : Nat} {sp : Addr → Hp → VK → Prop} {a : Addr} {oe : Obj} {pn : List (Addr × Obj)} {cls : Value} {d : Option Addr} {e : Expr} {t : TA} {q pos : Pos} (C : CalX X.prog X.w X.K X.mg X.base x k sp) (hr : Room j X.A) (hz : L2N.Zn cls d oe) (hf : ∃ vs : Array Value, oe.data = .fields vs)
    (ha : PA (X.suite a ((a, oe) :: pn)) [e] t) (hk : k ≤ j := by decide) (hg : Gl X x := by rfl) (hdb : (x == ("__debug__" : Str)) = false := by decide) (hst : starEach [e] X.env = (false, eval e X.env) :: starEach [] X.env := by rfl) (hpl : (backTo pos (starEach [] X.env)).any (·.1) = false := by rfl) :
    PE (X.suite a ((a, oe) :: pn)) (.Call (.Name x q) [e] [] pos) (tCalX sp a cls d t) := by
  obtain ⟨f, fd, hm, kp, hb, run⟩ := C.ex
  obtain ⟨ds, hd⟩ := hf
  refine ⟨fun pins s σ H Q I h => wpAny_Call_Name_kw (ld_glob (X := X.suite a ((a, oe) :: pn)) I hg hm ?_ hdb)⟩
  refine PySem.W.callWith_K (h₀ := X.base) I.ok.mod.kin kp (thn (ha.run pos pins s σ H _ I h) fun us s1 ⟨vs, H1, I1, r, ev, D, ec, edd, hsp⟩ => ⟨I1.kIn, ?_⟩) hst hpl
  subst ev ec edd
  obtain ⟨u, rfl, ru⟩ := vals1 r
  have room : RoomH k (X.suite a ((a, oe) :: pn)).A := RoomH.mono ⟨hr.dp, hr.un⟩ hk
  have hot : Hot1 (X.suite a ((a, oe) :: pn)).A (a, oe) := ⟨rfl, ds, hd, hz.2.2 ds hd⟩
  obtain ⟨z1, z2, z3, z4, z5⟩ := I1.pin (a, oe) (List.mem_append_left _ List.mem_cons_self)
  have pin : PinOk X.stack H1 s1 (a, oe) := ⟨z1, z2, fun m => (List.mem_cons.mp (I1.stkSub a m)).elim z3 z4, z5⟩
  have bound := hb s1 [u] I1.kIn rfl
  refine wpAny_call (codeAny_mono (run D _ X.stack s1 H1 ⟨[u], []⟩ u Q (a, oe) room hot ⟨hz, ds, hd⟩ pin I1.env0 bound ru hsp) fun r s' hq => ?_)
  cases r with
  | error e => exact hq.elim
  | ok fl =>
    cases fl with
    | ret u => exact I1.after hq
    | next => exact False.elim hq
    | brk => exact False.elim hq
    | cont => exact False.elim hq
/-! ### isinstance(e, C) there -/
def rIsX (K : PySem.W.Frag) (D a : Addr) : List V → Hp → VK → Prop := fun xs H Q => ∃ c, xs = [.ref a, c] ∧ ∃ (cv : Value) (b : Bool), (∀ u, RelV c u → u = cv) ∧ PySem.W.kitOne K (.ref D) cv = some b ∧ Q (.bl b) H
theorem call_isX {X : Cx} {D : Addr} {p : Addr × Obj} (C : ExcC X.K D) (hp : p ∈ X.pn) (hz : ExcAt D p) : CallR X (.builtin "isinstance") (rIsX X.K D p.1) := by
  intro pins s σ H xs us Q I r h
  obtain ⟨c, rfl, cv, b, hcv, e, q⟩ := h
  match us, r with
  | [_, _], .cons rx (.cons rt .nil) =>
    cases rx
    obtain rfl := hcv _ rt
    obtain ⟨hget, _⟩ := I.pin p (List.mem_append_left _ hp)
    obtain ⟨⟨h1, h2, _⟩, vs, hv⟩ := hz
    have J : PySem.W.InstAt s.heap p.1 p.2 D none := by
      obtain ⟨a, oc, od, oda, osl⟩ := p
      dsimp only at h1 h2 hv
      subst h1 h2 hv
      exact ⟨hget, rfl, rfl, trivial⟩
    exact PySem.W.kia_one (PySem.W.handS_kitx_exc C.hg C.hk C.hs C.hd C.ha C.hn C.ht C.hm) I.kIn J e (fun z => nomatch z) fun tk => ⟨.bl b, H, I.kept (t' := tk) fun _ _ z => z, rfl, q⟩
end One
namespace One
open PySem PySem.Spec PyProof.Rows L2
/-! ### the program's classes of refusals -/
def errNames : List Str := ["BadCode", "Full", "BadWord", "Twice", "NotThere", "NoNumber", "NoWait", "BadSign", "NoReading"]
def errAll : List Str := "CodeError" :: errNames
def excB (K : PySem.W.Frag) (D : Addr) : Bool := decide (PySem.W.findIn K (.ref D) "__getattribute__" = some (some (.builtin "BaseException.__getattribute__"))) && (decide (PySem.W.findIn K (.ref D) "__getattr__" = some none) &&
  (decide (PySem.W.subIn K (.ref D) (.type "BaseException") = some true) && (PySem.W.hasDictIn K D && (decide (PySem.W.findIn K (.ref D) "__class__" = some (some (.builtin "object.__class__"))) &&
  (decide (PySem.W.specialIn K (.builtin "object.__class__") "__get__" = some (some (.builtin "getset_descriptor.__get__"))) && (decide (PySem.W.takesIn K (.builtin "object.__class__") = some true) && decide (PySem.W.mroIn K D (.type "object") = some true)))))))
theorem excB_ok {K : PySem.W.Frag} {D : Addr} (h : excB K D = true) : ExcC K D := by
  unfold excB at h
  simp only [Bool.and_eq_true, decide_eq_true_eq] at h
  obtain ⟨h1, h2, h3, h4, h5, h6, h7, h8⟩ := h
  exact ⟨h1, h2, h3, h4, h5, h6, h7, h8⟩
def errB (K : PySem.W.Frag) : Bool := (errAll.all fun x => (He.Fa.glo x).ok K) && ((He.Fa.free "ValueError").ok K && errNames.all fun x => (He.Fa.exc x).ok K && (excB K (He.ga K x) && ((He.Fa.exm x "CodeError" true).ok K &&
  (decide (PySem.W.kitOne K (.ref (He.ga K x)) (.type "ValueError") = some true) && errNames.all fun y => decide (PySem.W.kitOne K (.ref (He.ga K x)) (.ref (He.ga K y)) = some (decide (x = y)))))))
structure Errs (K : PySem.W.Frag) (mg : Str → Option Value) : Prop where
  gl : ∀ x ∈ errAll, mg x = some (.ref (He.ga K x))
  ve : mg "ValueError" = none
  made : ∀ x ∈ errNames, (He.Fa.exc x).ok K = true
  ex : ∀ x ∈ errNames, ExcC K (He.ga K x)
  exm : ∀ x ∈ errNames, PySem.W.exmOne K (.ref (He.ga K x)) (.ref (He.ga K "CodeError")) = some true
  kve : ∀ x ∈ errNames, PySem.W.kitOne K (.ref (He.ga K x)) (.type "ValueError") = some true
  kit : ∀ x ∈ errNames, ∀ y ∈ errNames, PySem.W.kitOne K (.ref (He.ga K x)) (.ref (He.ga K y)) = some (decide (x = y))
theorem errs_ok {K : PySem.W.Frag} {h : Heap} {mg : Str → Option Value} (X : K.In h) (G : h.Ns mainGlobals mg) (c : errB K = true) : Errs K mg := by
  unfold errB at c
  simp only [Bool.and_eq_true, List.all_eq_true, decide_eq_true_eq] at c
  obtain ⟨c1, c2, c3⟩ := c
  exact ⟨fun x hx => He.glo_ok X G (c1 x hx), He.free_ok X G c2, fun x hx => (c3 x hx).1, fun x hx => excB_ok (c3 x hx).2.1, fun x hx => He.exm_ok (c3 x hx).2.2.1, fun x hx => (c3 x hx).2.2.2.1, fun x hx y hy => (c3 x hx).2.2.2.2 y hy⟩
/-- the head's hook with one fact more -/
def hookM (n : Nat) (fa : List He.Fa) (fn : List He.DefD) (ex : PySem.W.Frag → Bool) : PySem.W.Hook where
  α := He.AlD × Bool
  obs := fun s => (He.obsDG n fa fn s.heap.get?, ex (He.frG s.heap.get? (He.asD s.heap.get? n)))
  val := fun _ => (He.valD fn, true)
  says := fun _ h => ∃ K : PySem.W.Frag, K.In h ∧ He.SaysD fa fn K ∧ ex K = true
  of := fun _ _ e => ⟨_, He.frG_in, congrArg (fun z : He.AlD × Bool => z.1) e, congrArg (fun z : He.AlD × Bool => z.2) e⟩
  keeps := fun _ _ _ ⟨K, hK, c⟩ k => ⟨K, PySem.W.Frag.In.keeps hK k, c⟩
theorem obsM_eq {n : Nat} {fa : List He.Fa} {fn : List He.DefD} {ex : PySem.W.Frag → Bool} {g : Addr → Option Obj} {s : Shared} (h : ∀ a, g a = s.heap.get? a) : (He.obsDG n fa fn g, ex (He.frG g (He.asD g n))) = (hookM n fa fn ex).obs s := by
  have e : g = s.heap.get? := funext h
  rw [e]; rfl
/-- isinstance(e, y), e of the class x -/
theorem isx_own {K : PySem.W.Frag} {mg : Str → Option Value} {x y : Str} {a : Addr} {H : Hp} {Q : VK} (Er : Errs K mg) (hx : x ∈ errNames) (hy : y ∈ errNames) (q : Q (.bl (decide (x = y))) H) : rIsX K (He.ga K x) a [.ref a, .ref (He.ga K y)] H Q :=
  ⟨_, rfl, _, _, fun _ h => h, Er.kit x hx y hy, q⟩
theorem isx_ve {K : PySem.W.Frag} {mg : Str → Option Value} {x : Str} {a : Addr} {H : Hp} {Q : VK} (Er : Errs K mg) (hx : x ∈ errNames) (q : Q (.bl true) H) : rIsX K (He.ga K x) a [.ref a, .ty "ValueError"] H Q :=
  ⟨_, rfl, _, _, fun _ h => h, Er.kve x hx, q⟩
theorem pe_err {X : Cx} {x : Str} {pos : Pos} (Er : Errs X.K X.mg) (hx : x ∈ errAll) (hg : Gl X x) (hd : (x == ("__debug__" : Str)) = false := by decide) : PE X (.Name x pos) (tC (.ref (He.ga X.K x))) := pe_glob hg (Er.gl x hx) rfl hd
theorem pe_verr {X : Cx} {pos : Pos} (Er : Errs X.K X.mg) (hg : Gl X "ValueError") : PE X (.Name "ValueError" pos) (tC (.ty "ValueError")) := pe_bltn hg Er.ve (by decide +kernel) rfl (by decide) (by decide)
end One
namespace One
open PySem PySem.Spec PyProof.Rows L2
/-! ### to refuse, to let a refusal out, to meet one -/
theorem takes0N {X : Cx} : L2N.Takes X (fun _ _ _ _ => False) := fun _ _ ⟨_, _, _, _, _, _, _, _, _, _, _, _, _, _, _, _, z⟩ => z.elim
theorem ps_refuse {X : Cx} {W : WX} {x m : Str} {j : Nat} {p p2 pos pos' : Pos} (Er : Errs X.K X.mg) (hx : x ∈ errNames) (hc : X.calm = true) (tk : L2N.Takes X W) (hg : Gl X x) (hd : (x == ("__debug__" : Str)) = false := by decide) :
    PS X (.Raise (some (.Call (.Name x p) [.Constant (.str m) j p2] [] pos)) none pos') (fun _ σ H => W (.ref (He.ga X.K x)) none σ H) := by
  obtain ⟨z1, z2, z3, z4⟩ := He.exc_ok (Er.made x hx)
  exact L2N.ps_raise hc tk (L2N.pmk_own PySem.F.excBase_ValueError z1 (Er.gl x (List.mem_cons_of_mem _ hx)) z2 (raises_own z3 z4) hg hd)
section
variable {X : Cx} {j k : Nat} {ps : List Str} {sp : Sp} {W : WX} {x : Str} {p pos : Pos} {e : Expr} {es : List Expr} {t : TA}
/-- a call of a def that may refuse -/
theorem pe_calS (C : Cal X.prog X.w X.K X.mg X.base (L2N.CX X.prog X.w) x k ps sp) (hr : Room j X.A) (tk : L2N.Takes X W) (ha : PA X (e :: es) t) (hk : k ≤ j := by decide) (hg : Gl X x := by rfl)
    (hd : (x == ("__debug__" : Str)) = false := by decide) (he : starEach (e :: es) X.env = (false, eval e X.env) :: starEach es X.env := by rfl) (hpl : (backTo pos (starEach es X.env)).any (·.1) = false := by rfl) :
    PE X (.Call (.Name x p) (e :: es) [] pos) (tCallS sp (WE W) t) := by
  obtain ⟨f, fd, hm, hkp, hb, F⟩ := C.ex
  exact pe_callS F (hr.mono hk) hg hm hkp hb (fun σ => L2N.passAt tk σ) ha hd he hpl
end
/-- a refusal met by except CodeError as e -/
theorem met {K : PySem.W.Frag} {mg : Str → Option Value} {x : Str} {i : Nat} {ts : Addr → Value → Option Addr → TS} {D : Ends} {σ : L2.St} {H : Hp} (Er : Errs K mg) (hx : x ∈ errNames)
    (h : ∀ a, H a = none → ts a (.ref (He.ga K x)) none { nx := fun σ' H' => D.nx (σ'.set i none) H', rt := D.rt, bk := fun σ' H' => D.bk (σ'.set i none) H', ct := fun σ' H' => D.ct (σ'.set i none) H' } (σ.set i (some (.ref a))) H) :
    wAs K (.ref (He.ga K "CodeError")) i ts (fun _ _ _ _ => False) D (.ref (He.ga K x)) none σ H := ⟨true, Er.exm x hx, fun _ a ha => h a ha, fun z => nomatch z⟩
end One
namespace One
open PySem PySem.Spec PyProof.Rows L2 L2H
section
variable {X : Cx} {s : Shared} {H : Hp} {scope : Scope} {ce : Env} {fp : List Addr}
theorem pg_tupB {es : List Expr} {k : Nat} {t : TGs} {n : Nat} {pos : Pos} (hc : HotC X) (h : PGs (blkP X s H scope ce fp) es t) (hn : (assignEach es (blkP X s H scope ce fp).env).length = n := by rfl) (hst : (assignEach es (blkP X s H scope ce fp).env).findIdx? (·.1) = none := by rfl) :
    PG (blkP X s H scope ce fp) (.Tuple es k pos) (gTup X.K n t) := pg_tupH (X := blkP X s H scope ce fp) hc h hn hst
theorem call_isB {D : Addr} {p : Addr × Obj} (C : ExcC X.K D) (hp : p ∈ X.pn) (hz : ExcAt D p) : CallR (blkP X s H scope ce fp) (.builtin "isinstance") (rIsX X.K D p.1) := call_isX (X := blkP X s H scope ce fp) C hp hz
end
end One

namespace One
open PySem PySem.Spec PyProof.Rows L2
/-! ### a function kept as a value, called; an object made by an __init__ that may refuse -/
def spNo : Sp := fun _ _ _ _ => False
section
variable {X : Cx} {CX : CXT} {j k : Nat} {C : Addr} {ps : List Str} {sp : Sp} {E : XK} {x m : Str} {p pos apos : Pos} {o e g : Expr} {es : List Expr} {tf ta : TE} {t : TA} {W : WX}
/-- the name of a function, as a value -/
def tGlob (mg : Str → Option Value) (x : Str) : TE := fun _ H Q => ∀ f, mg x = some (.ref f) → Q (.ref f) H
theorem pe_fnm (h : ∃ f, X.mg x = some (.ref f)) (hg : Gl X x := by rfl) (hd : (x == ("__debug__" : Str)) = false := by decide) : PE X (.Name x pos) (tGlob X.mg x) := by
  obtain ⟨f, hm⟩ := h
  refine ⟨fun pins s σ H Q I q => (pe_glob (v := .ref f) hg hm rfl hd).run pins s σ H Q I (q f hm)⟩
theorem Cal.fn (c : Cal X.prog X.w X.K X.mg X.base CX x k ps sp) : ∃ f, X.mg x = some (.ref f) := let ⟨f, _, hm, _⟩ := c.ex; ⟨f, hm⟩
/-- what is at f keeps the promise sp -/
structure FnAt (P : Program) (w : World) (K : PySem.W.Frag) (base : Heap) (mg : Str → Option Value) (CX : CXT) (j : Nat) (f : Addr) (sp : Sp) : Prop where
  ex : ∃ fd k ps, k ≤ j ∧ PySem.W.keepIn K (.ref f) = true ∧ Binds K fd ps [] ∧ FnOk P w K mg base CX k f fd ps sp
def tCallG (F : Addr → Sp → Prop) (tf : TE) (E : XK) (t : TA) : TE := fun σ H Q => tf σ H fun x H1 => ∃ f sp, x = .ref f ∧ F f sp ∧ t σ H1 fun vs H2 => sp vs H2 Q E
theorem pe_calG (hf : PE X g tf) (hr : Room j X.A) (hx : Passes CX X E) (ha : PA X (e :: es) t) (he : starEach (e :: es) X.env = (false, eval e X.env) :: starEach es X.env := by rfl) (hpl : (backTo pos (starEach es X.env)).any (·.1) = false := by rfl)
    (ht : eval (.Call g (e :: es) [] pos) X.env = (do callWith pos (← eval g X.env) [] (backTo pos (starEach (e :: es) X.env)) (backToKw pos (keywordEach [] X.env))) := by rfl) :
    PE X (.Call g (e :: es) [] pos) (tCallG (FnAt X.prog X.w X.K X.base X.mg CX j) tf E t) := by
  refine ⟨fun pins s σ H Q I h => Call_ (thn (hf.run pins s σ H _ I h) fun u s1 ⟨x, H1, I1, rx, f, sp, ex, F, q⟩ => ?_) ht⟩
  subst ex
  obtain rfl : u = Value.ref f := rx
  obtain ⟨fd, k, ps, hk, kp, hb, F⟩ := F.ex
  refine PySem.W.callWith_K (h₀ := X.base) I1.ok.mod.kin kp (thn (ha.run pos pins s1 σ H1 _ I1 q) fun us s2 ⟨vs, H2, I2, r, q2⟩ => ⟨I2.kIn, ?_⟩) he hpl
  exact run_fnS (E := fun _ => E) F (hr.mono hk) hb (fun pins H s e s' I c => hx pins σ H s e s' I c) I2 r q2
theorem Cal.at (c : Cal X.prog X.w X.K X.mg X.base CX x k ps sp) (hk : k ≤ j) : ∃ f, X.mg x = some (.ref f) ∧ FnAt X.prog X.w X.K X.base X.mg CX j f sp := by
  obtain ⟨f, fd, hm, hkp, hb, F⟩ := c.ex
  exact ⟨f, hm, ⟨fd, k, ps, hk, hkp, hb, F⟩⟩
theorem pe_calIX (M : CalI X.prog X.w X.K X.mg X.base CX C x k ps sp) (hr : Room j X.A) (hx : Passes CX X E) (ha : PA X (e :: es) t) (hk : k + 1 ≤ j := by decide) (hg : Gl X x := by rfl) (hdb : (x == ("__debug__" : Str)) = false := by decide)
    (he : starEach (e :: es) X.env = (false, eval e X.env) :: starEach es X.env := by rfl) (hpl : (backTo pos (starEach es X.env)).any (·.1) = false := by rfl) : PE X (.Call (.Name x p) (e :: es) [] pos) (tMake C sp [] E t) := by
  obtain ⟨f, fd, hm, hmg, hb, F⟩ := M.ex
  exact pe_make hm F (hr.mono hk) hg hmg hb .nil hx ha hdb he hpl
end
end One
namespace One
open PySem PySem.Spec PyProof.Rows L2
/-! ### things compared with themselves -/
def simpleV : V → Bool
  | .int _ => true
  | .str _ => true
  | .bl _ => true
  | .non => true
  | .ref _ => true
  | _ => false
theorem eq_self {A : Around} {s : Shared} : ∀ {v : V} {u u' : Value}, simpleV v = true → RelV v u → RelV v u' → SeqAt.EqAt A s u u' true
  | .int i, u, u', _, r, r' => by
    obtain ⟨t, rfl⟩ := r
    obtain ⟨t', rfl⟩ := r'
    have := SeqAt.EqAt.int_int (A := A) (s := s) i t i t'
    rwa [beq_self_eq_true] at this
  | .str z, u, u', _, r, r' => by
    obtain ⟨t, rfl⟩ := r
    obtain ⟨t', rfl⟩ := r'
    have := SeqAt.EqAt.str_str (A := A) (s := s) z t z t'
    rwa [beq_self_eq_true] at this
  | .bl b, u, u', _, r, r' => by
    cases r
    cases r'
    exact SeqAt.EqAt.same _
  | .non, u, u', _, r, r' => by
    cases r
    cases r'
    exact SeqAt.EqAt.same _
  | .ref a, u, u', _, r, r' => by
    cases r
    cases r'
    exact SeqAt.EqAt.same _
def rEqS (K : PySem.W.Frag) : R2 := fun x y H Q => (∃ a b xs, x = .ref a ∧ y = .ref b ∧ SqL K H a xs ∧ SqL K H b xs ∧ (∀ v ∈ xs, simpleV v = true) ∧ Q (.bl true) H) ∨ (∃ a xs, x = .ref a ∧ y = .ref a ∧ SqT K H a xs ∧ (∀ v ∈ xs, simpleV v = true) ∧ Q (.bl true) H) ∨ (∃ a, x = .ref a ∧ y = .ref a ∧ H a = some (.dK []) ∧ Q (.bl true) H)
theorem all_true (n : Nat) : (List.range n).all (fun _ => true) = true := List.all_eq_true.mpr fun _ _ => rfl
theorem op_eqs {X : Cx} (hu : X.A.units + 64 < cLine) : OpR X (compareOp .Eq) (rEqS X.K) := by
  intro pins s σ H x y v u Q I rx ry h
  rcases h with ⟨a, b, xs, rfl, rfl, h1, h2, h3, q⟩ | ⟨a, xs, rfl, rfl, h1, h3, q⟩ | ⟨a, rfl, rfl, h1, q⟩
  · cases rx
    cases ry
    obtain ⟨its, r1, p1, _⟩ := I.list h1
    obtain ⟨its2, r2, p2, _⟩ := I.list h2
    have l1 := r1.length
    have l2 := r2.length
    refine SeqAt.rcIn_lists (e := fun _ => true) p1.isList p2.isList (by simp; omega) (by omega) (fun j h1 h2 => ?_) (by rw [all_true]; exact ⟨.bl true, H, I, rfl, q⟩)
    have j1 : j < xs.length := by simp at h1; omega
    obtain ⟨u1, e1, ru1⟩ := r1.get (List.getElem?_eq_getElem j1)
    obtain ⟨u2, e2, ru2⟩ := r2.get (List.getElem?_eq_getElem j1)
    have g1 : its.toArray[j] = u1 := by
      have := (List.getElem?_eq_some_iff.mp e1).2
      simpa using this
    have g2 : its2.toArray[j] = u2 := by
      have := (List.getElem?_eq_some_iff.mp e2).2
      simpa using this
    rw [g1, g2]
    exact SeqAt.EqAt.inModel (eq_self (h3 _ (List.getElem_mem j1)) ru1 ru2) _ _
  · cases rx
    cases ry
    obtain ⟨its, r1, p1, _⟩ := I.tuple h1
    refine SeqAt.rcIn_tuples (e := fun _ => true) (show s.heap.IsTuple a its.toArray from p1) (show s.heap.IsTuple a its.toArray from p1) (by omega) (fun j h1 h2 => SeqAt.EqAt.inModel (SeqAt.EqAt.same _) _ _) (by rw [all_true, Bool.true_and, beq_self_eq_true]; exact ⟨.bl true, H, I, rfl, q⟩)
  · exact op_eqdn (by omega) pins s σ H _ _ _ _ Q I rx ry ⟨a, a, rfl, rfl, [], h1, [], h1, rfl, (fun _ h => by cases h), q⟩
def rEqPS (K : PySem.W.Frag) : R2 := fun x y H Q => rEqP K x y H Q ∨ rEqS K x y H Q
theorem op_eqps {X : Cx} (hu : X.A.units + 64 < cLine) : OpR X (compareOp .Eq) (rEqPS X.K) := by
  intro pins s σ H x y v u Q I rx ry h
  rcases h with h | h
  · exact op_eqp hu pins s σ H x y v u Q I rx ry h
  · exact op_eqs hu pins s σ H x y v u Q I rx ry h
theorem Cal.fat {X : Cx} {CX : CXT} {j k : Nat} {x : Str} {ps : List Str} {sp : Sp} {f : Addr} (c : Cal X.prog X.w X.K X.mg X.base CX x k ps sp) (hm : X.mg x = some (.ref f)) (hk : k ≤ j) : FnAt X.prog X.w X.K X.base X.mg CX j f sp := by
  obtain ⟨f', hm', F⟩ := c.at hk
  rw [hm] at hm'
  cases hm'
  exact F
end One

namespace One
open PySem PySem.Spec PyProof.Rows L2
/-! ### methods that may refuse; a list without one of its texts -/
section
variable {X : Cx} {CX : CXT} {j k : Nat} {C : Addr} {ps : List Str} {sp : Sp} {E : XK} {x m : Str} {p pos apos : Pos} {o e : Expr} {es : List Expr} {ta : TE} {t : TA} {W : WX}
theorem passesN : Passes (L2N.CX X.prog X.w) X E0 := fun _ _ _ _ _ _ _ ⟨_, _, _, _, _, _, _, _, _, _, _, _, z⟩ => z.elim
/-- a def that may refuse, called with what it does not refuse -/
theorem pe_calQ (c : Cal X.prog X.w X.K X.mg X.base (L2N.CX X.prog X.w) x k ps sp) (hr : Room j X.A) (ha : PA X (e :: es) t) (hk : k ≤ j := by decide) (hg : Gl X x := by rfl)
    (hdb : (x == ("__debug__" : Str)) = false := by decide) (he : starEach (e :: es) X.env = (false, eval e X.env) :: starEach es X.env := by rfl)
    (hpl : (backTo pos (starEach es X.env)).any (·.1) = false := by rfl) : PE X (.Call (.Name x p) (e :: es) [] pos) (tCall sp [] E0 t) :=
  pe_calE c hr passesN ha hk hg hdb he hpl
theorem pe_calMQ {pl : Sem Bool} (M : CalM X.prog X.w X.K X.mg X.base (L2N.CX X.prog X.w) C m k ps sp) (c : Cls X.K C) (hr : Room j X.A) (he : PE X o ta) (ha : PA X (e :: es) t) (hk : k ≤ j := by decide)
    (hst : starEach (e :: es) X.env = (false, eval e X.env) :: starEach es X.env := by rfl) (hpl : (backTo pos (starEach es X.env)).any (·.1) = false := by rfl)
    (ht : eval (.Call (.Attribute o m apos) (e :: es) [] pos) X.env = (do
      let ov ← eval o X.env
      standAt apos.atName
      let (f, first) ← holding [ov] (getMethod ov m pl)
      callWith pos f first (backTo pos (starEach (e :: es) X.env)) (backToKw pos (keywordEach [] X.env))) := by rfl) :
    PE X (.Call (.Attribute o m apos) (e :: es) [] pos) (tMeth C m sp [] E0 ta t) := by
  obtain ⟨f, fd, hm, hb, F⟩ := M.ex
  exact pe_meth he c hm F (hr.mono hk) hb .nil passesN ha hst hpl ht
/-- a method that may refuse, called in a try -/
def tMethS (C : Addr) (m : Str) (sp : Sp) (E : L2.St → XK) (ta : TE) (t : TA) : TE := fun σ H Q => ta σ H fun x H1 => ∃ a dx fs, x = .ref a ∧ H1 a = some (.ins C dx fs) ∧ fs.lookup m = none ∧
  t σ H1 fun vs H2 => sp (x :: vs) H2 Q (E σ)
theorem pe_calMS {pl : Sem Bool} (M : CalM X.prog X.w X.K X.mg X.base (L2N.CX X.prog X.w) C m k ps sp) (c : Cls X.K C) (hr : Room j X.A) (tk : L2N.Takes X W) (he : PE X o ta) (ha : PA X (e :: es) t) (hk : k ≤ j := by decide)
    (hst : starEach (e :: es) X.env = (false, eval e X.env) :: starEach es X.env := by rfl) (hpl : (backTo pos (starEach es X.env)).any (·.1) = false := by rfl)
    (ht : eval (.Call (.Attribute o m apos) (e :: es) [] pos) X.env = (do
      let ov ← eval o X.env
      standAt apos.atName
      let (f, first) ← holding [ov] (getMethod ov m pl)
      callWith pos f first (backTo pos (starEach (e :: es) X.env)) (backToKw pos (keywordEach [] X.env))) := by rfl) :
    PE X (.Call (.Attribute o m apos) (e :: es) [] pos) (tMethS C m sp (WE W) ta t) := by
  obtain ⟨f, fd, hm, hb, F⟩ := M.ex
  refine ⟨fun pins s σ H Q I h => ?_⟩
  refine PySem.W.methodCall_KW (pl := pl) (thn (he.run pins s σ H _ I h) fun u s1 ⟨x, H1, I1, rx, a, dx, fs, ex, ea, l, q⟩ => ?_) ht
  subst ex
  obtain rfl : u = Value.ref a := rx
  refine getmeth_ok I1 ea c hm l ?_
  refine PySem.W.callWith_K (first := [.ref a]) (h₀ := X.base) I.ok.mod.kin hm.kp (thn (ha.run pos pins s1 σ H1 _ I1 q) fun us s2 ⟨vs, H2, I2, r, q2⟩ => ⟨I2.kIn, ?_⟩) hst hpl
  exact run_fnS (us := .ref a :: us) (vs := .ref a :: vs) F (hr.mono hk) hb (L2N.passAt tk σ) I2 (.cons rfl r) q2
end
section
variable {X : Cx}
def rLstD : List V → Hp → VK → Prop := fun xs H Q => ∃ (a : Addr) (kvs : List (Key × V)), xs = [V.ref a] ∧ Rd H a (.dK kvs) ∧ ∀ p, H p = none → Q (.ref p) (L2.upd H p (.lst (kvs.map fun kv => kV kv.1)))
theorem call_lstd (hc : X.calm = true) : CallR X (.type "list") rLstD := call_listD hc
def rPop0 : V → List V → Hp → VK → Prop := fun x vs H Q => ∃ l y xs, x = .ref l ∧ vs = [.int 0] ∧ H l = some (.lst (y :: xs)) ∧ Q y (L2.upd H l (.lst xs))
theorem mt_pop0 : MtM X "list.pop" rPop0 := fun pins s σ H x xs v us Q I r1 r2 ⟨l, y, ys, e1, e2, h, q⟩ =>
  mt_popAt pins s σ H x xs v us Q I r1 r2 ⟨l, y :: ys, 0, 0, y, e1, e2, h, by decide, by decide, by
    unfold seqIndex?
    simp, rfl, q⟩
def eqkS (k : Str) (v : Value) : Bool := match v with
  | .str n _ => n == k
  | _ => false
theorem eqGivesS (a b : Str) (t u : Tok) : MeetsSeq.EqGives (.str a t) (.str b u) (a == b) := fun prog w A E s Q hq => SeqAt.EqAt.str_str (A := A) (s := s) a t b u prog w E Q hq
theorem eqkS_gives {k : Str} {t : Tok} : ∀ {us : List Value} {xs : List Str}, StrsAre us xs → ∀ y ∈ us, MeetsSeq.EqGives y (.str k t) (eqkS k y)
  | _, _, .nil => fun y hy => by cases hy
  | _, _, .cons n t' h => fun y hy => by
    rcases List.mem_cons.mp hy with e | e
    · rw [e]
      exact eqGivesS n k t' t
    · exact eqkS_gives h y e
theorem strs_get : ∀ {us : List Value} {xs : List Str}, StrsAre us xs → ∀ (j : Nat) (x : Str), xs[j]? = some x → ∃ t, us[j]? = some (.str x t)
  | _, _, .nil => fun j x h => by cases h
  | _, _, .cons n t h => fun j x e => by
    cases j with
    | zero => cases e; exact ⟨t, rfl⟩
    | succ j => exact strs_get h j x e
theorem erase_mapW : ∀ (l : List Wd) (j : Nat), (l.map sv).eraseIdx j = (l.eraseIdx j).map sv
  | [], j => by simp
  | a :: r, 0 => by simp
  | a :: r, j + 1 => by
    have ih := erase_mapW r j
    simp [ih]
def rRemW : V → List V → Hp → VK → Prop := fun x xs H Q => ∃ (l : Addr) (k : Wd) (ns : List Wd), x = .ref l ∧ xs = [sv k] ∧ H l = some (.lst (ns.map sv)) ∧ k ∈ ns ∧ ns.Nodup ∧ Q .non (L2.upd H l (.lst ((ns.erase k).map sv)))
theorem mt_removew : MtM X "list.remove" rRemW := by
  intro pins s σ H x xs v us Q I rx rxs h
  obtain ⟨l, k, ns, rfl, rfl, hH, hk, nd, q⟩ := h
  obtain ⟨j, hjn, hj⟩ := List.mem_iff_getElem.mp hk
  have hj' : ns[j]? = some k := by rw [List.getElem?_eq_getElem hjn, hj]
  have er : ns.erase k = ns.eraseIdx j := by
    rw [← hj]
    rw [List.erase_eq_eraseIdx_of_idxOf]
    exact nd.idxOf_getElem j hjn
  rw [er] at q
  cases rx
  obtain ⟨u, rfl, ru⟩ := rxs.one
  obtain ⟨t, rfl⟩ := ru
  obtain ⟨z, its, n, r, hl, e⟩ := I.lstM hH
  have hi : StrsAre its (ns.map S) := strs_of_vals (by rw [map_strs]; exact r)
  rw [List.length_map] at hl z
  have hjl : j < its.toArray.size := by rw [List.size_toArray]; omega
  refine call_meets PySem.F.slot_list_remove ⟨_, e, rfl⟩ PySem.F.entry_list_remove (PySem.F.args_list_remove_2 _ _)
    (MeetsSeq.list_remove l its.toArray n (.str (S k) t) (eqkS (S k)) (fun y hy => eqkS_gives hi y (by simpa using hy)) j hjl ?_ ?_ (by rw [List.size_toArray]; omega)) ⟨e, ?_⟩
  · obtain ⟨tj, hjt⟩ := strs_get hi j (S k) (by rw [List.getElem?_map, hj']; rfl)
    obtain ⟨h1, h2⟩ := List.getElem?_eq_some_iff.mp hjt
    have e1 : its.toArray[j] = .str (S k) tj := by simpa using h2
    rw [e1]
    show (S k == S k) = true
    simp
  · intro m hm hmj
    have hmn : m < ns.length := by omega
    obtain ⟨tm, hmt⟩ := strs_get hi m (S ns[m]) (by rw [List.getElem?_map, List.getElem?_eq_getElem hmn]; rfl)
    obtain ⟨h1, h2⟩ := List.getElem?_eq_some_iff.mp hmt
    have e1 : its.toArray[m] = .str (S ns[m]) tm := by simpa using h2
    rw [e1]
    show (S ns[m] == S k) = false
    refine beq_eq_false_iff_ne.mpr fun e2 => ?_
    have e3 := S_inj.mp e2
    rw [← hj] at e3
    have := (List.getElem_inj nd).mp e3
    omega
  · have rr := r.eraseIdx j
    rw [erase_mapW] at rr
    refine ⟨.non, _, I.lset (its' := its.eraseIdx j) (t' := s.toks) hH e ?_ rr ?_, rfl, q⟩
    · show its.toArray.eraseIdxIfInBounds j = (its.eraseIdx j).toArray
      rw [List.eraseIdxIfInBounds_toArray]
    · have z2 := List.length_eraseIdx_le ns j
      rw [List.length_map]
      omega
end
end One

namespace One
open PySem PySem.Spec PyProof.Rows L2
/-! ### methods without arguments and objects, made or called where a refusal is met -/
section
variable {X : Cx} {CX : CXT} {j k : Nat} {f C : Addr} {fd : FuncData} {ps : List Str} {sp : Sp} {E : XK} {ES : L2.St → XK} {x m : Str} {p pos apos : Pos} {o e : Expr} {es : List Expr} {ta : TE} {t : TA} {W : WX}
/-- a method that may refuse, called in a def that may refuse -/
theorem pe_calME {pl : Sem Bool} (M : CalM X.prog X.w X.K X.mg X.base CX C m k ps sp) (c : Cls X.K C) (hr : Room j X.A) (hx : Passes CX X E) (he : PE X o ta) (ha : PA X (e :: es) t) (hk : k ≤ j := by decide)
    (hst : starEach (e :: es) X.env = (false, eval e X.env) :: starEach es X.env := by rfl) (hpl : (backTo pos (starEach es X.env)).any (·.1) = false := by rfl)
    (ht : eval (.Call (.Attribute o m apos) (e :: es) [] pos) X.env = (do
      let ov ← eval o X.env
      standAt apos.atName
      let (f, first) ← holding [ov] (getMethod ov m pl)
      callWith pos f first (backTo pos (starEach (e :: es) X.env)) (backToKw pos (keywordEach [] X.env))) := by rfl) :
    PE X (.Call (.Attribute o m apos) (e :: es) [] pos) (tMeth C m sp [] E ta t) := by
  obtain ⟨f, fd, hm, hb, F⟩ := M.ex
  exact pe_meth he c hm F (hr.mono hk) hb .nil hx ha hst hpl ht
theorem pe_calM0Q {pl : Sem Bool} (M : CalM X.prog X.w X.K X.mg X.base (L2N.CX X.prog X.w) C m k ps sp) (c : Cls X.K C) (hr : Room j X.A) (he : PE X o ta) (hk : k ≤ j := by decide)
    (ht : eval (.Call (.Attribute o m apos) [] [] pos) X.env = (do
      let ov ← eval o X.env
      standAt apos.atName
      let (f, first) ← holding [ov] (getMethod ov m pl)
      callWith pos f first (backTo pos (starEach [] X.env)) (backToKw pos (keywordEach [] X.env))) := by rfl) :
    PE X (.Call (.Attribute o m apos) [] [] pos) (tMeth C m sp [] E0 ta tNil) := by
  obtain ⟨f, fd, hm, hb, F⟩ := M.ex
  exact pe_meth0 he c hm F (hr.mono hk) hb .nil passesN ht
theorem pe_calM0S {pl : Sem Bool} (M : CalM X.prog X.w X.K X.mg X.base (L2N.CX X.prog X.w) C m k ps sp) (c : Cls X.K C) (hr : Room j X.A) (tk : L2N.Takes X W) (he : PE X o ta) (hk : k ≤ j := by decide)
    (ht : eval (.Call (.Attribute o m apos) [] [] pos) X.env = (do
      let ov ← eval o X.env
      standAt apos.atName
      let (f, first) ← holding [ov] (getMethod ov m pl)
      callWith pos f first (backTo pos (starEach [] X.env)) (backToKw pos (keywordEach [] X.env))) := by rfl) :
    PE X (.Call (.Attribute o m apos) [] [] pos) (tMethS C m sp (WE W) ta tNil) := by
  obtain ⟨f, fd, hm, hb, F⟩ := M.ex
  refine ⟨fun pins s σ H Q I h => ?_⟩
  refine PySem.W.methodCall_KW (pl := pl) (thn (he.run pins s σ H _ I h) fun u s1 ⟨x, H1, I1, rx, a, dx, fs, ex, ea, l, q⟩ => ?_) ht
  subst ex
  obtain rfl : u = Value.ref a := rx
  refine getmeth_ok I1 ea c hm l ?_
  exact PySem.W.callWith_K0 (first := [.ref a]) I1.kIn hm.kp (run_fnS (us := [.ref a]) (vs := [.ref a]) F (hr.mono hk) hb (L2N.passAt tk σ) I1 (.cons rfl .nil) q)
/-- an object made where a refusal is met -/
def tMakeS (C : Addr) (sp : Sp) (E : L2.St → XK) (t : TA) : TE := fun σ H Q => t σ H fun vs H1 => ∀ x dx, H1 x = none → H1 dx = none → dx ≠ x →
  sp (.ref x :: vs) (L2.upd (L2.upd H1 dx (.own x)) x (.ins C dx [])) (fun v H2 => v = .non ∧ Q (.ref x) H2) (E σ)
theorem run_makeS {pins : List (Addr × Obj)} {σ : L2.St} {H : Hp} {s : Shared} {Q : VK} {us : List Value} {vs : List V} (M : Mk X.K C f) (F : FnOk X.prog X.w X.K X.mg X.base CX k f fd ps sp) (hr : Room (k + 1) X.A) (hb : Binds X.K fd ps [])
    (hx : PassesAt CX X σ (ES σ)) (I : L2.Inv X pins σ H s) (r : Vals vs us)
    (h : ∀ x dx, H x = none → H dx = none → dx ≠ x → sp (.ref x :: vs) (L2.upd (L2.upd H dx (.own x)) x (.ins C dx [])) (fun v H2 => v = .non ∧ Q (.ref x) H2) (ES σ)) :
    wpAny (model X.prog X.w) X.A (call (.ref C) us) (EP X pins σ Q) X.xe s := by
  have hq := h (s.heap.objs.size + 1) s.heap.objs.size (I.hok.fresh (Nat.le_succ _)) (I.hok.fresh (Nat.le_refl _)) (Nat.ne_of_lt (Nat.lt_succ_self _))
  have I2 := Inv.made (C := C) I
  have r2 : Vals (V.ref (s.heap.objs.size + 1) :: vs) (Value.ref (s.heap.objs.size + 1) :: us) := .cons rfl r
  have hl : (Value.ref (s.heap.objs.size + 1) :: us).length = ps.length := by
    have e := r2.length
    rw [F.len _ _ _ _ hq] at e
    exact e.symm
  have b := hb _ (Value.ref (s.heap.objs.size + 1) :: us) I2.kIn (by rw [List.append_nil]; exact hl)
  rw [List.append_nil] at b
  refine wpAny_call (make_map (f := f) I.kIn M.makes M.init (beq_iff_eq.mp M.fn) (codeAny_mono (F.run _ X.stack _ _ ⟨Value.ref (s.heap.objs.size + 1) :: us, []⟩ (Value.ref (s.heap.objs.size + 1) :: us) _ _ (ES σ) (hr.make C us [])
    (I2.env0.make C us []) b r2 hq) fun r s' hq' => ?_))
  cases r with
  | error e => exact hx pins _ _ e s' I2 hq'
  | ok fl =>
    cases fl with
    | ret u =>
      obtain ⟨v, H', I3, rv, ev, q3⟩ := I2.after hq'
      subst ev
      exact ⟨rv, ⟨V.ref (s.heap.objs.size + 1), H', I3, rfl, q3⟩⟩
    | next => exact False.elim hq'
    | brk => exact False.elim hq'
    | cont => exact False.elim hq'
theorem pe_calIS (M : CalI X.prog X.w X.K X.mg X.base (L2N.CX X.prog X.w) C x k ps sp) (hr : Room j X.A) (tk : L2N.Takes X W) (ha : PA X (e :: es) t) (hk : k + 1 ≤ j := by decide) (hg : Gl X x := by rfl) (hdb : (x == ("__debug__" : Str)) = false := by decide)
    (he : starEach (e :: es) X.env = (false, eval e X.env) :: starEach es X.env := by rfl) (hpl : (backTo pos (starEach es X.env)).any (·.1) = false := by rfl) : PE X (.Call (.Name x p) (e :: es) [] pos) (tMakeS C sp (WE W) t) := by
  obtain ⟨f, fd, hm, hmg, hb, F⟩ := M.ex
  refine ⟨fun pins s σ H Q I h => ?_⟩
  refine wpAny_Call_Name_kw (ld_glob I hg hmg ?_ hdb)
  refine PySem.W.callWith_K (h₀ := X.base) I.ok.mod.kin hm.kp (thn (ha.run pos pins s σ H _ I h) fun us s1 ⟨vs, H1, I1, r, q⟩ => ⟨I1.kIn, ?_⟩) he hpl
  exact run_makeS (ES := WE W) hm F (hr.mono hk) hb (L2N.passAt tk σ) I1 r q
theorem pe_calIQ (M : CalI X.prog X.w X.K X.mg X.base (L2N.CX X.prog X.w) C x k ps sp) (hr : Room j X.A) (ha : PA X (e :: es) t) (hk : k + 1 ≤ j := by decide) (hg : Gl X x := by rfl) (hdb : (x == ("__debug__" : Str)) = false := by decide)
    (he : starEach (e :: es) X.env = (false, eval e X.env) :: starEach es X.env := by rfl) (hpl : (backTo pos (starEach es X.env)).any (·.1) = false := by rfl) : PE X (.Call (.Name x p) (e :: es) [] pos) (tMake C sp [] E0 t) := by
  obtain ⟨f, fd, hm, hmg, hb, F⟩ := M.ex
  exact pe_make hm F (hr.mono hk) hg hmg hb .nil passesN ha hdb he hpl
end
end One
namespace One
open PySem PySem.Spec PyProof.Rows L2
/-! ### a list the other way round: xs[::-1] -/
theorem bounds_rev (n : Nat) : sliceBounds none none (some (-1)) n = ((n : Int) - 1, -1, -1) := rfl
theorem range_rev (n : Nat) : sliceRange ((n : Int) - 1) (-1) (-1) = (List.range n).map fun k => n - 1 - k := by
  unfold sliceRange
  have h0 : ¬ ((-1 : Int) > 0) := by decide
  simp only [h0, if_false]
  have hc : (if (n : Int) - 1 > -1 then ((n : Int) - 1 - -1 - -1 - 1) / (- -1) else 0).toNat = n := by
    by_cases hn : (n : Int) - 1 > -1
    · rw [if_pos hn]
      have : ((n : Int) - 1 - -1 - -1 - 1) / (- -1) = n := by
        have e : (- -1 : Int) = 1 := by decide
        rw [e, Int.ediv_one]; omega
      rw [this]; simp
    · rw [if_neg hn]; show (0 : Nat) = n; omega
  rw [hc]
  apply List.map_congr_left
  intro k hk
  have hk' : k < n := List.mem_range.mp hk
  omega
theorem pick_rev (its : List Value) : (slicePick its.toArray none none (some (-1))).toList = its.reverse := by
  unfold slicePick
  rw [bounds_rev, List.toList_toArray, range_rev, List.size_toArray]
  apply List.ext_getElem?
  intro i
  have all : ∀ l : List Nat, (∀ i ∈ l, i < its.length) → l.filterMap (its.toArray[·]?) = l.map (fun i => its.getD i .none) := by
    intro l
    induction l with
    | nil => exact fun _ => rfl
    | cons a l ih =>
      intro h
      have ha : a < its.length := h a List.mem_cons_self
      have e : its.toArray[a]? = some (its.getD a .none) := by
        rw [List.getElem?_toArray, List.getD_eq_getElem?_getD, List.getElem?_eq_getElem ha]; rfl
      rw [List.filterMap_cons, e, List.map_cons, ih fun j hj => h j (List.mem_cons_of_mem _ hj)]
  rw [all _ (fun i hi => by obtain ⟨k, hk, rfl⟩ := List.mem_map.mp hi; have := List.mem_range.mp hk; omega), List.map_map]
  by_cases hi : i < its.length
  · rw [List.getElem?_map, List.getElem?_range hi, List.getElem?_reverse hi]
    show some (its.getD (its.length - 1 - i) .none) = _
    rw [List.getD_eq_getElem?_getD, List.getElem?_eq_getElem (by omega)]; rfl
  · rw [List.getElem?_eq_none (by rw [List.length_map, List.length_range]; omega), List.getElem?_eq_none (by rw [List.length_reverse]; omega)]
theorem vals_rev : ∀ {xs : List V} {us : List Value}, Vals xs us → Vals xs.reverse us.reverse
  | _, _, .nil => .nil
  | _, _, .cons r t => by
    rw [List.reverse_cons, List.reverse_cons]
    exact (vals_rev t).append (.cons r .nil)
def tRev (K : PySem.W.Frag) (te : TE) : TE := fun σ H Q => te σ H fun x H1 => ∃ a, x = .ref a ∧ ∃ xs, SqL K H1 a xs ∧ ∀ p, H1 p = none → Q (.ref p) (L2.upd H1 p (.lst xs.reverse))
theorem pe_rev {X : Cx} {e c : Expr} {te : TE} {p2 pos : Pos} (he : PE X e te) (hc : PE X c (tUn (rU fun i => .int (-i)) (tC (.int 1)))) : PE X (.Subscript e (.Slice none none (some c) p2) pos) (tRev X.K te) := by
  refine ⟨fun pins s σ H Q I h => ?_⟩
  refine Subscript_ (thn (he.run pins s σ H _ I h) fun v s1 ⟨x, H1, I1, r1, a, ex, xs, hx, q⟩ => ?_)
  subst ex
  cases r1
  refine wpAny_Slice ?_
  rw [evalPart_none]
  refine wpAny_pure ?_
  refine wpAny_pure ?_
  rw [evalPart_some]
  refine thn (hc.run pins s1 σ H1 (fun y H2 => y = .int (-1) ∧ H2 = H1) I1 ⟨1, rfl, rfl, rfl⟩) fun vs s2 ⟨y, H2, I2, ry, ey, eH⟩ => ?_
  subst ey
  subst eH
  obtain ⟨t, rfl⟩ := ry
  have I4 : L2.Inv X pins σ H2 { s2 with heap := s2.heap.push { cls := .type "slice", data := .fields #[.none, .none, .int (-1) t] } } := I2.kept (t' := s2.toks) fun b ob q => Heap.get?_push_of_some _ q
  obtain ⟨its, r, ht, hz⟩ := I4.list hx
  have hlen := r.length
  show wpAny (model X.prog X.w) X.A (subscriptTail e (.Slice none none (some c) p2) (.ref a) (.ref s2.heap.objs.size)) (EP X pins σ Q) X.xe { s2 with heap := s2.heap.push { cls := .type "slice", data := .fields #[.none, .none, .int (-1) t] } }
  refine tail_any (ops := [.ref a, .ref s2.heap.objs.size]) ht.isList.typeIs slot_list_getitem.lookup ?_ (by with_unfolding_all rfl)
  refine wpAny_getItem_list_slice ht.isList (Heap.IsSliceOf.new ..) .none .none (.int (-1) t) (by decide) ?_ (by rw [List.size_toArray] <;> omega)
  refine ⟨.ref _, _, I4.laid (t' := s2.toks) (o := .lst xs.reverse) (fun b ob q => Heap.get?_push_of_some _ q) (Nat.le_refl _) ?_, rfl, q _ (I4.hok.fresh (Nat.le_refl _))⟩
  exact ⟨by rw [List.length_reverse]; exact hz, its.reverse, 0, vals_rev r, by rw [← pick_rev]; exact Heap.get?_push_size _ rfl⟩
end One
namespace One
open PySem PySem.Spec PyProof.Rows L2
/-! ### enumerate(text) -/
/-- the signs of x, each in a new pair with its place -/
def Ites (x : Str) : It :=
  ⟨fun i _ => i < x.cps.size, fun i H v H' => ∃ T c, v = .ref T ∧ H T = none ∧ H' = L2.upd H T (.tup [.int (i : Nat), .str ⟨#[c]⟩]) ∧ x.cps[i]? = some c, fun i _ => i = x.cps.size⟩
theorem strIter_ty (x : Str) : strIterType x = "str_iterator" ∨ strIterType x = "str_ascii_iterator" := by
  unfold strIterType
  cases x.cps.all (· < 128)
  · exact .inl rfl
  · exact .inr rfl
theorem turn_enums {P : Program} {w : World} {K : PySem.W.Frag} {elts : List Expr} {kk : Nat} {tpos : Pos} (x : Str) (t : Tok) (e it : Addr) :
    Turn P w K (.Tuple elts kk tpos) (Ites x) [e, it] e (fun i h => (∃ old, IsEnum h e it ((i : Nat) : Int) old) ∧ h.IsStrIter it (strIterType x) x t i ∧ e ≠ it) where
  mem := by simp
  obj := fun i h st b hb => by
    obtain ⟨⟨old, he⟩, ⟨o, ho, hc, hd⟩, _⟩ := st
    have e' : b = e ∨ b = it := by simpa using hb
    rcases e' with z | z
    · rw [z]; exact ⟨_, he, fun v q => nomatch q⟩
    · rw [z]; exact ⟨o, ho, fun v q => by rw [hd] at q; cases q⟩
  keep := fun i h h' st k => let ⟨⟨old, he⟩, ⟨o, ho, r⟩, hne⟩ := st; ⟨⟨old, k e (by simp) _ he⟩, ⟨o, k it (by simp) o ho, r⟩, hne⟩
  item := by
    intro X hP hw hK hc i pins s σ H E I hf st hg
    subst hP hw hK
    obtain ⟨⟨old, he⟩, hit, hne⟩ := st
    have hel : e < s.heap.objs.size := Heap.lt_size he
    have hil : it < s.heap.objs.size := by obtain ⟨_, q, _⟩ := hit; exact Heap.lt_size q
    have D : Draws X.prog X.w X.A.in1 it [it] x.cps.size (fun i v => ∃ c u, x.cps[i]? = some c ∧ v = .str ⟨#[c]⟩ u) (fun i h => h.IsStrIter it (strIterType x) x t i) := by
      have hd : X.A.in1.handled = none := I.ok.hd hc
      rcases strIter_ty x with z | z
      · rw [z]; exact Draws.strWide hd it x t
      · rw [z]; exact Draws.strAscii hd it x t
    refine wpAny_pyNext_enum_itemD D he hit hg hne (by simpa using hne) fun u h' tk hu ho hit' hT hsz hk => ?_
    obtain ⟨c, tu, hcx, rfl⟩ := hu
    refine ⟨_, rfl, wpAny_letOwnedTupleGo_enum (s := { s with heap := h', toks := tk + 1 }) ho fun h'' he' sb => ?_⟩
    have hT2 : h''.get? s.heap.objs.size = some { cls := .type "tuple", data := .seq #[.int i tk, .str ⟨#[c]⟩ tu] } := (sb.2 _ (Nat.ne_of_gt hel)).trans hT
    have new : ObjOk X.prog X.w (L2.upd H s.heap.objs.size (.tup [.int (i : Nat), .str ⟨#[c]⟩])) h'' s.heap.objs.size (.tup [.int (i : Nat), .str ⟨#[c]⟩]) :=
      ⟨by show 2 ≤ sizeLine; decide, [.int i tk, .str ⟨#[c]⟩ tu], .cons ⟨_, rfl⟩ (.cons ⟨tu, rfl⟩ .nil), ⟨_, hT2, rfl, _, rfl⟩⟩
    have I1 : L2.Inv X pins σ (L2.upd H s.heap.objs.size (.tup [.int (i : Nat), .str ⟨#[c]⟩])) { s with heap := h'', toks := tk + 1 } :=
      I.turnedNew (ch := [e, it]) (fun b ob hb q => (sb.2 b (fun z => hb (by simp [z]))).trans (hk b ob (fun z => hb (by simp [z])) (fun z => hb (by simp [z])) q)) hf (Nat.le_refl _) new
    refine ⟨.ref s.heap.objs.size, _, I1, rfl, ⟨_, c, rfl, I.hok.fresh (Nat.le_refl _), rfl, hcx⟩, ⟨⟨.str ⟨#[c]⟩ tu, ?_⟩, ?_, hne⟩, fun b hb => ?_⟩
    · have e1 : ((i + 1 : Nat) : Int) = (i : Int) + 1 := by omega
      rw [e1]; exact he'
    · obtain ⟨o, q, r⟩ := hit'
      exact ⟨o, (sb.2 it (Ne.symm hne)).trans q, r⟩
    · have hb' : b < s.heap.objs.size := by
        have e' : b = e ∨ b = it := by simpa using hb
        rcases e' with z | z
        · rw [z]; exact hel
        · rw [z]; exact hil
      rw [upd_ne (Nat.ne_of_lt hb')]
      exact (hf b hb).1
  done := by
    intro X hP hw hK hc i pins s σ H E I hf st hg
    subst hP hw hK
    obtain ⟨⟨old, he⟩, hit, hne⟩ := st
    obtain ⟨f0, f1, f2, f3, f4, f5⟩ := hf it (by simp)
    have D : Draws X.prog X.w X.A.in1 it [it] x.cps.size (fun i v => ∃ c u, x.cps[i]? = some c ∧ v = .str ⟨#[c]⟩ u) (fun i h => h.IsStrIter it (strIterType x) x t i) := by
      have hd : X.A.in1.handled = none := I.ok.hd hc
      rcases strIter_ty x with z | z
      · rw [z]; exact Draws.strWide hd it x t
      · rw [z]; exact Draws.strAscii hd it x t
    obtain rfl : i = x.cps.size := hg
    exact wpAny_pyNext_enum_endD D he hit fun h' eb => ⟨rfl, I.turned (t' := s.toks) (fun b o hb q => eb b o hb q) f0 f1 f3 f4 f5⟩
  self := fun A i s Q E st h => let ⟨⟨_, he⟩, _⟩ := st; wpAny_pyIter_enum he h
def iEnumS (ta : TA) : TI := fun σ H R => ta σ H fun vs H1 => ∃ a : Wd, vs = [sv a] ∧ R (Ites (S a)) H1
theorem pi_enums {X : Cx} {e : Expr} {ta : TA} {p pos tpos : Pos} {elts : List Expr} {kk : Nat} (hg : Gl X "enumerate") (hm : X.mg "enumerate" = none) (ha : PA X [e] ta) (hs : starEach [e] X.env = [(false, eval e X.env)] := by rfl) :
    PI X (.Tuple elts kk tpos) (.Call (.Name "enumerate" p) [e] [] pos) (iEnumS ta) := by
  refine ⟨fun pins s σ H R I h => ?_⟩
  refine Call_ (ld_blt I hg hm boot_enumerate (PyProof.Rows.callWith_type1 (thn (ha.run pos pins s σ H _ I h) fun us s1 ⟨vs, H1, I1, r1, q1⟩ => ?_) hs rfl))
  obtain ⟨a, ex, q⟩ := q1
  subst ex
  cases r1 with
  | cons r rr =>
    cases rr
    obtain ⟨t, rfl⟩ := r
    refine call_enumerate_str fun h' he hit hsz hk => wpAny_pyIter_enum he ?_
    have I2 : L2.Inv X pins σ H1 { s1 with heap := h' } := I1.kept (t' := s1.toks) hk
    refine ⟨s1.heap.objs.size + 1, [s1.heap.objs.size + 1, s1.heap.objs.size], _, _, H1, rfl, I2, turn_enums (S a) t (s1.heap.objs.size + 1) s1.heap.objs.size, ⟨⟨.none, he⟩, hit, Nat.succ_ne_self _⟩, fun b hb => ?_, q⟩
    have e' : b = s1.heap.objs.size + 1 ∨ b = s1.heap.objs.size := by simpa using hb
    have hle : s1.heap.objs.size ≤ b := by
      rcases e' with z | z
      · rw [z]; exact Nat.le_add_right _ _
      · rw [z]; exact Nat.le_refl _
    exact I1.fpOk hle (I1.hok.fresh hle)
theorem walk_enums {a : Wd} : Walk (Ites (S a)) a.length (fun _ => True) (fun i H v H' => ∃ T c, v = .ref T ∧ H T = none ∧ H' = L2.upd H T (.tup [.int (i : Nat), sv [c]]) ∧ a[i]? = some c) := by
  have la : (S a).cps.size = a.length := by show a.toArray.size = _; simp
  refine ⟨fun i _ hi _ => by show i < (S a).cps.size; rw [la]; exact hi, fun _ _ => by show a.length = (S a).cps.size; rw [la], fun i H v H' _ _ y => ?_⟩
  obtain ⟨T, c, h1, h2, h3, h4⟩ := y
  exact ⟨T, c, h1, h2, h3, by rw [← h4]; exact (List.getElem?_toArray).symm⟩
/-- over the signs of a text with their places -/
theorem for_enums {a : Wd} {g : TG} {tb : TS} {D : Ends} {σ : L2.St} {H : Hp} (Pv : Nat → L2.St → Hp → Prop) (h0 : Pv 0 σ H)
    (hs : ∀ i c T σ' H', a[i]? = some c → Pv i σ' H' → H' T = none → g (.ref T) σ' (L2.upd H' T (.tup [.int (i : Nat), sv [c]])) fun σ2 H2 => tb { D with nx := Pv (i + 1), ct := Pv (i + 1), bk := D.nx } σ2 H2) (hd : ∀ σ' H', Pv a.length σ' H' → D.nx σ' H') :
    ∃ W : Nat → Nat → L2.St → Hp → Prop, (∃ m, W 0 m σ H) ∧ ∀ i m σ H, W i m σ H →
      ((Ites (S a)).stop i H ∧ D.nx σ H) ∨ ((Ites (S a)).go i H ∧ ∃ N : L2.St → Hp → Prop, (∀ σ' H', N σ' H' → ∃ m', m' < m ∧ W (i + 1) m' σ' H') ∧ ∀ x H', (Ites (S a)).yld i H x H' → g x σ H' fun σ2 H2 => tb { D with nx := N, ct := N, bk := D.nx } σ2 H2) := by
  refine for_it walk_enums Pv h0 (fun _ _ _ _ _ => trivial) (fun i x σ' H' H'' hi p y => ?_) hd
  obtain ⟨T, c, rfl, h2, rfl, h4⟩ := y
  exact hs i c T σ' H' h4 p h2
end One
namespace One
open PySem PySem.Spec PyProof.Rows L2
/-! ### list.extend; isinstance(x, list) of an object -/
def rExtN : V → List V → Hp → VK → Prop := fun x vs H Q => ∃ l, x = .ref l ∧ ∃ b, vs = [V.ref b] ∧ ∃ xs, H l = some (.lst xs) ∧ ∃ zs, H b = some (.lst zs) ∧ xs.length + zs.length ≤ 100000 ∧ Q .non (L2.upd H l (.lst (xs ++ zs)))
theorem mt_extn {X : Cx} : MtM X "list.extend" rExtN := MtM.imp mt_extend fun x vs H Q ⟨l, e1, b, e2, xs, h1, zs, h2, hz, q⟩ => ⟨l, b, xs, zs, e1, e2, h1, h2, sz hz, q⟩
structure InstC (K : PySem.W.Frag) (C : Addr) : Prop where
  ha : PySem.W.findIn K (.ref C) "__class__" = some (some (.builtin "object.__class__"))
  hn : PySem.W.specialIn K (.builtin "object.__class__") "__get__" = some (some (.builtin "getset_descriptor.__get__"))
  ht : PySem.W.takesIn K (.builtin "object.__class__") = some true
  hm : PySem.W.mroIn K C (.type "object") = some true
  hk : PySem.W.kitOne K (.ref C) (.type "list") = some false
def instB (K : PySem.W.Frag) (C : Addr) : Bool := decide (PySem.W.findIn K (.ref C) "__class__" = some (some (.builtin "object.__class__"))) && (decide (PySem.W.specialIn K (.builtin "object.__class__") "__get__" = some (some (.builtin "getset_descriptor.__get__"))) &&
  (decide (PySem.W.takesIn K (.builtin "object.__class__") = some true) && (decide (PySem.W.mroIn K C (.type "object") = some true) && decide (PySem.W.kitOne K (.ref C) (.type "list") = some false))))
theorem instB_ok {K : PySem.W.Frag} {C : Addr} (h : instB K C = true) : InstC K C := by
  unfold instB at h
  simp only [Bool.and_eq_true, decide_eq_true_eq] at h
  obtain ⟨h1, h2, h3, h4, h5⟩ := h
  exact ⟨h1, h2, h3, h4, h5⟩
def rIsO (C : Addr) : List V → Hp → VK → Prop := fun xs H Q => ∃ x, xs = [x, .ty "list"] ∧ ((∃ a ys, x = .ref a ∧ H a = some (.lst ys) ∧ Q (.bl true) H) ∨ ∃ a dx fs, x = .ref a ∧ H a = some (.ins C dx fs) ∧ Q (.bl false) H)
theorem call_isO {X : Cx} {C : Addr} (i : InstC X.K C ∧ Cls X.K C) : CallR X (.builtin "isinstance") (rIsO C) := CallR.imp call_isi fun xs H Q ⟨x, e, h⟩ => by
  rcases h with ⟨a, ys, rfl, ha, q⟩ | ⟨a, dx, fs, rfl, ha, q⟩
  · exact ⟨_, .ty "list", .type "list", .type "list", true, e, .ty _, .base (.lst ha), kit_ty (kit_all .lst .lst), q⟩
  · exact ⟨_, .ty "list", .ref C, .type "list", false, e, .ty _, .base (.ins ha i.2 i.1.ha i.1.hn i.1.ht i.1.hm), i.1.hk, q⟩
end One


set_option Elab.async false
set_option linter.all false
set_option maxRecDepth 100000
set_option maxHeartbeats 400000
set_option pp.maxSteps 700
namespace One
open PySem PySem.Spec PyProof.Rows L2
local macro_rules | `(tactic| fail "as") => `(tactic| with_reducible assumption)
local macro_rules | `(tactic| fail "same") => `(tactic| first
  | with_reducible exact Same.refl _
  | fail "as"
  | ((with_reducible show Same _ (upd _ _ _)); first
    | exact Same.trans (by fail "same") (new (by fail "as"))
    | exact mutd (by fail "same") (by fail "fr"))
  | ((with_reducible refine Same.trans ?_ (by fail "as")); fail "same"))
local macro_rules | `(tactic| fail "fr") => `(tactic| first
  | fail "as"
  | ((with_reducible refine Same.free ?_ (by fail "as")); fail "same"))
local macro_rules | `(tactic| fail "look") => `(tactic| first
  | ((with_reducible show upd _ _ _ _ = _); first
    | with_reducible exact upd_same
    | with_reducible exact upd_nil
    | with_reducible exact upd_snoc
    | ((with_reducible refine upd_at (by fail "as") ?_); fail "look")
    | ((with_reducible refine new_at (by fail "fr") ?_); fail "look"))
  | fail "as"
  | ((with_reducible refine same_at (by fail "as") ?_); fail "look")
  | ((with_reducible refine same_at ?_ (by fail "as")); fail "same"))
local macro_rules | `(tactic| fail "ne") => `(tactic| (refine ne_free (by fail "as") (by fail "look")))
local macro_rules | `(tactic| fail "seq") => `(tactic| first
  | fail "as"
  | ((with_reducible show SqL _ _ _ _); with_reducible exact SqL.of (by fail "look"))
  | ((with_reducible show SqT _ _ _ _); with_reducible exact SqT.of (by fail "look"))
  | ((with_reducible refine Same.seq ?_ (by fail "as")); fail "same")
  | ((with_reducible refine sqT ?_ (by fail "as")); fail "same"))
local macro_rules | `(tactic| fail "ins") => `(tactic| ((with_reducible show _ = some (HO.ins _ _ _)); fail "look"))
local macro_rules | `(tactic| fail "sq") => `(tactic| first
  | ((with_reducible show Rd _ _ _); first | exact .inl (by fail "look") | exact .inr ⟨_, by fail "look"⟩)
  | ((with_reducible show SqL _ _ _ _); fail "seq")
  | ((with_reducible show SqT _ _ _ _); fail "seq")
  | ((with_reducible show _ = some _); fail "look"))
local macro_rules | `(tactic| fail "le") => `(tactic| first
  | fail "as"
  | with_reducible exact sz (by simp)
  | ((try simp only [List.length_append, List.length_cons, List.length_nil, List.length_map, List.length_replicate, List.length_set]); omega)
  | exact Int.emod_nonneg _ (by omega)
  | decide)
local macro_rules | `(tactic| fail "lf") => `(tactic| first
  | fail "as"
  | ((with_reducible show _ = _); exact rfl)
  | ((with_reducible show _ ≤ _); fail "le")
  | ((with_reducible show _ < _); first | decide | fail "as" | omega)
  | fail "sq"
  | ((with_reducible show CDiv _ _); exact ⟨by decide, by decide⟩)
  | ((with_reducible show CMul _ _); first | exact .inl ⟨by decide, by decide⟩ | exact .inr ⟨by decide, by decide⟩ | exact .inl ⟨by omega, by omega⟩ | exact .inr ⟨by omega, by omega⟩)
  | exact ⟨_, rfl⟩
  | exact ⟨_, by fail "sq"⟩
  | exact tyL (by fail "seq")
  | exact tyD (by fail "look")
  | (refine ⟨?_, ?_, ?_, ?_⟩ <;> omega)
  | (show (0 : Int) < _; first | decide | omega)
  | (show (_ : Int) ≠ 0; first | decide | omega))
local macro_rules | `(tactic| fail "dp") => `(tactic| first
  | exact .str _ | exact .int _ | exact .bl _ | exact .non
  | exact .tup (by fail "seq") (by fail "dps")
  | exact .lst (by fail "seq") (by fail "dps"))
local macro_rules | `(tactic| fail "dps") => `(tactic| first
  | fail "as"
  | with_reducible exact dpAll_strs _
  | with_reducible exact dpAll_ints _
  | ((with_reducible show DpAll _ _ (_ :: _) _); exact .cons (by fail "dp") (by fail "dps"))
  | exact .nil)
local macro_rules | `(tactic| fail "dpS") => `(tactic| ((with_reducible show Dp _ _ _ _); fail "dp"))
local macro_rules | `(tactic| fail "ga") => `(tactic| ((with_reducible show _ = some _); fail "as"))
local macro_rules | `(tactic| fail "gE") => `(tactic| first
  | with_reducible refine ⟨_, _, _, _, _, rfl, by fail "ins", by fail "as", by fail "as", rfl, ?_⟩
  | with_reducible refine ⟨_, _, _, _, rfl, by fail "ins", by fail "as", by fail "as", Nat.le_of_ble_eq_true rfl, ?_⟩
  | with_reducible refine ⟨_, _, _, rfl, by fail "ins", rfl, ?_⟩
  | with_reducible refine ⟨_, by fail "dpS", ?_⟩
  | refine ⟨_, kI _, ?_⟩
  | refine ⟨_, kS _, ?_⟩
  | refine ⟨_, by fail "ga", ?_⟩
  | refine ⟨_, rfl, ?_⟩
  | refine ⟨_, _, rfl, rfl, ?_⟩
  | refine ⟨_, _, rfl, ?_⟩
  | refine ⟨_, _, _, rfl, ?_⟩
  | refine ⟨_, _, _, _, rfl, ?_⟩
  | refine ⟨_, rfl, rfl, ?_⟩
  | refine ⟨_, _, _, rfl, rfl, ?_⟩
  | refine ⟨_, by fail "sq", ?_⟩
  | refine ⟨_, _, rfl, by fail "sq", rfl, ?_⟩
  | refine ⟨_, TyW.int _, ?_⟩
  | refine ⟨_, TyW.str _, ?_⟩
  | refine ⟨_, TyW.non, ?_⟩
  | refine ⟨_, TyW.bl _, ?_⟩
  | refine ⟨_, TyW.tup (by fail "look"), ?_⟩
  | refine ⟨_, TyW.lst (by fail "look"), ?_⟩
  | refine ⟨_, TyW.dict (by fail "look"), ?_⟩)
local macro_rules | `(tactic| fail "g1") => `(tactic| first
  | (refine (show ∃ _, _ from ?_); fail "gE")
  | (refine (show _ ∧ _ from ?_); refine And.intro (by fail "lf") ?_))
local macro_rules | `(tactic| fail "go") => `(tactic| repeat (fail "g1"))
local macro_rules | `(tactic| fail "gi") => `(tactic| repeat (first
  | fail "g1"
  | refine (show Ret _ _ _ from fun H' s' => ?_)
  | refine (show RetL _ _ _ from fun p H' s' np hp => ?_)
  | refine (show RetT _ _ _ from fun p H' s' np hp => ?_)
  | refine (show RetD _ _ _ from fun p H' s' np hp => ?_)
  | refine (show ∀ p : Addr, _ = none → _ from fun p hp => ?_)))
def top (i : Nat) : Stmt := PySem.Challenge.pw_onereading_k13_whole_reader.main.body.getD i (.Pass ⟨0, 0, 0, 0⟩)
section
variable {P : Program} {w : World} {K : PySem.W.Frag} {mg : Str → Option Value} {base : Heap} {C : Addr}

/-! ### which refusal it was -/
def labels : List (Wd × Str) := [([99, 111, 100, 101], "BadCode"), ([102, 117, 108, 108], "Full"), ([119, 111, 114, 100], "BadWord"), ([116, 119, 105, 99, 101], "Twice"), ([116, 104, 101, 114, 101], "NotThere"), ([110, 117, 109, 98, 101, 114], "NoNumber"), ([119, 97, 105, 116], "NoWait"), ([115, 105, 103, 110], "BadSign"), ([114, 101, 97, 100, 105, 110, 103], "NoReading")]
def labelOf (x : Str) : List Wd := (labels.filter fun q => decide (x = q.2)).map (·.1)
def LabAt (x : Str) (H : Hp) (v : V) (q : Wd × Str) : Prop := ∃ t, v = .ref t ∧ H t = some (.tup [sv q.1, .bl (decide (x = q.2))])
theorem LabAt.mono {x : Str} {H H' : Hp} {v : V} {q : Wd × Str} (h : ∀ t u, H t = some (.tup u) → H' t = some (.tup u)) (a : LabAt x H v q) : LabAt x H' v q := let ⟨t, e, z⟩ := a; ⟨t, e, h _ _ z⟩
def labPart (x : Str) (i : Nat) : List V := ((labels.take i).filter fun q => decide (x = q.2)).map fun q => sv q.1
theorem lc_lab {K : PySem.W.Frag} {g : TG} {tt : TT} {te : TE} {vs : List Nat} {σ : L2.St} {x : Str} {H H1 : Hp} {a D : Addr} {xs : List V} {Qd : Hp → Prop} (sH : Same H H1) (hl : H1 a = some (.lst xs)) (hp : Paired (LabAt x H1) xs labels) (nD : H1 D = none)
    (hs : ∀ (i : Nat) (q : Wd × Str) (t : Addr) (H' : Hp), labels[i]? = some q → H' t = some (.tup [sv q.1, .bl (decide (x = q.2))]) → Same H1 H' → H' D = some (.lst (labPart x i)) → g (.ref t) (wipe σ vs) H' fun σ2 H2 => wipe σ2 vs = wipe σ vs ∧ tt σ2 H2 fun b H3 =>
      if b = true then te σ2 H3 fun y H4 => ∃ acc, H4 D = some (.lst acc) ∧ acc.length < sizeLine ∧ (Same H1 (L2.upd H4 D (.lst (acc ++ [y]))) ∧ L2.upd H4 D (.lst (acc ++ [y])) D = some (.lst (labPart x (i + 1)))) else Same H1 H3 ∧ H3 D = some (.lst (labPart x (i + 1))))
    (hd : ∀ H', H D = none → Same H H' → H' D = some (.lst ((labelOf x).map sv)) → Qd H') :
    ∃ W : Nat → Nat → Hp → Prop, (∃ m, W 0 m (L2.upd H1 D (.lst []))) ∧ ∀ i m H, W i m H →
      ((Itl K a).stop i H ∧ Qd H) ∨ ((Itl K a).go i H ∧ ∃ Nx : Hp → Prop, (∀ H', Nx H' → ∃ m', m' < m ∧ W (i + 1) m' H') ∧ ∀ x H', (Itl K a).yld i H x H' → g x (wipe σ vs) H' fun σ2 H2 => wipe σ2 vs = wipe σ vs ∧ tt σ2 H2 fun b H3 =>
        if b = true then te σ2 H3 fun y H4 => ∃ acc, H4 D = some (.lst acc) ∧ acc.length < sizeLine ∧ Nx (L2.upd H4 D (.lst (acc ++ [y]))) else Nx H3) := by
  refine lc_list (xs := xs) (fun i H' => Same H1 H' ∧ H' D = some (.lst (labPart x i))) ⟨new nD, L2.upd_same⟩ (fun i H' _ h => SqL.of (h.1 _ _ hl)) (fun i v H' hv h => ?_) (fun H' h => ?_)
  · obtain ⟨q, hq, t, rfl, ht⟩ := Paired.get hp i v hv
    exact hs i q t H' hq (h.1 _ _ ht) h.1 h.2
  · refine hd H' (sH.free nD) (sH.trans h.1) ?_
    rw [h.2, Paired.length hp]
    unfold labPart labelOf
    rw [List.take_length, List.map_map]; rfl
theorem labPart_snoc (x : Str) {i : Nat} {q : Wd × Str} (h : labels[i]? = some q) : labPart x (i + 1) = labPart x i ++ if decide (x = q.2) = true then [sv q.1] else [] := by
  unfold labPart
  rw [List.take_add_one, h]
  show ((List.take i labels ++ [q]).filter _).map _ = _
  rw [List.filter_append, List.map_append, List.filter_cons]
  by_cases e : decide (x = q.2) = true
  · rw [if_pos e, if_pos e]; rfl
  · rw [if_neg e, if_neg e]; rfl
theorem labPart_len (x : Str) (i : Nat) : (labPart x i).length < sizeLine := by
  refine szl ?_
  unfold labPart
  rw [List.length_map]
  have h1 := List.length_filter_le (fun q : Wd × Str => decide (x = q.2)) (labels.take i)
  have h2 : (labels.take i).length ≤ 9 := by rw [List.length_take]; exact Nat.min_le_right _ _
  omega
abbrev s_law_words_of : Stmt := top 52
theorem sc_law_words_of : FnScope ["_law_e", "_law_some", "_law_word_here", "_law_fits"] ["_law_e"] (defScope s_law_words_of) := ⟨rfl, rfl, rfl, by decide +kernel, rfl, by decide +kernel, by decide +kernel⟩
def sp_law_words_of (K : PySem.W.Frag) : Addr → Hp → VK → Prop := fun D H Q => ∃ x ∈ errNames, D = He.ga K x ∧ RetL H Q ((labelOf x).map sv)
theorem ok_law_words_of (B : Bi mg) (Er : Errs K mg) (D : Def K mg "_law_words_of" s_law_words_of) : CalX P w K mg base "_law_words_of" 1 (sp_law_words_of K) := by
  have nd := sc_law_words_of.nd
  refine Def.calX D sc_law_words_of (fun _ _ _ _ _ _ us hl => match us, hl with | [_], _ => rfl) (fun D f cdv A outer s H Q p hc hz h => ?_)
  · obtain ⟨x, hx, rfl, q⟩ := h
    have Ex := Er.ex x hx
    refine ⟨_, (pss_cons (ps_set (i := 1) nd rfl (.inl rfl) (pe_lst (pa_cons (pe_tup (pa_cons (pe_w [99, 111, 100, 101] rfl) (pa_cons (pe_callB (call_isX Ex (by exact List.mem_cons_self) hz) (by rfl) B.isinstance (by decide +kernel) (pa_cons (pv 0) (pa_cons (pe_err Er (by decide +kernel) rfl) pa_nil))) pa_nil))) (pa_cons (pe_tup (pa_cons (pe_w [102, 117, 108, 108] rfl) (pa_cons (pe_callB (call_isX Ex (by exact List.mem_cons_self) hz) (by rfl) B.isinstance (by decide +kernel) (pa_cons (pv 0) (pa_cons (pe_err Er (by decide +kernel) rfl) pa_nil))) pa_nil))) (pa_cons (pe_tup (pa_cons (pe_w [119, 111, 114, 100] rfl) (pa_cons (pe_callB (call_isX Ex (by exact List.mem_cons_self) hz) (by rfl) B.isinstance (by decide +kernel) (pa_cons (pv 0) (pa_cons (pe_err Er (by decide +kernel) rfl) pa_nil))) pa_nil))) pa_nil)))))
      (pss_cons (ps_set (i := 1) nd rfl (.inl rfl) (pe_op op_catl (pv 1) (pe_lst (pa_cons (pe_tup (pa_cons (pe_w [116, 119, 105, 99, 101] rfl) (pa_cons (pe_callB (call_isX Ex (by exact List.mem_cons_self) hz) (by rfl) B.isinstance (by decide +kernel) (pa_cons (pv 0) (pa_cons (pe_err Er (by decide +kernel) rfl) pa_nil))) pa_nil))) (pa_cons (pe_tup (pa_cons (pe_w [116, 104, 101, 114, 101] rfl) (pa_cons (pe_callB (call_isX Ex (by exact List.mem_cons_self) hz) (by rfl) B.isinstance (by decide +kernel) (pa_cons (pv 0) (pa_cons (pe_err Er (by decide +kernel) rfl) pa_nil))) pa_nil))) pa_nil)))))
      (pss_cons (ps_set (i := 1) nd rfl (.inl rfl) (pe_op op_catl (pv 1) (pe_lst (pa_cons (pe_tup (pa_cons (pe_w [110, 117, 109, 98, 101, 114] rfl) (pa_cons (pe_callB (call_isX Ex (by exact List.mem_cons_self) hz) (by rfl) B.isinstance (by decide +kernel) (pa_cons (pv 0) (pa_cons (pe_err Er (by decide +kernel) rfl) pa_nil))) pa_nil))) (pa_cons (pe_tup (pa_cons (pe_w [119, 97, 105, 116] rfl) (pa_cons (pe_callB (call_isX Ex (by exact List.mem_cons_self) hz) (by rfl) B.isinstance (by decide +kernel) (pa_cons (pv 0) (pa_cons (pe_err Er (by decide +kernel) rfl) pa_nil))) pa_nil))) pa_nil)))))
      (pss_cons (ps_set (i := 1) nd rfl (.inl rfl) (pe_op op_catl (pv 1) (pe_lst (pa_cons (pe_tup (pa_cons (pe_w [115, 105, 103, 110] rfl) (pa_cons (pe_callB (call_isX Ex (by exact List.mem_cons_self) hz) (by rfl) B.isinstance (by decide +kernel) (pa_cons (pv 0) (pa_cons (pe_err Er (by decide +kernel) rfl) pa_nil))) pa_nil))) (pa_cons (pe_tup (pa_cons (pe_w [114, 101, 97, 100, 105, 110, 103] rfl) (pa_cons (pe_callB (call_isX Ex (by exact List.mem_cons_self) hz) (by rfl) B.isinstance (by decide +kernel) (pa_cons (pv 0) (pa_cons (pe_err Er (by decide +kernel) rfl) pa_nil))) pa_nil))) pa_nil)))))
      (pss_one (ps_ret (pe_lcH (own := [("_law_word_here", 2), ("_law_fits", 3)]) (g := _) hc nd (pi_listH (pv 1)) (blkOk_by (own := [("_law_word_here", 2), ("_law_fits", 3)]) (N := ["_law_e", "_law_some", "_law_word_here", "_law_fits"]) (sc := defScope s_law_words_of) (by decide +kernel)) (fun _ _ _ _ _ => (pg_tupB (n := 2) hc (pgs_cons (pg_name (i := 2) nd rfl (.inl rfl)) (pgs_cons (pg_name (i := 3) nd rfl (.inl rfl)) pgs_nil)))) (fun _ _ _ _ _ => (pts_one (PW.pt (pw_and (pt_val (pv 3)) (pw_and1 (pt_val (pe_callB (call_isB Ex (by exact List.mem_cons_self) hz) (by rfl) B.isinstance (by decide +kernel) (pa_cons (pv 0) (pa_cons (pe_verr Er rfl) pa_nil))))))))) (fun _ _ _ _ _ => (pv 2))))))))), ?_⟩
    dsimp only [cxE, L2H.cxH, cxOf]
    fail "gi"
    refine ⟨_, _, fun _ h => h, Er.kit x hx "BadCode" (by decide +kernel), ?_⟩
    fail "gi"
    refine ⟨_, _, fun _ h => h, Er.kit x hx "Full" (by decide +kernel), ?_⟩
    fail "gi"
    refine ⟨_, _, fun _ h => h, Er.kit x hx "BadWord" (by decide +kernel), ?_⟩
    fail "gi"
    refine ⟨_, _, fun _ h => h, Er.kit x hx "Twice" (by decide +kernel), ?_⟩
    fail "gi"
    refine ⟨_, _, fun _ h => h, Er.kit x hx "NotThere" (by decide +kernel), ?_⟩
    fail "gi"
    refine ⟨_, _, fun _ h => h, Er.kit x hx "NoNumber" (by decide +kernel), ?_⟩
    fail "gi"
    refine ⟨_, _, fun _ h => h, Er.kit x hx "NoWait" (by decide +kernel), ?_⟩
    fail "gi"
    refine ⟨_, _, fun _ h => h, Er.kit x hx "BadSign" (by decide +kernel), ?_⟩
    fail "gi"
    refine ⟨_, _, fun _ h => h, Er.kit x hx "NoReading" (by decide +kernel), ?_⟩
    fail "gi"
    rename_i t1 n_t1 t2 n_t2 t3 n_t3 l3 n_l3 t4 n_t4 t5 n_t5 l5 n_l5 l6 n_l6 t6 n_t6 t7 n_t7 l7 n_l7 l8 n_l8 t8 n_t8 t9 n_t9 l9 n_l9 l10 n_l10 D n_D
    refine lc_lab (x := x) (H := H) (xs := [.ref t1, .ref t2, .ref t3, .ref t4, .ref t5, .ref t6, .ref t7, .ref t8, .ref t9]) (by fail "same") L2.upd_same (.cons ⟨t1, rfl, by fail "look"⟩ (.cons ⟨t2, rfl, by fail "look"⟩ (.cons ⟨t3, rfl, by fail "look"⟩ (.cons ⟨t4, rfl, by fail "look"⟩ (.cons ⟨t5, rfl, by fail "look"⟩ (.cons ⟨t6, rfl, by fail "look"⟩ (.cons ⟨t7, rfl, by fail "look"⟩ (.cons ⟨t8, rfl, by fail "look"⟩ (.cons ⟨t9, rfl, by fail "look"⟩ (.nil)))))))))) n_D (fun i q t H' hq ht s1 hD => ?_) fun H' nD s1 hD => ?_
    · have pl := labPart_len x i
      have ps := labPart_snoc x hq
      fail "gi"
      refine (show if decide (x = q.2) = true then _ else _ from ?_)
      by_cases e : decide (x = q.2) = true
      · rw [if_pos e] at ps ⊢
        fail "gi"
        refine ⟨_, _, fun _ h => h, Er.kve x hx, ?_⟩
        fail "gi"
        exact ⟨mutd s1 n_D, by rw [L2.upd_same, ps]⟩
      · rw [if_neg e] at ps ⊢
        rw [List.append_nil] at ps
        rw [ps]
        exact ⟨s1, hD⟩
    · exact q _ _ s1 nD hD

def cell (ns : List Int) (k : Int) : Int := ns.getD k.toNat 0
abbrev s_law_at : Stmt := top 40
theorem sc_law_at : FnScope ["_law_script", "_law_k"] ["_law_script", "_law_k"] (defScope s_law_at) := ⟨rfl, rfl, rfl, by decide +kernel, rfl, by decide +kernel, by decide +kernel⟩
def sp_law_at (K : PySem.W.Frag) : Sp := fun vs H Q _ => ∃ (p : Addr) (k : Int), vs = [.ref p, .int k] ∧ ∃ ns : List Int, SqL K H p (ns.map V.int) ∧ 0 ≤ k ∧ Q (.int (cell ns k)) H
theorem ok_law_at (B : Bi mg) (D : Def K mg "_law_at" s_law_at) : Cal P w K mg base CX0 "_law_at" 1 ["_law_script", "_law_k"] (sp_law_at K) := by
  have nd := sc_law_at.nd
  refine D.cal sc_law_at (fun _ _ _ _ _ _ us hl => match us, hl with | [_, _], _ => rfl) (fun vs H Q E h => ?_) (fun f cdv A outer s H vs Q E hr h => ?_)
  · obtain ⟨_, _, rfl, _⟩ := h
    rfl
  · obtain ⟨p, k, rfl, ns, hS, h0, q⟩ := h
    refine ⟨_, PSs.nox (pss_cons (ps_if (pt_cmpR op_lt (pv 1) (pe_callB (r := rLenL K) call_lenl (by rfl) B.len PySem.boot_len (pa_cons (pv 0) pa_nil)) (nomark _))
        (pss_one (ps_ret (pe_ix (r := rIxLn K) ix_l (pv 0) (pv 1) (fun _ _ => rfl))))
        pss_nil)
      (pss_one (ps_ret pe_int))), ?_⟩
    try dsimp only [cxOf, Cx.nox, Cx.wish]
    fail "go"
    refine itd (fun e => ?_) fun e => ?_
    · rw [List.length_map] at e
      have h1 : k.toNat < ns.length := by omega
      fail "go"
      refine ⟨.int (cell ns k), ?_, q⟩
      rw [List.getElem?_map, List.getElem?_eq_getElem h1]
      unfold cell
      rw [List.getD_eq_getElem?_getD, List.getElem?_eq_getElem h1]
      rfl
    · rw [List.length_map] at e
      have : cell ns k = 0 := by
        unfold cell
        rw [List.getD_eq_getElem?_getD, List.getElem?_eq_none (by omega)]
        rfl
      rw [this] at q
      exact q
def mixed (c k : Int) : Int := (c + 7919 * k + 3) * 48271 % 2147483647 * ((c + 7919 * k + 3) * 48271 % 2147483647) % 2147483629
theorem mixed_nn (c k : Int) : 0 ≤ mixed c k := Int.emod_nonneg _ (by decide)
abbrev s_law_mixed : Stmt := top 41
theorem sc_law_mixed : FnScope ["_law_cell", "_law_k", "_law_number"] ["_law_cell", "_law_k"] (defScope s_law_mixed) := ⟨rfl, rfl, rfl, by decide +kernel, rfl, by decide +kernel, by decide +kernel⟩
def sp_law_mixed : Sp := fun vs H Q _ => ∃ c k : Int, vs = [.int c, .int k] ∧ Q (.int (mixed c k)) H
theorem ok_law_mixed (B : Bi mg) (D : Def K mg "_law_mixed" s_law_mixed) : Cal P w K mg base CX0 "_law_mixed" 1 ["_law_cell", "_law_k"] sp_law_mixed := by
  have nd := sc_law_mixed.nd
  refine D.cal sc_law_mixed (fun _ _ _ _ _ _ us hl => match us, hl with | [_, _], _ => rfl) (fun vs H Q E h => ?_) (fun f cdv A outer s H vs Q E hr h => ?_)
  · obtain ⟨_, _, rfl, _⟩ := h
    rfl
  · obtain ⟨c, k, rfl, q⟩ := h
    refine ⟨_, PSs.nox (pss_cons (ps_set (i := 2) nd rfl (.inl rfl) (pe_op op_mod (pe_op op_mul (pe_op op_add (pe_op op_add (pv 0) (pe_op op_mul pe_int (pv 1))) pe_int) pe_int) pe_int))
      (pss_one (ps_ret (pe_op op_mod (pe_op op_mul (pv 2) (pv 2)) pe_int)))), ?_⟩
    try dsimp only [cxOf, Cx.nox, Cx.wish]
    have h1 := Int.emod_nonneg ((c + 7919 * k + 3) * 48271) (show (2147483647 : Int) ≠ 0 by decide)
    have h2 := Int.emod_lt_of_pos ((c + 7919 * k + 3) * 48271) (show (0 : Int) < 2147483647 by decide)
    fail "go"
    exact q
abbrev s_law_whole : Stmt := top 42
theorem sc_law_whole : FnScope ["_law_found"] ["_law_found"] (defScope s_law_whole) := ⟨rfl, rfl, rfl, by decide +kernel, rfl, by decide +kernel, by decide +kernel⟩
def sp_law_whole : Sp := fun vs H Q _ => ∃ n : Int, vs = [.int n] ∧ Q (.bl true) H
theorem ok_law_whole (B : Bi mg) (D : Def K mg "_law_whole" s_law_whole) : Cal P w K mg base CX0 "_law_whole" 1 ["_law_found"] sp_law_whole := by
  have nd := sc_law_whole.nd
  refine D.cal sc_law_whole (fun _ _ _ _ _ _ us hl => match us, hl with | [_], _ => rfl) (fun vs H Q E h => ?_) (fun f cdv A outer s H vs Q E hr h => ?_)
  · obtain ⟨_, rfl, _⟩ := h
    rfl
  · obtain ⟨n, rfl, q⟩ := h
    refine ⟨_, PSs.nox (pss_one (ps_ret (pe_and (pe_callB (call_is .int) (by rfl) B.isinstance (by decide +kernel) (pa_cons (pv 0) (pa_cons (pe_ty .int (by rfl) B.int (by decide +kernel)) pa_nil))) (pe_one (pe_not (pe_callB (call_is .bl) (by rfl) B.isinstance (by decide +kernel) (pa_cons (pv 0) (pa_cons (pe_ty .bl (by rfl) B.bool (by decide +kernel)) pa_nil)))))))), ?_⟩
    try dsimp only [cxOf, Cx.nox, Cx.wish]
    fail "go"
    exact q

abbrev s_law_signs : Stmt := top 43
theorem sc_law_signs : FnScope ["_law_cell", "_law_some", "_law_many", "_law_k"] ["_law_cell"] (defScope s_law_signs) := ⟨rfl, rfl, rfl, by decide +kernel, rfl, by decide +kernel, by decide +kernel⟩
def sp_law_signs : Sp := fun vs H Q _ => ∃ c : Int, vs = [.int c] ∧ ∀ a : Wd, a ≠ [] → a.length ≤ 26 → Abc a → Ret H Q (sv a)
theorem ok_law_signs (B : Bi mg) (D : Def K mg "_law_signs" s_law_signs) : Cal P w K mg base CX0 "_law_signs" 1 ["_law_cell"] sp_law_signs := by
  have nd := sc_law_signs.nd
  refine D.cal sc_law_signs (fun _ _ _ _ _ _ us hl => match us, hl with | [_], _ => rfl) (fun vs H Q E h => ?_) (fun f cdv A outer s H vs Q E hr h => ?_)
  · obtain ⟨_, rfl, _⟩ := h
    rfl
  · obtain ⟨c, rfl, q⟩ := h
    refine ⟨_, PSs.nox (pss_cons (ps_set (i := 1) nd rfl (.inr rfl) (pe_w ABC rfl))
      (pss_cons (ps_set (i := 2) nd rfl (.inl rfl) (pe_ix (r := rIxLn K) ix_l (pe_lst (pa_cons pe_int (pa_cons pe_int (pa_cons pe_int (pa_cons pe_int (pa_cons pe_int (pa_cons pe_int pa_nil))))))) (pe_op op_mod (pv 0) pe_int) (fun _ _ => rfl)))
      (pss_one (ps_ret (pe_m1 (r := rJoW K) PySem.F.slot_str_join PySem.F.type_str_join mt_jow (pe_w [] rfl) (pe_lc (own := [("_law_k", 3)]) (g := gName 3) (tt := tYes) rfl nd (pi_range1 (by rfl) B.range (pa_cons (pv 2) pa_nil)) (blkOk_by (own := [("_law_k", 3)]) (N := ["_law_cell", "_law_some", "_law_many", "_law_k"]) (sc := defScope s_law_signs) (by decide +kernel)) (fun _ _ _ _ _ => (pg_name (i := 3) nd rfl (.inl rfl))) (fun _ _ _ _ _ => pts_nil) (fun _ _ _ _ _ => (pe_ix ix_w (pv 1) (pe_op op_mod (pe_op op_add (pe_op op_fdiv (pv 0) pe_int) (pe_op op_mul (pe_op op_add pe_int (pe_op op_mod (pe_op op_fdiv (pv 0) pe_int) pe_int)) (pv 3))) pe_int) (fun _ _ => rfl))))))))), ?_⟩
    try dsimp only [cxOf, Cx.nox, Cx.wish]
    fail "gi"
    rename_i p hp
    obtain ⟨v, hv, ev⟩ := pickm [V.int 2, V.int 1, V.int 2, V.int 3, V.int 2, V.int 5] c (by simp)
    obtain ⟨m, rfl, m0, m1⟩ : ∃ m : Nat, v = .int (m : Int) ∧ 1 ≤ m ∧ m ≤ 26 := by
      simp only [List.mem_cons, List.not_mem_nil, or_false] at hv
      rcases hv with rfl | rfl | rfl | rfl | rfl | rfl
      · exact ⟨2, rfl, by decide, by decide⟩
      · exact ⟨1, rfl, by decide, by decide⟩
      · exact ⟨2, rfl, by decide, by decide⟩
      · exact ⟨3, rfl, by decide, by decide⟩
      · exact ⟨2, rfl, by decide, by decide⟩
      · exact ⟨5, rfl, by decide, by decide⟩
    refine ⟨_, ev, ?_⟩
    fail "go"
    refine fun D hD => ?_
    have hn : ∀ i : Nat, ∃ x : Nat, x ∈ ABC ∧ ABC[((c / 6 + (1 + c / 156 % 25) * (0 + (i : Int))) % 26).toNat]? = some x := fun i => pickm ABC _ (by decide)
    refine lc_rng (lo := 0) (n := m) (j := 3) (fun i => sv [(hn i).choose]) hD (by omega) (fun i hi H1 e1 Q1 q1 => ?_) (fun H1 e1 h1 => ?_)
    · have hc0 := Int.emod_nonneg (c / 156) (show (25 : Int) ≠ 0 by decide)
      have hc1 := Int.emod_lt_of_pos (c / 156) (show (0 : Int) < 25 by decide)
      fail "go"
      exact ⟨_, (hn i).choose_spec.2, q1 _ (Same.refl _)⟩
    · fail "go"
      have ef := flat1 (fun i => (hn i).choose) (List.range m)
      have el : ((List.range m).map fun i => (hn i).choose).length = m := by rw [List.length_map, List.length_range]
      refine ⟨(List.range m).map fun i => [(hn i).choose], SqL.of (by rw [h1, List.map_map]; rfl), by rw [ef]; omega, ?_⟩
      rw [ef]
      refine q _ (fun z => ?_) (by omega) (fun x hx => ?_) _ (by fail "same")
      · rw [z] at el; simp at el; omega
      · obtain ⟨i, _, rfl⟩ := List.mem_map.mp hx
        exact (hn i).choose_spec.1
abbrev s_law_word : Stmt := top 44
theorem sc_law_word : FnScope ["_law_cell", "_law_signs_here", "_law_size", "_law_j"] ["_law_cell", "_law_signs_here"] (defScope s_law_word) := ⟨rfl, rfl, rfl, by decide +kernel, rfl, by decide +kernel, by decide +kernel⟩
def sp_law_word : Sp := fun vs H Q _ => ∃ (c : Int) (g : Wd), vs = [.int c, sv g] ∧ g ≠ [] ∧ g.length ≤ 26 ∧ Abc g ∧ ∀ a : Wd, Word a → Ret H Q (sv a)
theorem ok_law_word (B : Bi mg) (D : Def K mg "_law_word" s_law_word) (c_law_mixed : Cal P w K mg base CX0 "_law_mixed" 1 ["_law_cell", "_law_k"] sp_law_mixed) : Cal P w K mg base CX0 "_law_word" 2 ["_law_cell", "_law_signs_here"] sp_law_word := by
  have nd := sc_law_word.nd
  refine D.cal sc_law_word (fun _ _ _ _ _ _ us hl => match us, hl with | [_, _], _ => rfl) (fun vs H Q E h => ?_) (fun f cdv A outer s H vs Q E hr h => ?_)
  · obtain ⟨_, _, rfl, _⟩ := h
    rfl
  · obtain ⟨c, g, rfl, hg, hl, hA, q⟩ := h
    refine ⟨_, PSs.nox (pss_cons (ps_set (i := 2) nd rfl (.inl rfl) (pe_ix (r := rIxLn K) ix_l (pe_lst (pa_cons pe_int (pa_cons pe_int (pa_cons pe_int (pa_cons pe_int (pa_cons pe_int (pa_cons (pe_op op_add pe_int (pe_op op_mod (pe_op op_fdiv (pv 0) pe_int) pe_int)) (pa_cons pe_int (pa_cons pe_int pa_nil))))))))) (pe_op op_mod (pv 0) pe_int) (fun _ _ => rfl)))
      (pss_one (ps_ret (pe_m1 (r := rJoW K) PySem.F.slot_str_join PySem.F.type_str_join mt_jow (pe_w [] rfl) (pe_lc (own := [("_law_j", 3)]) (g := gName 3) (tt := tYes) rfl nd (pi_range1 (by rfl) B.range (pa_cons (pv 2) pa_nil)) (blkOk_by (own := [("_law_j", 3)]) (N := ["_law_cell", "_law_signs_here", "_law_size", "_law_j"]) (sc := defScope s_law_word) (by decide +kernel)) (fun _ _ _ _ _ => (pg_name (i := 3) nd rfl (.inl rfl))) (fun _ _ _ _ _ => pts_nil) (fun _ _ _ _ _ => (pe_ix ix_w (pv 1) (pe_op op_mod (pe_op op_fdiv (pe_cal c_law_mixed hr (pa_cons (pv 0) (pa_cons (pv 3) pa_nil))) pe_int) (pe_callB call_lenw (by rfl) B.len PySem.boot_len (pa_cons (pv 1) pa_nil))) (fun _ _ => rfl)))))))), ?_⟩
    try dsimp only [cxOf, Cx.nox, Cx.wish]
    have hc0 := Int.emod_nonneg (c / 8) (show (10 : Int) ≠ 0 by decide)
    have hc1 := Int.emod_lt_of_pos (c / 8) (show (0 : Int) < 10 by decide)
    fail "gi"
    rename_i p hp
    obtain ⟨v, hv, ev⟩ := pickm [V.int 1, V.int 2, V.int 3, V.int 2, V.int 4, V.int (1 + c / 8 % 10), V.int 3, V.int 2] c (by simp)
    obtain ⟨n, rfl, n0, n1⟩ : ∃ n : Int, v = .int n ∧ 1 ≤ n ∧ n ≤ 10 := by
      simp only [List.mem_cons, List.not_mem_nil, or_false] at hv
      rcases hv with rfl | rfl | rfl | rfl | rfl | rfl | rfl | rfl
      all_goals exact ⟨_, rfl, by omega, by omega⟩
    refine ⟨_, ev, ?_⟩
    fail "go"
    refine fun D hD => ?_
    have hn : ∀ i : Nat, ∃ x : Nat, x ∈ g ∧ g[(mixed c (0 + (i : Int)) / 64 % (g.length : Int)).toNat]? = some x := fun i => pickm g _ hg
    have hgl : 0 < g.length := List.length_pos_iff.mpr hg
    refine lc_rng (lo := 0) (n := n.toNat) (j := 3) (fun i => sv [(hn i).choose]) hD (by omega) (fun i hi H1 e1 Q1 q1 => ?_) (fun H1 e1 h1 => ?_)
    · fail "go"
      exact ⟨_, (hn i).choose_spec.2, q1 _ (Same.refl _)⟩
    · fail "go"
      have ef := flat1 (fun i => (hn i).choose) (List.range n.toNat)
      have el : ((List.range n.toNat).map fun i => (hn i).choose).length = n.toNat := by rw [List.length_map, List.length_range]
      refine ⟨(List.range n.toNat).map fun i => [(hn i).choose], SqL.of (by rw [h1, List.map_map]; rfl), by rw [ef]; omega, ?_⟩
      rw [ef]
      refine q _ ⟨by omega, by omega, fun x hx => ?_⟩ _ (by fail "same")
      obtain ⟨i, _, rfl⟩ := List.mem_map.mp hx
      exact hA _ (hn i).choose_spec.1
abbrev s_law_any_word : Stmt := top 45
theorem sc_law_any_word : FnScope ["_law_cell", "_law_word_here", "_law_more_here", "_law_j"] ["_law_cell"] (defScope s_law_any_word) := ⟨rfl, rfl, rfl, by decide +kernel, rfl, by decide +kernel, by decide +kernel⟩
def sp_law_any_word : Sp := fun vs H Q _ => ∃ c : Int, vs = [.int c] ∧ ∀ a : Wd, Word a → Ret H Q (sv a)
theorem ok_law_any_word (B : Bi mg) (D : Def K mg "_law_any_word" s_law_any_word) : Cal P w K mg base CX0 "_law_any_word" 1 ["_law_cell"] sp_law_any_word := by
  have nd := sc_law_any_word.nd
  refine D.cal sc_law_any_word (fun _ _ _ _ _ _ us hl => match us, hl with | [_], _ => rfl) (fun vs H Q E h => ?_) (fun f cdv A outer s H vs Q E hr h => ?_)
  · obtain ⟨_, rfl, _⟩ := h
    rfl
  · obtain ⟨c, rfl, q⟩ := h
    refine ⟨_, PSs.nox (pss_cons (ps_set (i := 1) nd rfl (.inl rfl) (pe_w [] rfl))
      (pss_cons (ps_set (i := 2) nd rfl (.inl rfl) (pe_op op_fdiv (pv 0) pe_int))
      (pss_cons (ps_for PassesOwn.never rfl (pi_range1 (by rfl) B.range (pa_cons (pe_op op_add pe_int (pe_op op_mod (pv 0) pe_int)) pa_nil)) (pg_name (i := 3) nd rfl (.inl rfl))
        (pss_cons (ps_set (i := 1) nd rfl (.inl rfl) (pe_op op_addw (pv 1) (pe_ix ix_w (pe_w ABC rfl) (pe_op op_mod (pv 2) pe_int) (fun _ _ => rfl))))
        (pss_one (ps_set (i := 2) nd rfl (.inl rfl) (pe_op op_fdiv (pv 2) pe_int)))))
      (pss_one (ps_ret (pv 1)))))), ?_⟩
    try dsimp only [cxOf, Cx.nox, Cx.wish]
    have hc0 := Int.emod_nonneg c (show (10 : Int) ≠ 0 by decide)
    have hc1 := Int.emod_lt_of_pos c (show (0 : Int) < 10 by decide)
    fail "gi"
    refine for_range (fun i σ' H' => ∃ (a : Wd) (m : Int) (x3 : Option V), σ' = [some (.int c), some (sv a), some (.int m), x3] ∧ Same H H' ∧ a.length = i ∧ Abc a) ⟨[], _, _, rfl, Same.refl _, rfl, fun _ h => nomatch h⟩ ?_ ?_
    · rintro i σ' H' hi ⟨a, m, x3, rfl, s1, hl, hA⟩
      obtain ⟨x, hx, ex⟩ := pickm ABC m (by decide)
      fail "go"
      refine ⟨x, ex, ?_⟩
      fail "go"
      refine ⟨by simp [hl], fun y hy => ?_⟩
      rcases List.mem_append.mp hy with h | h
      · exact hA y h
      · rw [List.mem_singleton.mp h]; exact hx
    · rintro σ' H' ⟨a, m, x3, rfl, s1, hl, hA⟩
      fail "go"
      exact q a ⟨by omega, by omega, hA⟩ _ s1

abbrev s_law_more : Stmt := top 46
theorem sc_law_more : FnScope ["_law_words_here", "_law_cell", "_law_signs_here", "_law_one", "_law_other", "_law_at_here", "_law_some"] ["_law_words_here", "_law_cell", "_law_signs_here"] (defScope s_law_more) := ⟨rfl, rfl, rfl, by decide +kernel, rfl, by decide +kernel, by decide +kernel⟩
def sp_law_more : Sp := fun vs H Q _ => ∃ (p : Addr) (c : Int) (g : Wd), vs = [.ref p, .int c, sv g] ∧ ∃ ws : List Wd, H p = some (.lst (ws.map sv)) ∧ ws ≠ [] ∧ (∀ w ∈ ws, Word w) ∧ g ≠ [] ∧ g.length ≤ 26 ∧ Abc g ∧ ∀ a : Wd, Word a → Ret H Q (sv a)
theorem ok_law_more (B : Bi mg) (D : Def K mg "_law_more" s_law_more) (c_law_word : Cal P w K mg base CX0 "_law_word" 2 ["_law_cell", "_law_signs_here"] sp_law_word) : Cal P w K mg base CX0 "_law_more" 3 ["_law_words_here", "_law_cell", "_law_signs_here"] sp_law_more := by
  have nd := sc_law_more.nd
  refine D.cal sc_law_more (fun _ _ _ _ _ _ us hl => match us, hl with | [_, _, _], _ => rfl) (fun vs H Q E h => ?_) (fun f cdv A outer s H vs Q E hr h => ?_)
  · obtain ⟨_, _, _, rfl, _⟩ := h
    rfl
  · obtain ⟨p, c, g, rfl, ws, hp, hn, hw, hg, hgl, hA, q⟩ := h
    refine ⟨_, PSs.nox (pss_cons (ps_set (i := 3) nd rfl (.inl rfl) (pe_ix (r := rIxLn K) ix_l (pv 0) (pe_op op_mod (pe_op op_fdiv (pv 1) pe_int) (pe_callB (r := rLenL K) call_lenl (by rfl) B.len PySem.boot_len (pa_cons (pv 0) pa_nil))) (fun _ _ => rfl)))
      (pss_cons (ps_set (i := 4) nd rfl (.inl rfl) (pe_ix (r := rIxLn K) ix_l (pv 0) (pe_op op_mod (pe_op op_fdiv (pv 1) pe_int) (pe_callB (r := rLenL K) call_lenl (by rfl) B.len PySem.boot_len (pa_cons (pv 0) pa_nil))) (fun _ _ => rfl)))
      (pss_cons (ps_set (i := 5) nd rfl (.inl rfl) (pe_op op_mod (pe_op op_fdiv (pv 1) pe_int) (pe_callB call_lenw (by rfl) B.len PySem.boot_len (pa_cons (pv 3) pa_nil))))
      (pss_cons (ps_set (i := 6) nd rfl (.inl rfl) (pe_lst (pa_cons (pe_op op_addw (pv 3) (pv 4)) (pa_cons (pe_op op_addw (pv 3) (pv 4)) (pa_cons (pe_op op_addw (pv 4) (pv 3)) (pa_cons (pe_op op_addw (pv 3) (pe_cal c_law_word hr (pa_cons (pe_op op_fdiv (pv 1) pe_int) (pa_cons (pv 2) pa_nil)))) (pa_cons (pe_op op_addw (pe_cal c_law_word hr (pa_cons (pe_op op_fdiv (pv 1) pe_int) (pa_cons (pv 2) pa_nil))) (pv 3)) pa_nil)))))))
      (pss_one (ps_ret (pe_slice (r := rSlW) sl_w (pe_ix (r := rIxLn K) ix_l (pe_op op_catl (pv 6) (pe_lst (pa_cons (pe_slice (r := rSlW) sl_w (pv 3) (po_some (pv 5)) po_none) (pa_cons (pe_slice (r := rSlW) sl_w (pv 3) po_none (po_some (pe_op op_add (pv 5) pe_int))) (pa_cons (pe_op op_addw (pe_slice (r := rSlW) sl_w (pv 3) (po_some (pv 5)) po_none) (pv 4)) pa_nil))))) (pe_op op_mod (pv 1) pe_int) (fun _ _ => rfl)) po_none (po_some pe_int)))))))), ?_⟩
    try dsimp only [cxOf, Cx.nox, Cx.wish]
    have hn' : ws.map sv ≠ [] := fun z => hn (List.map_eq_nil_iff.mp z)
    have hpos : 0 < (ws.map sv).length := List.length_pos_iff.mpr hn'
    fail "gi"
    refine ex_pickm hn' fun v1 h1 => ?_
    obtain ⟨one, m1, rfl⟩ := List.mem_map.mp h1
    have w1 := hw one m1
    have w1' := w1.1
    have w1'' := w1.2.1
    fail "gi"
    refine ex_pickm hn' fun v2 h2 => ?_
    obtain ⟨oth, m2, rfl⟩ := List.mem_map.mp h2
    have w2 := hw oth m2
    have w2' := w2.1
    have w2'' := w2.2.1
    fail "gi"
    intro u hu
    have u1 := hu.1
    have u2 := hu.2.1
    fail "gi"
    intro u' hu'
    have u1' := hu'.1
    have u2' := hu'.2.1
    have l0 := Int.emod_nonneg (c / 1352) (show (one.length : Int) ≠ 0 by omega)
    have l1 := Int.emod_lt_of_pos (c / 1352) (show (0 : Int) < one.length by omega)
    have k1 := cutW_len one (some (c / 1352 % (one.length : Int))) none
    fail "gi"
    refine ex_pick (Int.emod_nonneg _ (by decide)) (Int.emod_lt_of_pos _ (by decide)) fun v hv => ?_
    obtain ⟨a, rfl, hAa, ha1, ha2⟩ : ∃ a : Wd, v = sv a ∧ Abc a ∧ 1 ≤ a.length ∧ a.length ≤ 100 := by
      have a1 := w1.abc
      have a2 := w2.abc
      have k2 := cutW_len one none (some (c / 1352 % (one.length : Int) + 1))
      have k3 : 1 ≤ (cutW one (some (c / 1352 % (one.length : Int))) none).length := by
        rw [cutW_fromI one l0, List.length_drop]; omega
      have k4 : 1 ≤ (cutW one none (some (c / 1352 % (one.length : Int) + 1))).length := by
        rw [cutW_toI one (by omega), List.length_take]; omega
      simp only [List.mem_append, List.mem_cons, List.not_mem_nil, or_false] at hv
      rcases hv with (rfl | rfl | rfl | rfl | rfl) | rfl | rfl | rfl
      · exact ⟨_, rfl, a1.app a2, by rw [List.length_append]; omega, by rw [List.length_append]; omega⟩
      · exact ⟨_, rfl, a1.app a2, by rw [List.length_append]; omega, by rw [List.length_append]; omega⟩
      · exact ⟨_, rfl, a2.app a1, by rw [List.length_append]; omega, by rw [List.length_append]; omega⟩
      · exact ⟨_, rfl, a1.app hu.abc, by rw [List.length_append]; omega, by rw [List.length_append]; omega⟩
      · exact ⟨_, rfl, hu'.abc.app a1, by rw [List.length_append]; omega, by rw [List.length_append]; omega⟩
      · exact ⟨_, rfl, cutW_abc a1 _ _, k3, by omega⟩
      · exact ⟨_, rfl, cutW_abc a1 _ _, k4, by omega⟩
      · exact ⟨_, rfl, (cutW_abc a1 _ _).app a2, by rw [List.length_append]; omega, by rw [List.length_append]; omega⟩
    fail "gi"
    exact q _ (Word.cut hAa ha1 (by decide) (by decide)) _ (by fail "same")
theorem rot (W : List Wd) {i : Int} (h : 0 ≤ i) : cutV (W.map sv) (some i) none ++ cutV (W.map sv) none (some i) = (W.drop i.toNat ++ W.take i.toNat).map sv := by
  rw [cutV_fromI h, cutV_toI h, List.map_append, List.map_drop, List.map_take]
theorem rot_len (W : List Wd) {i : Int} (h : 0 ≤ i) : (cutV (W.map sv) (some i) none).length + (cutV (W.map sv) none (some i)).length = W.length := by
  rw [← List.length_append, rot W h, List.length_map, List.length_append, List.length_drop, List.length_take]; omega
theorem rot_mem {W : List Wd} {n : Nat} {w : Wd} (h : w ∈ W.drop n ++ W.take n) : w ∈ W := (List.mem_append.mp h).elim List.mem_of_mem_drop List.mem_of_mem_take
abbrev s_law_chain : Stmt := top 47
theorem sc_law_chain : FnScope ["_law_script", "_law_first", "_law_signs_here", "_law_links", "_law_k", "_law_words_here", "_law_turn"] ["_law_script", "_law_first", "_law_signs_here"] (defScope s_law_chain) := ⟨rfl, rfl, rfl, by decide +kernel, rfl, by decide +kernel, by decide +kernel⟩
def sp_law_chain (K : PySem.W.Frag) : Sp := fun vs H Q _ => ∃ (p : Addr) (k : Int) (g : Wd), vs = [.ref p, .int k, sv g] ∧ ∃ ns : List Int, SqL K H p (ns.map V.int) ∧ 0 ≤ k ∧ g ≠ [] ∧ g.length ≤ 26 ∧ Abc g ∧ ∀ ws : List Wd, ws ≠ [] → ws.length ≤ 10 → (∀ w ∈ ws, Word w) → RetL H Q (ws.map sv)
theorem ok_law_chain (B : Bi mg) (D : Def K mg "_law_chain" s_law_chain) (c_law_at : Cal P w K mg base CX0 "_law_at" 1 ["_law_script", "_law_k"] (sp_law_at K)) (c_law_mixed : Cal P w K mg base CX0 "_law_mixed" 1 ["_law_cell", "_law_k"] sp_law_mixed) (c_law_word : Cal P w K mg base CX0 "_law_word" 2 ["_law_cell", "_law_signs_here"] sp_law_word) : Cal P w K mg base CX0 "_law_chain" 3 ["_law_script", "_law_first", "_law_signs_here"] (sp_law_chain K) := by
  have nd := sc_law_chain.nd
  refine D.cal sc_law_chain (fun _ _ _ _ _ _ us hl => match us, hl with | [_, _, _], _ => rfl) (fun vs H Q E h => ?_) (fun f cdv A outer s H vs Q E hr h => ?_)
  · obtain ⟨_, _, _, rfl, _⟩ := h
    rfl
  · obtain ⟨p, k, g, rfl, ns, hS, hk, hg, hgl, hA, q⟩ := h
    refine ⟨_, PSs.nox (pss_cons (ps_set (i := 3) nd rfl (.inr rfl) (pe_lst pa_nil))
      (pss_cons (ps_for PassesOwn.never rfl (pi_range1 (by rfl) B.range (pa_cons (pe_op op_add pe_int (pe_op op_mod (pe_op op_fdiv (pe_cal c_law_at hr (pa_cons (pv 0) (pa_cons (pv 1) pa_nil))) pe_int) pe_int)) pa_nil)) (pg_name (i := 4) nd rfl (.inl rfl))
        (pss_one (ps_expr (pe_bm PySem.F.plainAttrs_list PySem.F.slot_list_append PySem.F.type_list_append mt_app (pv 3) (pa_cons (pe_slice (r := rSlW) sl_w (pe_cal c_law_word hr (pa_cons (pe_cal c_law_mixed hr (pa_cons (pe_cal c_law_at hr (pa_cons (pv 0) (pa_cons (pe_op op_add (pe_op op_add (pv 1) pe_int) (pe_op op_mod (pv 4) pe_int)) pa_nil))) (pa_cons (pv 4) pa_nil))) (pa_cons (pv 2) pa_nil))) po_none (po_some pe_int)) pa_nil)))))
      (pss_cons (ps_set (i := 5) nd rfl (.inl rfl) (pe_op op_catl (pe_lst (pa_cons (pe_ix (r := rIxLn K) ix_l (pv 3) pe_int (fun _ _ => rfl)) pa_nil)) (pe_lc (own := [("_law_k", 4)]) (g := gName 4) (tt := tYes) rfl nd (pi_range2 (by rfl) B.range (pa_cons pe_int (pa_cons (pe_callB (r := rLenL K) call_lenl (by rfl) B.len PySem.boot_len (pa_cons (pv 3) pa_nil)) pa_nil))) (blkOk_by (own := [("_law_k", 4)]) (N := ["_law_script", "_law_first", "_law_signs_here", "_law_links", "_law_k", "_law_words_here", "_law_turn"]) (sc := defScope s_law_chain) (by decide +kernel)) (fun _ _ _ _ _ => (pg_name (i := 4) nd rfl (.inl rfl))) (fun _ _ _ _ _ => pts_nil) (fun _ _ _ _ _ => (pe_op op_addw (pe_ix (r := rIxLn K) ix_l (pv 3) (pe_op op_sub (pv 4) pe_int) (fun _ _ => rfl)) (pe_ix (r := rIxLn K) ix_l (pv 3) (pv 4) (fun _ _ => rfl)))))))
      (pss_cons (ps_if (pt_cmpR op_eqn (pe_op op_mod (pe_op op_fdiv (pe_cal c_law_at hr (pa_cons (pv 0) (pa_cons (pv 1) pa_nil))) pe_int) pe_int) pe_int (nomark _))
        (pss_one (ps_expr (pe_bm PySem.F.plainAttrs_list PySem.F.slot_list_append PySem.F.type_list_append mt_app (pv 5) (pa_cons (pe_ix (r := rIxLm K) ix_lm (pv 3) (pe_un un_neg pe_int) (fun _ _ => rfl)) pa_nil))))
        pss_nil)
      (pss_cons (ps_set (i := 6) nd rfl (.inl rfl) (pe_op op_mod (pe_cal c_law_at hr (pa_cons (pv 0) (pa_cons (pe_op op_add (pv 1) pe_int) pa_nil))) (pe_callB (r := rLenL K) call_lenl (by rfl) B.len PySem.boot_len (pa_cons (pv 5) pa_nil))))
      (pss_one (ps_ret (pe_op op_catl (pe_slice (r := rSlLn K) sl_l (pv 5) (po_some (pv 6)) po_none) (pe_slice (r := rSlLn K) sl_l (pv 5) po_none (po_some (pv 6))))))))))), ?_⟩
    try dsimp only [cxOf, Cx.nox, Cx.wish]
    have c0 := Int.emod_nonneg (cell ns k / 40) (show (7 : Int) ≠ 0 by decide)
    have c1 := Int.emod_lt_of_pos (cell ns k / 40) (show (0 : Int) < 7 by decide)
    fail "gi"
    rename_i l hl
    refine for_range (fun i σ' H' => ∃ (ws : List Wd) (x4 : Option V), σ' = [some (.ref p), some (.int k), some (sv g), some (.ref l), x4, none, none] ∧ Same H H' ∧ H' l = some (.lst (ws.map sv)) ∧ ws.length = i ∧ ∀ w ∈ ws, Abc w ∧ 1 ≤ w.length ∧ w.length ≤ 5) ⟨[], none, rfl, new hl, upd_same, rfl, fun _ h => nomatch h⟩ ?_ ?_
    · rintro i σ' H' hi ⟨ws, x4, rfl, s1, hw, hn, hws⟩
      fail "gi"
      intro u hu
      have u1 := hu.1
      have u2 := hu.2.1
      have hm : (ws.map sv).length < 100000 := by rw [List.length_map]; omega
      fail "gi"
      refine ⟨ws ++ [cutW u none (some 5)], _, rfl, by fail "same", ?_, by rw [List.length_append]; simp [hn], ?_⟩
      · rw [upd_same, List.map_append]; rfl
      · intro w hw'
        rcases List.mem_append.mp hw' with h | h
        · exact hws w h
        · rw [List.mem_singleton.mp h, cutW_toI u (by decide)]
          exact ⟨hu.abc.take _, by rw [List.length_take]; omega, by rw [List.length_take]; omega⟩
    · rintro σ' H' ⟨ws, x4, rfl, s1, hw, hn, hws⟩
      have hn2 : ws.length = (2 + cell ns k / 40 % 7).toNat := hn
      have hlm : (ws.map sv).length = ws.length := List.length_map _
      obtain ⟨w0, r, rfl⟩ : ∃ w0 r, ws = w0 :: r := by
        cases ws with
        | nil => rw [List.length_nil] at hn2; omega
        | cons a b => exact ⟨a, b, rfl⟩
      rw [List.length_cons] at hn2
      fail "gi"
      rename_i p1 hp1 D hD
      have hget : ∀ i : Nat, i < r.length + 1 → ((w0 :: r).map sv)[i]? = some (sv ((w0 :: r).getD i [])) := fun i h => by
        rw [List.getElem?_map, List.getD_eq_getElem?_getD, List.getElem?_eq_getElem (by rw [List.length_cons]; omega)]; rfl
      have hgw : ∀ i : Nat, i < r.length + 1 → Abc ((w0 :: r).getD i []) ∧ 1 ≤ ((w0 :: r).getD i []).length ∧ ((w0 :: r).getD i []).length ≤ 5 := fun i h => by
        rw [List.getD_eq_getElem?_getD, List.getElem?_eq_getElem (by rw [List.length_cons]; omega)]
        exact hws _ (List.getElem_mem _)
      have hnn : ((((w0 :: r).map sv).length : Int) - 1).toNat = r.length := by simp
      refine lc_rng (lo := 1) (n := ((((w0 :: r).map sv).length : Int) - 1).toNat) (j := 4) (fun i => sv ((w0 :: r).getD i [] ++ (w0 :: r).getD (i + 1) [])) hD (by omega) (fun i hi H1 e1 Q1 q1 => ?_) (fun H1 e1 h1 => ?_)
      · have g1 : ((w0 :: r).map sv)[((1 + (i : Int)) - 1).toNat]? = some (sv ((w0 :: r).getD i [])) := by
          rw [show ((1 + (i : Int)) - 1).toNat = i by omega]; exact hget i (by omega)
        have g2 : ((w0 :: r).map sv)[(1 + (i : Int)).toNat]? = some (sv ((w0 :: r).getD (i + 1) [])) := by
          rw [show (1 + (i : Int)).toNat = i + 1 by omega]; exact hget _ (by omega)
        have b1 := (hgw i (by omega)).2.2
        have b2 := (hgw (i + 1) (by omega)).2.2
        fail "go"
        exact q1 _ (Same.refl _)
      · fail "go"
        rw [hnn] at h1 ⊢
        refine And.intro (by simp; omega) fun p2 hp2 => ?_
        have eW : [sv w0] ++ (List.range r.length).map (fun i => sv ((w0 :: r).getD i [] ++ (w0 :: r).getD (i + 1) [])) = (w0 :: (List.range r.length).map (fun i => (w0 :: r).getD i [] ++ (w0 :: r).getD (i + 1) [])).map sv := by
          rw [List.map_cons, List.map_map]; rfl
        rw [eW]
        have hW : ∀ x ∈ (w0 :: (List.range r.length).map (fun i => (w0 :: r).getD i [] ++ (w0 :: r).getD (i + 1) [])), Word x := fun x hx => by
          rcases List.mem_cons.mp hx with rfl | hx
          · have := hws x List.mem_cons_self
            exact ⟨this.2.1, by omega, this.1⟩
          · obtain ⟨i, hi, rfl⟩ := List.mem_map.mp hx
            rw [List.mem_range] at hi
            have a1 := hgw i (by omega)
            have a2 := hgw (i + 1) (by omega)
            exact ⟨by rw [List.length_append]; omega, by rw [List.length_append]; omega, a1.1.app a2.1⟩
        have hWl : (w0 :: (List.range r.length).map (fun i => (w0 :: r).getD i [] ++ (w0 :: r).getD (i + 1) [])).length = r.length + 1 := by simp
        have hL1 : H1 l = some (HO.lst ((w0 :: r).map sv)) := same_at e1 (new_at hp1 hw)
        have hlp : l ≠ p2 := fun z => by rw [z] at hL1; rw [hL1] at hp2; cases hp2
        generalize (w0 :: (List.range r.length).map (fun i => (w0 :: r).getD i [] ++ (w0 :: r).getD (i + 1) [])) = W at *
        have last : ∃ v, ((w0 :: r).map sv).getLast? = some (sv v) ∧ Word v := by
          refine ⟨(w0 :: r).getLast (List.cons_ne_nil _ _), ?_, ?_⟩
          · rw [List.getLast?_map, List.getLast?_eq_some_getLast (List.cons_ne_nil _ _)]; rfl
          · have := hws _ (List.getLast_mem (List.cons_ne_nil w0 r))
            exact ⟨this.2.1, by omega, this.1⟩
        obtain ⟨v, hv, wv⟩ := last
        have wl : (W.map sv).length < 100000 := by rw [List.length_map]; omega
        fail "gi"
        refine itd (fun e => ?_) fun e => ?_
        · fail "gi"
          rw [show W.map sv ++ [sv v] = (W ++ [v]).map sv by rw [List.map_append]; rfl]
          have hW2 : ∀ x ∈ W ++ [v], Word x := fun x hx => by
            rcases List.mem_append.mp hx with h | h
            · exact hW x h
            · rw [List.mem_singleton.mp h]; exact wv
          have wl2 : (W ++ [v]).length = r.length + 2 := by rw [List.length_append, hWl]; rfl
          generalize W ++ [v] = W2 at *
          have wl3 : 0 < (W2.map sv).length := by rw [List.length_map]; omega
          fail "gi"
          have i0 := Int.emod_nonneg (cell ns (k + 2)) (show ((W2.map sv).length : Int) ≠ 0 by omega)
          refine And.intro (by rw [rot_len W2 i0]; omega) fun p5 hp5 => ?_
          rw [rot W2 i0]
          refine q _ ?_ ?_ (fun w hw => hW2 w (rot_mem hw)) _ _ (by fail "same") (by fail "fr") upd_same
          · intro z
            have := congrArg List.length z
            rw [List.length_append, List.length_drop, List.length_take, List.length_nil] at this
            omega
          · rw [List.length_append, List.length_drop, List.length_take]; omega
        · have wl3 : 0 < (W.map sv).length := by rw [List.length_map]; omega
          fail "gi"
          have i0 := Int.emod_nonneg (cell ns (k + 2)) (show ((W.map sv).length : Int) ≠ 0 by omega)
          refine And.intro (by rw [rot_len W i0]; omega) fun p5 hp5 => ?_
          rw [rot W i0]
          refine q _ ?_ ?_ (fun w hw => hW w (rot_mem hw)) _ _ (by fail "same") (by fail "fr") upd_same
          · intro z
            have := congrArg List.length z
            rw [List.length_append, List.length_drop, List.length_take, List.length_nil] at this
            omega
          · rw [List.length_append, List.length_drop, List.length_take]; omega

set_option hygiene false in
local macro_rules | `(tactic| fail "w1") => `(tactic| (
  refine itn (fun hx => ?_) fun hx => ?_
  · fail "gi"
    refine ⟨ws ++ [y], _, _, _, rfl, by fail "same", by rw [upd_same, List.map_append]; rfl, List.nodup_append.mpr ⟨a3, by simp, fun a ha b hb => by rw [List.mem_singleton.mp hb]; exact fun z => hx (z ▸ ha)⟩, by rw [List.length_append]; exact Nat.succ_le_succ a4, ?_⟩
    intro w hw
    rcases List.mem_append.mp hw with h | h
    · exact a5 w h
    · rw [List.mem_singleton.mp h]; exact hy
  · exact ⟨ws, _, _, _, rfl, by fail "same", by fail "look", a3, by omega, a5⟩))
abbrev s_law_words : Stmt := top 48
theorem sc_law_words : FnScope ["_law_script", "_law_first", "_law_cell", "_law_signs_here", "_law_words_here", "_law_word_here", "_law_k", "_law_one"] ["_law_script", "_law_first"] (defScope s_law_words) := ⟨rfl, rfl, rfl, by decide +kernel, rfl, by decide +kernel, by decide +kernel⟩
def sp_law_words (K : PySem.W.Frag) : Sp := fun vs H Q _ => ∃ (p : Addr) (k : Int), vs = [.ref p, .int k] ∧ ∃ ns : List Int, SqL K H p (ns.map V.int) ∧ 0 ≤ k ∧ ∀ ws : List Wd, Code ws → RetL H Q (ws.map sv)
theorem ok_law_words (B : Bi mg) (D : Def K mg "_law_words" s_law_words) (c_law_at : Cal P w K mg base CX0 "_law_at" 1 ["_law_script", "_law_k"] (sp_law_at K)) (c_law_signs : Cal P w K mg base CX0 "_law_signs" 1 ["_law_cell"] sp_law_signs) (c_law_chain : Cal P w K mg base CX0 "_law_chain" 3 ["_law_script", "_law_first", "_law_signs_here"] (sp_law_chain K)) (c_law_mixed : Cal P w K mg base CX0 "_law_mixed" 1 ["_law_cell", "_law_k"] sp_law_mixed) (c_law_word : Cal P w K mg base CX0 "_law_word" 2 ["_law_cell", "_law_signs_here"] sp_law_word) (c_law_any_word : Cal P w K mg base CX0 "_law_any_word" 1 ["_law_cell"] sp_law_any_word) (c_law_more : Cal P w K mg base CX0 "_law_more" 3 ["_law_words_here", "_law_cell", "_law_signs_here"] sp_law_more) : Cal P w K mg base CX0 "_law_words" 4 ["_law_script", "_law_first"] (sp_law_words K) := by
  have nd := sc_law_words.nd
  refine D.cal sc_law_words (fun _ _ _ _ _ _ us hl => match us, hl with | [_, _], _ => rfl) (fun vs H Q E h => ?_) (fun f cdv A outer s H vs Q E hr h => ?_)
  · obtain ⟨_, _, rfl, _⟩ := h
    rfl
  · obtain ⟨p, k, rfl, ns, hS, hk, q⟩ := h
    refine ⟨_, PSs.nox (pss_cons (ps_set (i := 2) nd rfl (.inl rfl) (pe_cal c_law_at hr (pa_cons (pv 0) (pa_cons (pv 1) pa_nil))))
      (pss_cons (ps_set (i := 3) nd rfl (.inl rfl) (pe_cal c_law_signs hr (pa_cons (pe_cal c_law_at hr (pa_cons (pv 0) (pa_cons (pe_op op_add (pv 1) pe_int) pa_nil))) pa_nil)))
      (pss_cons (ps_set (i := 4) nd rfl (.inl rfl) (pe_lst pa_nil))
      (pss_cons (ps_if (pt_cmpR op_eqn (pe_op op_mod (pe_op op_fdiv (pv 2) pe_int) pe_int) pe_int (nomark _))
        (pss_cons (ps_for PassesOwn.never rfl (pi_list (pe_cal c_law_chain hr (pa_cons (pv 0) (pa_cons (pv 1) (pa_cons (pv 3) pa_nil))))) (pg_name (i := 5) nd rfl (.inl rfl))
          (pss_one (ps_if (pt_cmpR (r := rInW K true) op_niw (pv 5) (pv 4) (by rfl))
            (pss_one (ps_expr (pe_bm PySem.F.plainAttrs_list PySem.F.slot_list_append PySem.F.type_list_append mt_app (pv 4) (pa_cons (pv 5) pa_nil))))
            pss_nil)))
        (pss_one (ps_ret (pv 4))))
        pss_nil)
      (pss_cons (ps_for PassesOwn.never rfl (pi_range1 (by rfl) B.range (pa_cons (pe_ix (r := rIxLn K) ix_l (pe_lst (pa_cons pe_int (pa_cons pe_int (pa_cons pe_int (pa_cons pe_int (pa_cons pe_int (pa_cons pe_int (pa_cons pe_int (pa_cons pe_int (pa_cons pe_int (pa_cons pe_int pa_nil))))))))))) (pe_op op_mod (pv 2) pe_int) (fun _ _ => rfl)) pa_nil)) (pg_name (i := 6) nd rfl (.inl rfl))
        (pss_cons (ps_set (i := 7) nd rfl (.inl rfl) (pe_cal c_law_at hr (pa_cons (pv 0) (pa_cons (pe_op op_add (pe_op op_add (pv 1) pe_int) (pe_op op_mod (pv 6) pe_int)) pa_nil))))
        (pss_cons (ps_set (i := 5) nd rfl (.inl rfl) (pe_cal c_law_word hr (pa_cons (pe_cal c_law_mixed hr (pa_cons (pv 7) (pa_cons (pv 6) pa_nil))) (pa_cons (pv 3) pa_nil))))
        (pss_cons (ps_if (pt_cmpR op_eqn (pe_op op_mod (pe_op op_fdiv (pv 2) pe_int) pe_int) pe_int (nomark _))
          (pss_one (ps_set (i := 5) nd rfl (.inl rfl) (pe_cal c_law_any_word hr (pa_cons (pe_op op_add (pv 7) (pv 6)) pa_nil))))
          (pss_one (ps_if (PW.pt (pw_and (pt_cmpR (r := rNeP K) (op_nep hr.units) (pv 4) (pe_lst pa_nil) (nomark _)) (pw_and1 (pt_cmpR op_eqn (pe_op op_mod (pe_op op_fdiv (pe_cal c_law_mixed hr (pa_cons (pv 7) (pa_cons (pv 6) pa_nil))) pe_int) pe_int) pe_int (nomark _)))))
            (pss_one (ps_set (i := 5) nd rfl (.inl rfl) (pe_cal c_law_more hr (pa_cons (pv 4) (pa_cons (pe_cal c_law_mixed hr (pa_cons (pv 7) (pa_cons (pe_op op_add (pv 6) pe_int) pa_nil))) (pa_cons (pv 3) pa_nil))))))
            pss_nil)))
        (pss_one (ps_if (pt_cmpR (r := rInW K true) op_niw (pv 5) (pv 4) (by rfl))
          (pss_one (ps_expr (pe_bm PySem.F.plainAttrs_list PySem.F.slot_list_append PySem.F.type_list_append mt_app (pv 4) (pa_cons (pv 5) pa_nil))))
          pss_nil))))))
      (pss_one (ps_ret (pv 4)))))))), ?_⟩
    try dsimp only [cxOf, Cx.nox, Cx.wish]
    fail "gi"
    intro g hg hgl hA
    fail "gi"
    rename_i H1 s1 l hl
    refine itd (fun e => ?_) fun e => ?_
    · fail "gi"
      intro cs hc hcl hcw
      fail "gi"
      rename_i pc H2 s2 np hpc
      have ne : pc ≠ l := by fail "ne"
      refine for_wl (xs := cs) (j := 5) (fun pre σ' H' => ∃ (ws : List Wd) (x5 : Option V), σ' = [some (.ref p), some (.int k), some (.int (cell ns k)), some (sv g), some (.ref l), x5, none, none] ∧ Same H H' ∧ H' pc = some (.lst (cs.map sv)) ∧ H' l = some (.lst (ws.map sv)) ∧ ws.Nodup ∧ ws.length ≤ pre.length ∧ ∀ w ∈ ws, w ∈ pre) ⟨[], none, rfl, by fail "same", hpc, same_at s2 upd_same, List.nodup_nil, Nat.zero_le _, fun _ h => nomatch h⟩ ?_ ?_ ?_
      · rintro pre σ' H' ⟨ws, x5, rfl, a1, a2, a3, a4, a5, a6⟩
        exact SqL.of a2
      · rintro pre x post σ' H' ex ⟨ws, x5, rfl, a1, a2, a3, a4, a5, a6⟩
        have hxl : cs.length = pre.length + (post.length + 1) := by rw [ex, List.length_append, List.length_cons]
        have hm : (ws.map sv).length < 100000 := by rw [List.length_map]; omega
        fail "gi"
        refine itn (fun hx => ?_) fun hx => ?_
        · fail "gi"
          refine ⟨ws ++ [x], _, rfl, by fail "same", by fail "look", ?_, ?_, ?_, ?_⟩
          · rw [upd_same, List.map_append]; rfl
          · exact List.nodup_append.mpr ⟨a4, by simp, fun a ha b hb => by rw [List.mem_singleton.mp hb]; exact fun z => hx (z ▸ ha)⟩
          · rw [List.length_append, List.length_append]; exact Nat.succ_le_succ a5
          · intro w hw
            rcases List.mem_append.mp hw with h | h
            · exact List.mem_append_left _ (a6 w h)
            · exact List.mem_append_right _ h
        · exact ⟨ws, _, rfl, a1, a2, a3, a4, by rw [List.length_append]; omega, fun w hw => List.mem_append_left _ (a6 w hw)⟩
      · rintro σ' H' ⟨ws, x5, rfl, a1, a2, a3, a4, a5, a6⟩
        fail "gi"
        exact q ws ⟨a4, by omega, fun w hw => hcw w (a6 w hw)⟩ _ _ a1 (by fail "fr") a3
    · fail "gi"
      refine ex_pick (Int.emod_nonneg _ (by decide)) (Int.emod_lt_of_pos _ (by decide)) fun v hv => ?_
      obtain ⟨n, rfl, hn0, hn⟩ : ∃ n : Int, v = .int n ∧ 0 ≤ n ∧ n ≤ 12 := by
        simp only [List.mem_append, List.mem_cons, List.not_mem_nil, or_false] at hv
        rcases hv with rfl | rfl | rfl | rfl | rfl | rfl | rfl | rfl | rfl | rfl <;> exact ⟨_, rfl, by decide, by decide⟩
      fail "gi"
      refine for_range (fun i σ' H' => ∃ (ws : List Wd) (x5 x6 x7 : Option V), σ' = [some (.ref p), some (.int k), some (.int (cell ns k)), some (sv g), some (.ref l), x5, x6, x7] ∧ Same H H' ∧ H' l = some (.lst (ws.map sv)) ∧ ws.Nodup ∧ ws.length ≤ i ∧ ∀ w ∈ ws, Word w) ⟨[], none, none, none, rfl, by fail "same", by fail "look", List.nodup_nil, Nat.zero_le _, fun _ h => nomatch h⟩ ?_ ?_
      · rintro i σ' H' hi ⟨ws, x5, x6, x7, rfl, a1, a2, a3, a4, a5⟩
        have hm : (ws.map sv).length < 100000 := by rw [List.length_map]; omega
        have ho := ok_strs ws
        have hoe : okD (.list []) = true := rfl
        fail "gi"
        intro y hy
        fail "gi"
        refine itd (fun e1 => ?_) fun e1 => ?_
        · fail "gi"
          intro y hy
          fail "gi"
          fail "w1"
        · fail "gi"
          rw [show (PyData.list []) = PyData.list (([] : List Wd).map sd) from rfl, eqv_strs]
          refine itn (fun e2 => ?_) fun e2 => ?_
          · fail "gi"
            refine itd (fun e3 => ?_) fun e3 => ?_
            · fail "gi"
              intro y hy
              fail "gi"
              fail "w1"
            · fail "gi"
              fail "w1"
          · fail "gi"
            fail "w1"
      · rintro σ' H' ⟨ws, x5, x6, x7, rfl, a1, a2, a3, a4, a5⟩
        fail "gi"
        exact q ws ⟨a3, by omega, a5⟩ _ _ a1 (by fail "fr") a2

abbrev s_law_row : Stmt := top 49
theorem sc_law_row : FnScope ["_law_script", "_law_first", "_law_words_here", "_law_most", "_law_row_here", "_law_k"] ["_law_script", "_law_first", "_law_words_here", "_law_most"] (defScope s_law_row) := ⟨rfl, rfl, rfl, by decide +kernel, rfl, by decide +kernel, by decide +kernel⟩
def sp_law_row (K : PySem.W.Frag) : Sp := fun vs H Q _ => ∃ (p : Addr) (k : Int) (lw : Addr) (m : Int), vs = [.ref p, .int k, .ref lw, .int m] ∧ ∃ ns : List Int, SqL K H p (ns.map V.int) ∧ ∃ ws : List Wd, H lw = some (.lst (ws.map sv)) ∧ 0 ≤ k ∧ 0 ≤ m ∧ m ≤ 100 ∧ ∀ rs : List Wd, (rs.length : Int) ≤ m → (∀ r ∈ rs, r ∈ ws) → RetL H Q (rs.map sv)
theorem ok_law_row (B : Bi mg) (D : Def K mg "_law_row" s_law_row) (c_law_at : Cal P w K mg base CX0 "_law_at" 1 ["_law_script", "_law_k"] (sp_law_at K)) (c_law_mixed : Cal P w K mg base CX0 "_law_mixed" 1 ["_law_cell", "_law_k"] sp_law_mixed) : Cal P w K mg base CX0 "_law_row" 2 ["_law_script", "_law_first", "_law_words_here", "_law_most"] (sp_law_row K) := by
  have nd := sc_law_row.nd
  refine D.cal sc_law_row (fun _ _ _ _ _ _ us hl => match us, hl with | [_, _, _, _], _ => rfl) (fun vs H Q E h => ?_) (fun f cdv A outer s H vs Q E hr h => ?_)
  · obtain ⟨_, _, _, _, rfl, _⟩ := h
    rfl
  · obtain ⟨p, k, lw, m, rfl, ns, hS, ws, hw, hk, hm0, hm, q⟩ := h
    refine ⟨_, PSs.nox (pss_cons (ps_set (i := 4) nd rfl (.inl rfl) (pe_lst pa_nil))
      (pss_cons (ps_if (pt_cmpR (r := rNeP K) (op_nep hr.units) (pv 2) (pe_lst pa_nil) (nomark _))
        (pss_one (ps_for PassesOwn.never rfl (pi_range1 (by rfl) B.range (pa_cons (pe_op op_mod (pe_cal c_law_at hr (pa_cons (pv 0) (pa_cons (pv 1) pa_nil))) (pe_op op_add (pv 3) pe_int)) pa_nil)) (pg_name (i := 5) nd rfl (.inl rfl))
          (pss_one (ps_expr (pe_bm PySem.F.plainAttrs_list PySem.F.slot_list_append PySem.F.type_list_append mt_app (pv 4) (pa_cons (pe_ix (r := rIxLn K) ix_l (pv 2) (pe_op op_mod (pe_op op_fdiv (pe_cal c_law_mixed hr (pa_cons (pe_cal c_law_at hr (pa_cons (pv 0) (pa_cons (pe_op op_add (pe_op op_add (pv 1) pe_int) (pe_op op_mod (pv 5) pe_int)) pa_nil))) (pa_cons (pv 5) pa_nil))) pe_int) (pe_callB (r := rLenL K) call_lenl (by rfl) B.len PySem.boot_len (pa_cons (pv 2) pa_nil))) (fun _ _ => rfl)) pa_nil))))))
        pss_nil)
      (pss_one (ps_ret (pv 4))))), ?_⟩
    try dsimp only [cxOf, Cx.nox, Cx.wish]
    have ho := ok_strs ws
    have hoe : okD (.list []) = true := rfl
    have c0 := Int.emod_nonneg (cell ns k) (show m + 1 ≠ 0 by omega)
    have c1 := Int.emod_lt_of_pos (cell ns k) (show 0 < m + 1 by omega)
    fail "gi"
    rw [show (PyData.list []) = PyData.list (([] : List Wd).map sd) from rfl, eqv_strs]
    rename_i l hl _ _
    refine itn (fun e2 => ?_) fun e2 => ?_
    · have hn' : ws.map sv ≠ [] := fun z => e2 (List.map_eq_nil_iff.mp z)
      have hpos : 0 < (ws.map sv).length := List.length_pos_iff.mpr hn'
      fail "gi"
      have nl : l ≠ lw := ne_free hl hw
      have nl' := nl.symm
      refine for_range (fun i σ' H' => ∃ (rs : List Wd) (x5 : Option V), σ' = [some (.ref p), some (.int k), some (.ref lw), some (.int m), some (.ref l), x5] ∧ Same H H' ∧ H' l = some (.lst (rs.map sv)) ∧ rs.length = i ∧ ∀ r ∈ rs, r ∈ ws) ⟨[], none, rfl, by fail "same", by fail "look", rfl, fun _ h => nomatch h⟩ ?_ ?_
      · rintro i σ' H' hi ⟨rs, x5, rfl, a1, a2, a3, a4⟩
        have hm : (rs.map sv).length < 100000 := by rw [List.length_map]; omega
        fail "gi"
        refine ex_pickm hn' fun v hv => ?_
        obtain ⟨y, hy, rfl⟩ := List.mem_map.mp hv
        fail "gi"
        refine ⟨rs ++ [y], _, rfl, by fail "same", by fail "look", by rw [List.length_append, a3]; rfl, ?_⟩
        intro w hw
        rcases List.mem_append.mp hw with h | h
        · exact a4 w h
        · rw [List.mem_singleton.mp h]; exact hy
      · rintro σ' H' ⟨rs, x5, rfl, a1, a2, a3, a4⟩
        fail "gi"
        exact q rs (by omega) a4 _ _ a1 (by fail "fr") a2
    · fail "gi"
      exact q [] (by exact hm0) (fun _ h => nomatch h) _ _ (by fail "same") (by fail "fr") (by fail "look")
abbrev s_law_text : Stmt := top 50
theorem sc_law_text : FnScope ["_law_script", "_law_first", "_law_words_here", "_law_text_here", "_law_cell", "_law_at_here", "_law_sign", "_law_some"] ["_law_script", "_law_first", "_law_words_here"] (defScope s_law_text) := ⟨rfl, rfl, rfl, by decide +kernel, rfl, by decide +kernel, by decide +kernel⟩
theorem flat_len {B : Nat} : ∀ {rs : List Wd}, (∀ r ∈ rs, r.length ≤ B) → rs.flatten.length ≤ rs.length * B
  | [], _ => Nat.zero_le _
  | r :: rs, h => by
    have h1 := h r List.mem_cons_self
    have h2 := flat_len (B := B) (rs := rs) fun x hx => h x (List.mem_cons_of_mem _ hx)
    rw [List.flatten_cons, List.length_append, List.length_cons, Nat.succ_mul]
    omega
theorem flat_abc {rs : List Wd} (h : ∀ r ∈ rs, Abc r) : Abc rs.flatten := fun c hc => by
  obtain ⟨r, hr, h2⟩ := List.mem_flatten.mp hc
  exact h r hr c h2
def sp_law_text (K : PySem.W.Frag) : Sp := fun vs H Q _ => ∃ (p : Addr) (k : Int) (lw : Addr), vs = [.ref p, .int k, .ref lw] ∧ ∃ ns : List Int, SqL K H p (ns.map V.int) ∧ ∃ ws : List Wd, H lw = some (.lst (ws.map sv)) ∧ 0 ≤ k ∧ Code ws ∧ ∀ t : Wd, t.length ≤ 81 → Abc t → Ret H Q (sv t)
theorem ok_law_text (B : Bi mg) (D : Def K mg "_law_text" s_law_text) (c_law_row : Cal P w K mg base CX0 "_law_row" 2 ["_law_script", "_law_first", "_law_words_here", "_law_most"] (sp_law_row K)) (c_law_at : Cal P w K mg base CX0 "_law_at" 1 ["_law_script", "_law_k"] (sp_law_at K)) : Cal P w K mg base CX0 "_law_text" 3 ["_law_script", "_law_first", "_law_words_here"] (sp_law_text K) := by
  have nd := sc_law_text.nd
  refine D.cal sc_law_text (fun _ _ _ _ _ _ us hl => match us, hl with | [_, _, _], _ => rfl) (fun vs H Q E h => ?_) (fun f cdv A outer s H vs Q E hr h => ?_)
  · obtain ⟨_, _, _, rfl, _⟩ := h
    rfl
  · obtain ⟨p, k, lw, rfl, ns, hS, ws, hw, hk, hc, q⟩ := h
    refine ⟨_, PSs.nox (pss_cons (ps_set (i := 3) nd rfl (.inl rfl) (pe_m1 (r := rJoW K) PySem.F.slot_str_join PySem.F.type_str_join mt_jow (pe_w [] rfl) (pe_cal c_law_row hr (pa_cons (pv 0) (pa_cons (pv 1) (pa_cons (pv 2) (pa_cons pe_int pa_nil)))))))
      (pss_cons (ps_set (i := 4) nd rfl (.inl rfl) (pe_cal c_law_at hr (pa_cons (pv 0) (pa_cons (pe_op op_add (pv 1) pe_int) pa_nil))))
      (pss_cons (ps_set (i := 5) nd rfl (.inl rfl) (pe_op op_mod (pe_op op_fdiv (pv 4) pe_int) (pe_op op_add (pe_callB call_lenw (by rfl) B.len PySem.boot_len (pa_cons (pv 3) pa_nil)) pe_int)))
      (pss_cons (ps_set (i := 6) nd rfl (.inl rfl) (pe_ix ix_w (pe_m1 (r := rJoW K) PySem.F.slot_str_join PySem.F.type_str_join mt_jow (pe_w [] rfl) (pe_op op_catl (pv 2) (pe_lst (pa_cons (pe_w [113] rfl) pa_nil)))) (pe_op op_mod (pe_op op_fdiv (pv 4) pe_int) (pe_callB call_lenw (by rfl) B.len PySem.boot_len (pa_cons (pe_m1 (r := rJoW K) PySem.F.slot_str_join PySem.F.type_str_join mt_jow (pe_w [] rfl) (pe_op op_catl (pv 2) (pe_lst (pa_cons (pe_w [113] rfl) pa_nil)))) pa_nil))) (fun _ _ => rfl)))
      (pss_cons (ps_set (i := 7) nd rfl (.inl rfl) (pe_lst (pa_cons (pv 3) (pa_cons (pv 3) (pa_cons (pv 3) (pa_cons (pv 3) (pa_cons (pe_op op_addw (pe_op op_addw (pe_slice (r := rSlW) sl_w (pv 3) po_none (po_some (pv 5))) (pv 6)) (pe_slice (r := rSlW) sl_w (pv 3) (po_some (pv 5)) po_none)) (pa_cons (pe_op op_addw (pe_slice (r := rSlW) sl_w (pv 3) po_none (po_some (pv 5))) (pe_slice (r := rSlW) sl_w (pv 3) (po_some (pe_op op_add (pv 5) pe_int)) po_none)) (pa_cons (pe_slice (r := rSlW) sl_w (pv 3) po_none (po_some (pv 5))) pa_nil)))))))))
      (pss_one (ps_ret (pe_ix (r := rIxLn K) ix_l (pe_op op_catl (pv 7) (pe_lst (pa_cons (pe_op op_addw (pe_op op_addw (pe_slice (r := rSlW) sl_w (pv 3) po_none (po_some (pv 5))) (pv 6)) (pe_slice (r := rSlW) sl_w (pv 3) (po_some (pe_op op_add (pv 5) pe_int)) po_none)) pa_nil))) (pe_op op_mod (pv 4) pe_int) (fun _ _ => rfl))))))))), ?_⟩
    try dsimp only [cxOf, Cx.nox, Cx.wish]
    fail "gi"
    intro rs hrl hrs
    have f1 : rs.flatten.length ≤ rs.length * 10 := flat_len fun r h => (hc.wd r (hrs r h)).2.1
    have f2 : Abc rs.flatten := flat_abc fun r h => (hc.wd r (hrs r h)).abc
    have f3 : (ws ++ [[113]]).flatten.length ≤ (ws ++ [[113]]).length * 10 := flat_len fun r h => (List.mem_append.mp h).elim (fun h => (hc.wd r h).2.1) fun h => by rw [List.mem_singleton.mp h]; decide
    have f4 : Abc (ws ++ [[113]]).flatten := flat_abc fun r h => (List.mem_append.mp h).elim (fun h => (hc.wd r h).abc) fun h => by rw [List.mem_singleton.mp h]; unfold Abc; decide
    have f5 : (ws ++ [[113]]).flatten ≠ [] := by simp
    have f6 : (ws ++ [[113]]).length ≤ 13 := by rw [List.length_append]; exact Nat.succ_le_succ hc.le
    have hcl := hc.le
    have f7 : 0 < (ws ++ [[113]]).flatten.length := List.length_pos_iff.mpr f5
    fail "gi"
    refine ex_pickm f5 fun x hx => ?_
    have hx' : Abc [x] := fun c hc => by rw [List.mem_singleton.mp hc]; exact f4 x hx
    generalize rs.flatten = t at *
    have i0 := Int.emod_nonneg (cell ns (k + 6) / 8) (show ((t.length : Int) + 1) ≠ 0 by omega)
    have i1 := Int.emod_lt_of_pos (cell ns (k + 6) / 8) (show (0 : Int) < (t.length : Int) + 1 by omega)
    have k1 := cutW_len t none (some (cell ns (k + 6) / 8 % ((t.length : Int) + 1)))
    have k2 := cutW_len t (some (cell ns (k + 6) / 8 % ((t.length : Int) + 1))) none
    have k3 := cutW_len t (some (cell ns (k + 6) / 8 % ((t.length : Int) + 1) + 1)) none
    have k4 : (cutW t none (some (cell ns (k + 6) / 8 % ((t.length : Int) + 1)))).length + (cutW t (some (cell ns (k + 6) / 8 % ((t.length : Int) + 1))) none).length = t.length := by
      rw [cutW_toI t i0, cutW_fromI t i0, List.length_take, List.length_drop]; omega
    have k5 : (cutW t none (some (cell ns (k + 6) / 8 % ((t.length : Int) + 1)))).length + (cutW t (some (cell ns (k + 6) / 8 % ((t.length : Int) + 1) + 1)) none).length ≤ t.length := by
      rw [cutW_toI t i0, cutW_fromI t (by omega), List.length_take, List.length_drop]; omega
    fail "gi"
    refine ex_pick (Int.emod_nonneg _ (by decide)) (Int.emod_lt_of_pos _ (by decide)) fun v hv => ?_
    obtain ⟨t', rfl, h1, h2⟩ : ∃ a : Wd, v = sv a ∧ a.length ≤ 81 ∧ Abc a := by
      simp only [List.mem_append, List.mem_cons, List.not_mem_nil, or_false] at hv
      have e1 := cutW_abc f2 none (some (cell ns (k + 6) / 8 % ((t.length : Int) + 1)))
      have e2 := cutW_abc f2 (some (cell ns (k + 6) / 8 % ((t.length : Int) + 1))) none
      have e3 := cutW_abc f2 (some (cell ns (k + 6) / 8 % ((t.length : Int) + 1) + 1)) none
      rcases hv with (rfl | rfl | rfl | rfl | rfl | rfl | rfl) | rfl
      · exact ⟨_, rfl, by omega, f2⟩
      · exact ⟨_, rfl, by omega, f2⟩
      · exact ⟨_, rfl, by omega, f2⟩
      · exact ⟨_, rfl, by omega, f2⟩
      · exact ⟨_, rfl, by simp only [List.length_append, List.length_cons, List.length_nil]; omega, (e1.app hx').app e2⟩
      · exact ⟨_, rfl, by simp only [List.length_append]; omega, e1.app e3⟩
      · exact ⟨_, rfl, by omega, e1⟩
      · exact ⟨_, rfl, by simp only [List.length_append, List.length_cons, List.length_nil]; omega, (e1.app hx').app e3⟩
    fail "gi"
    exact q t' h1 h2 _ (by fail "same")

/-! ### the counts of partings -/
def fits (t : Wd) (p : Nat) (w : Wd) : Bool := decide ((t.drop p).take w.length = w)
/-- the counts at the last d + 1 places -/
def tab (ws : List Wd) (t : Wd) : Nat → List Int
  | 0 => [1]
  | d + 1 => ((ws.filter (fits t (t.length - (d + 1)))).map fun w => (tab ws t d).getD (w.length - 1) 0).sum :: tab ws t d
def cnt (ws : List Wd) (t : Wd) : List Int := tab ws t t.length
theorem tab_len (ws : List Wd) (t : Wd) : ∀ d, (tab ws t d).length = d + 1
  | 0 => rfl
  | d + 1 => by show (tab ws t d).length + 1 = _; rw [tab_len ws t d]
def part (t : Wd) (p : Nat) (r : List Int) (ws : List Wd) : Int := ((ws.filter (fits t p)).map fun w => r.getD (w.length - 1) 0).sum
theorem part_snoc (t : Wd) (p : Nat) (r : List Int) (ws : List Wd) (w : Wd) : part t p r (ws ++ [w]) = if (t.drop p).take w.length = w then part t p r ws + r.getD (w.length - 1) 0 else part t p r ws := by
  unfold part
  rw [List.filter_append, List.map_append, List.sum_append]
  by_cases h : (t.drop p).take w.length = w
  · rw [if_pos h, List.filter_cons_of_pos (by unfold fits; exact decide_eq_true h)]; simp
  · rw [if_neg h, List.filter_cons_of_neg (by unfold fits; simpa using h)]; simp
theorem at_mid {a : Nat} {s : Int} {r : List Int} {k : Int} (h : k.toNat = a) : ((List.replicate a 0 ++ s :: r).map V.int)[k.toNat]? = some (.int s) := by
  rw [h, List.getElem?_map, List.getElem?_append_right (by simp)]; simp
theorem at_after {a j : Nat} {s : Int} {r : List Int} {k : Int} (h : k.toNat = a + 1 + j) (hj : j < r.length) : ((List.replicate a 0 ++ s :: r).map V.int)[k.toNat]? = some (.int (r.getD j 0)) := by
  rw [h, List.getElem?_map, List.getElem?_append_right (by simp; omega), List.length_replicate, show a + 1 + j - a = j + 1 by omega, List.getElem?_cons_succ, List.getD_eq_getElem?_getD, List.getElem?_eq_getElem hj]; rfl
theorem set_mid {a : Nat} {s v : Int} {r : List Int} {k : Int} (h : k.toNat = a) : ((List.replicate a 0 ++ s :: r).map V.int).set k.toNat (.int v) = (List.replicate a 0 ++ v :: r).map V.int := by
  rw [h, List.map_append, List.map_append, List.set_append_right _ _ (by simp)]; simp
abbrev s_law_counts : Stmt := top 51
theorem sc_law_counts : FnScope ["_law_words_here", "_law_text_here", "_law_found", "_law_place", "_law_word_here"] ["_law_words_here", "_law_text_here"] (defScope s_law_counts) := ⟨rfl, rfl, rfl, by decide +kernel, rfl, by decide +kernel, by decide +kernel⟩
def sp_law_counts : Sp := fun vs H Q _ => ∃ (lw : Addr) (t : Wd), vs = [.ref lw, sv t] ∧ ∃ ws : List Wd, H lw = some (.lst (ws.map sv)) ∧ Code ws ∧ t.length ≤ 5000 ∧ RetL H Q ((cnt ws t).map V.int)
theorem ok_law_counts (B : Bi mg) (D : Def K mg "_law_counts" s_law_counts) : Cal P w K mg base CX0 "_law_counts" 2 ["_law_words_here", "_law_text_here"] sp_law_counts := by
  have nd := sc_law_counts.nd
  refine D.cal sc_law_counts (fun _ _ _ _ _ _ us hl => match us, hl with | [_, _], _ => rfl) (fun vs H Q E h => ?_) (fun f cdv A outer s H vs Q E hr h => ?_)
  · obtain ⟨_, _, rfl, _⟩ := h
    rfl
  · obtain ⟨lw, t, rfl, ws, hw, hc, ht, q⟩ := h
    refine ⟨_, PSs.nox (pss_cons (ps_set (i := 2) nd rfl (.inl rfl) (pe_op op_catl (pe_op op_repn (pe_lst (pa_cons pe_int pa_nil)) (pe_callB call_lenw (by rfl) B.len PySem.boot_len (pa_cons (pv 1) pa_nil))) (pe_lst (pa_cons pe_int pa_nil))))
      (pss_cons (ps_for PassesOwn.never rfl (pi_revR (by rfl) B.reversed (prg_1 (by rfl) B.range (pe_callB call_lenw (by rfl) B.len PySem.boot_len (pa_cons (pv 1) pa_nil)))) (pg_name (i := 3) nd rfl (.inl rfl))
        (pss_one (ps_for PassesOwn.never rfl (pi_list (pv 0)) (pg_name (i := 4) nd rfl (.inl rfl))
          (pss_one (ps_if (pt_cmpR op_eqw (pe_slice (r := rSlW) sl_w (pv 1) (po_some (pv 3)) (po_some (pe_op op_add (pv 3) (pe_callB call_lenw (by rfl) B.len PySem.boot_len (pa_cons (pv 4) pa_nil))))) (pv 4) (nomark _))
            (pss_one (ps_asg (pe_op op_add (pe_ix (r := rIxLn K) ix_l (pv 2) (pv 3) (fun _ _ => rfl)) (pe_ix (r := rIxLn K) ix_l (pv 2) (pe_op op_add (pv 3) (pe_callB call_lenw (by rfl) B.len PySem.boot_len (pa_cons (pv 4) pa_nil))) (fun _ _ => rfl))) (pg_sub (t := rSetLn) (pv 2) (pv 3) set_ln)))
            pss_nil)))))
      (pss_one (ps_ret (pv 2))))), ?_⟩
    try dsimp only [cxOf, Cx.nox, Cx.wish]
    fail "gi"
    rename_i p1 hp1 p2 hp2 p3 hp3 l hl
    have nl : lw ≠ l := (ne_free hl (by fail "look" : _ = some (HO.lst (ws.map sv)))).symm
    refine for_rangeC (fun i σ' H' => ∃ (x3 x4 : Option V), σ' = [some (.ref lw), some (sv t), some (.ref l), x3, x4] ∧ Same H H' ∧ H' l = some (.lst ((List.replicate (t.length - i) 0 ++ tab ws t i).map V.int))) ⟨none, none, rfl, by fail "same", by rw [upd_same]; simp [tab]⟩ ?_ ?_
    · rintro i σ' H' hi ⟨x3, x4, rfl, a1, a2⟩
      have hi' : i < t.length := by omega
      have e1 : t.length - i = (t.length - (i + 1)) + 1 := by omega
      rw [e1, List.replicate_succ'] at a2
      have e2 : (0 + (((t.length : Int) - 0).toNat : Int) - 1 + (i : Int) * -1) = ((t.length - (i + 1) : Nat) : Int) := by omega
      rw [e2]
      fail "gi"
      have tl := tab_len ws t i
      refine for_wl (xs := ws) (j := 4) (fun pre σ' H' => ∃ (x4 : Option V), σ' = [some (.ref lw), some (sv t), some (.ref l), some (.int (t.length - (i + 1) : Nat)), x4] ∧ Same H H' ∧ H' l = some (.lst ((List.replicate (t.length - (i + 1)) 0 ++ part t (t.length - (i + 1)) (tab ws t i) pre :: tab ws t i).map V.int))) ⟨x4, rfl, a1, ?_⟩ ?_ ?_ ?_
      · rw [a2, List.append_assoc]; rfl
      · rintro pre σ' H' ⟨x4, rfl, b1, b2⟩
        fail "seq"
      · rintro pre x post σ' H' ex ⟨x4, rfl, b1, b2⟩
        have hx : Word x := hc.wd x (by rw [ex]; simp)
        have hx1 := hx.1
        have hx2 := hx.2.1
        have ps := part_snoc t (t.length - (i + 1)) (tab ws t i) pre x
        fail "gi"
        rw [cutW_mid]
        refine itd (fun e3 => ?_) fun e3 => ?_
        · rw [if_pos e3] at ps
          have hxl : x.length ≤ i + 1 := by
            have := congrArg List.length e3
            rw [List.length_take, List.length_drop] at this
            omega
          have g1 := at_mid (a := t.length - (i + 1)) (s := part t (t.length - (i + 1)) (tab ws t i) pre) (r := tab ws t i) (k := ((t.length - (i + 1) : Nat) : Int)) rfl
          have g2 := at_after (a := t.length - (i + 1)) (s := part t (t.length - (i + 1)) (tab ws t i) pre) (r := tab ws t i) (k := ((t.length - (i + 1) : Nat) : Int) + (x.length : Int)) (j := x.length - 1) (by omega) (by omega)
          have g3 : ((t.length - (i + 1) : Nat) : Int) < ((List.replicate (t.length - (i + 1)) 0 ++ part t (t.length - (i + 1)) (tab ws t i) pre :: tab ws t i).map V.int).length := by
            simp only [List.length_map, List.length_append, List.length_replicate, List.length_cons]; omega
          fail "gi"
          refine ⟨by fail "same", ?_⟩
          rw [upd_same, ps]
          exact congrArg (fun z => some (HO.lst z)) (set_mid (k := ((t.length - (i + 1) : Nat) : Int)) rfl)
        · rw [if_neg e3] at ps
          fail "gi"
          rw [ps]; exact b2
      · rintro σ' H' ⟨x4, rfl, b1, b2⟩
        exact ⟨_, _, rfl, b1, b2⟩
    · rintro σ' H' ⟨x3, x4, rfl, a1, a2⟩
      fail "gi"
      refine q _ _ a1 (by fail "fr") ?_
      rw [a2, show t.length - ((t.length : Int) - 0).toNat = 0 by omega, show ((t.length : Int) - 0).toNat = t.length by omega]; rfl

def left (a b : Wd) : Option Wd := if b.isPrefixOf a = true then some (a.drop b.length) else none
abbrev s_left_of : Stmt := top 18
theorem sc_left_of : FnScope ["text", "other"] ["text", "other"] (defScope s_left_of) := ⟨rfl, rfl, rfl, by decide +kernel, rfl, by decide +kernel, by decide +kernel⟩
def sp_left_of : Sp := fun vs H Q _ => ∃ a b : Wd, vs = [sv a, sv b] ∧ a.length ≤ 100000 ∧ b.length ≤ 100000 ∧ Q (optv (left a b)) H
theorem ok_left_of (B : Bi mg) (D : Def K mg "left_of" s_left_of) : Cal P w K mg base CX0 "left_of" 1 ["text", "other"] sp_left_of := by
  have nd := sc_left_of.nd
  refine D.cal sc_left_of (fun _ _ _ _ _ _ us hl => match us, hl with | [_, _], _ => rfl) (fun vs H Q E h => ?_) (fun f cdv A outer s H vs Q E hr h => ?_)
  · obtain ⟨_, _, rfl, _⟩ := h
    rfl
  · obtain ⟨a, b, rfl, ha, hb, q⟩ := h
    refine ⟨_, PSs.nox (pss_cons (ps_if (pt_val (pe_m1 PySem.F.slot_str_startswith PySem.F.type_str_startswith mt_stw (pv 0) (pv 1)))
        (pss_one (ps_ret (pe_slice (r := rSlW) sl_w (pv 0) (po_some (pe_callB call_lenw (by rfl) B.len PySem.boot_len (pa_cons (pv 1) pa_nil))) po_none)))
        pss_nil)
      (pss_one (ps_ret pe_non))), ?_⟩
    try dsimp only [cxOf, Cx.nox, Cx.wish]
    unfold left at q
    fail "go"
    refine itb (fun e => ?_) fun e => ?_
    · rw [if_pos e] at q
      fail "go"
      rw [cutW_from]
      exact q
    · rw [if_neg (by rw [e]; decide)] at q
      exact q

def step (r w : Wd) : Option (Wd × Bool) := match left r w with
  | some x => some (x, false)
  | none => match left w r with
    | some x => some (x, true)
    | none => none
abbrev s_stepped : Stmt := top 26
theorem sc_stepped : FnScope ["rest", "word", "found"] ["rest", "word"] (defScope s_stepped) := ⟨rfl, rfl, rfl, by decide +kernel, rfl, by decide +kernel, by decide +kernel⟩
def sp_stepped : Sp := fun vs H Q _ => ∃ a b : Wd, vs = [sv a, sv b] ∧ a.length ≤ 100000 ∧ b.length ≤ 100000 ∧ (step a b = none → Ret H Q .non) ∧ ∀ r k, step a b = some (r, k) → RetT H Q [sv r, .bl k]
theorem ok_stepped (B : Bi mg) (D : Def K mg "stepped" s_stepped) (c_left_of : Cal P w K mg base CX0 "left_of" 1 ["text", "other"] sp_left_of) : Cal P w K mg base CX0 "stepped" 2 ["rest", "word"] sp_stepped := by
  have nd := sc_stepped.nd
  refine D.cal sc_stepped (fun _ _ _ _ _ _ us hl => match us, hl with | [_, _], _ => rfl) (fun vs H Q E h => ?_) (fun f cdv A outer s H vs Q E hr h => ?_)
  · obtain ⟨_, _, rfl, _⟩ := h
    rfl
  · obtain ⟨a, b, rfl, ha, hb, q0, q1⟩ := h
    refine ⟨_, PSs.nox (pss_cons (ps_set (i := 2) nd rfl (.inl rfl) (pe_cal c_left_of hr (pa_cons (pv 0) (pa_cons (pv 1) pa_nil))))
      (pss_cons (ps_if (pt_cmpR op_notN (pv 2) pe_non (nomark _))
        (pss_one (ps_ret (pe_tup (pa_cons (pv 2) (pa_cons pe_bl pa_nil)))))
        pss_nil)
      (pss_cons (ps_set (i := 2) nd rfl (.inl rfl) (pe_cal c_left_of hr (pa_cons (pv 1) (pa_cons (pv 0) pa_nil))))
      (pss_cons (ps_if (pt_cmpR op_notN (pv 2) pe_non (nomark _))
        (pss_one (ps_ret (pe_tup (pa_cons (pv 2) (pa_cons pe_bl pa_nil)))))
        pss_nil)
      (pss_one (ps_ret pe_non)))))), ?_⟩
    try dsimp only [cxOf, Cx.nox, Cx.wish]
    have sn : ∀ x, left a b = some x → step a b = some (x, false) := fun x e => by unfold step; rw [e]
    have sm : ∀ x, left a b = none → left b a = some x → step a b = some (x, true) := fun x e e2 => by unfold step; rw [e, e2]
    have s0 : left a b = none → left b a = none → step a b = none := fun e e2 => by unfold step; rw [e, e2]
    fail "go"
    cases e : left a b with
    | some x =>
      fail "go"
      exact fun p hp => (q1 _ _ (sn x e)).at (Same.refl _) hp
    | none =>
      fail "go"
      cases e2 : left b a with
      | some x =>
        fail "go"
        exact fun p hp => (q1 _ _ (sm x e e2)).at (Same.refl _) hp
      | none =>
        fail "go"
        exact q0 (s0 e e2) _ (Same.refl _)
/-! ### the law's own -/

/-! ### tables of rests, by themselves -/
inductive How where
  | beg (w o : Wd) | stp (r w : Wd)
abbrev Tb : Type := List (Wd × Nat × How)
def look (E : Tb) (r : Wd) : Option (Nat × How) := (E.find? fun e => decide (e.1 = r)).map (·.2)
def putT (E : Tb) (r : Wd) (n : Nat) (h : How) : Tb := if (E.any fun e => decide (e.1 = r)) = true then E.map (fun e => if e.1 = r then (r, n, h) else e) else E ++ [(r, n, h)]
def keysT (E : Tb) : List Wd := E.map (·.1)
def dE (E : Tb) : List (Key × V) := E.map fun e => (.inr (S e.1), .int (e.2.1 : Nat))
theorem look_pos {e : Wd × Nat × How} {E : Tb} {r : Wd} (h : e.1 = r) : look (e :: E) r = some e.2 := by simp [look, List.find?_cons, h]
theorem look_neg {e : Wd × Nat × How} {E : Tb} {r : Wd} (h : ¬ e.1 = r) : look (e :: E) r = look E r := by simp [look, List.find?_cons, h]
theorem look_any (r : Wd) : ∀ E : Tb, (E.any fun e => decide (e.1 = r)) = (look E r).isSome
  | [] => rfl
  | e :: E => by
    by_cases h : e.1 = r
    · rw [List.any_cons, look_pos h, decide_eq_true h]; rfl
    · rw [List.any_cons, look_neg h, decide_eq_false h, Bool.false_or, look_any r E]
theorem look_mem {r : Wd} {p : Nat × How} : ∀ {E : Tb}, look E r = some p → (r, p) ∈ E
  | [], h => by cases h
  | e :: E, h => by
    by_cases q : e.1 = r
    · rw [look_pos q] at h
      obtain rfl := Option.some.inj h
      rw [← q]; exact List.mem_cons_self
    · rw [look_neg q] at h
      exact List.mem_cons_of_mem _ (look_mem h)
theorem mem_look {r : Wd} {p : Nat × How} : ∀ {E : Tb}, (keysT E).Nodup → (r, p) ∈ E → look E r = some p
  | [], _, h => by cases h
  | e :: E, nd, h => by
    have nd' := List.nodup_cons.mp nd
    rcases List.mem_cons.mp h with rfl | h
    · exact look_pos rfl
    · have q : ¬ e.1 = r := fun z => nd'.1 (List.mem_map.mpr ⟨_, h, z.symm⟩)
      rw [look_neg q]; exact mem_look nd'.2 h
theorem key_look {r : Wd} {E : Tb} : r ∈ keysT E ↔ (look E r).isSome = true := by
  rw [← look_any, List.any_eq_true]
  constructor
  · intro h
    obtain ⟨e, he, rfl⟩ := List.mem_map.mp h
    exact ⟨e, he, decide_eq_true rfl⟩
  · rintro ⟨e, he, h⟩
    exact List.mem_map.mpr ⟨e, he, of_decide_eq_true h⟩
theorem look_map (r : Wd) (n : Nat) (h : How) (r' : Wd) : ∀ E : Tb, look (E.map fun e => if e.1 = r then (r, n, h) else e) r' = (look E r').map fun p => if r' = r then (n, h) else p
  | [] => rfl
  | e :: E => by
    rw [List.map_cons]
    by_cases a : e.1 = r
    · rw [if_pos a]
      by_cases b : e.1 = r'
      · rw [look_pos (e := (r, n, h)) (a.symm.trans b), look_pos b, Option.map_some, if_pos (b.symm.trans a)]
      · rw [look_neg (e := (r, n, h)) (fun z => b (a.trans z)), look_neg b, look_map r n h r' E]
    · rw [if_neg a]
      by_cases b : e.1 = r'
      · rw [look_pos b, look_pos b, Option.map_some, if_neg (fun z => a (b.trans z))]
      · rw [look_neg b, look_neg b, look_map r n h r' E]
theorem look_snoc (r : Wd) (n : Nat) (h : How) (r' : Wd) : ∀ E : Tb, look E r = none → look (E ++ [(r, n, h)]) r' = if r' = r then some (n, h) else look E r'
  | [], _ => by
    by_cases b : r = r'
    · rw [if_pos b.symm]; exact look_pos b
    · rw [if_neg (fun z => b z.symm)]; exact look_neg b
  | e :: E, hn => by
    have a : ¬ e.1 = r := fun z => by rw [look_pos z] at hn; cases hn
    rw [look_neg a] at hn
    rw [List.cons_append]
    by_cases b : e.1 = r'
    · rw [look_pos b, look_pos b, if_neg (fun z => a (b.trans z))]
    · rw [look_neg b, look_neg b, look_snoc r n h r' E hn]
theorem look_put (E : Tb) (r : Wd) (n : Nat) (h : How) (r' : Wd) : look (putT E r n h) r' = if r' = r then some (n, h) else look E r' := by
  unfold putT
  rw [look_any]
  cases q : look E r with
  | none => rw [if_neg (by simp)]; exact look_snoc r n h r' E q
  | some p =>
    rw [if_pos (by rfl), look_map]
    by_cases a : r' = r
    · rw [if_pos a, a, q, Option.map_some, if_pos rfl]
    · rw [if_neg a]
      cases look E r' with
      | none => rfl
      | some p' => rw [Option.map_some, if_neg a]
theorem keys_put (E : Tb) (r : Wd) (n : Nat) (h : How) : keysT (putT E r n h) = if r ∈ keysT E then keysT E else keysT E ++ [r] := by
  unfold putT
  by_cases a : r ∈ keysT E
  · have b := key_look.mp a
    rw [look_any, if_pos b, if_pos a]
    unfold keysT
    rw [List.map_map]
    refine List.map_congr_left fun e _ => ?_
    show (if e.1 = r then (r, n, h) else e).1 = e.1
    by_cases c : e.1 = r
    · rw [if_pos c, c]
    · rw [if_neg c]
  · have b : ¬ (look E r).isSome = true := fun z => a (key_look.mpr z)
    rw [look_any, if_neg b, if_neg a]
    unfold keysT
    rw [List.map_append]; rfl
theorem nodup_put {E : Tb} {r : Wd} {n : Nat} {h : How} (nd : (keysT E).Nodup) : (keysT (putT E r n h)).Nodup := by
  rw [keys_put]
  by_cases a : r ∈ keysT E
  · rw [if_pos a]; exact nd
  · rw [if_neg a]; exact List.nodup_append.mpr ⟨nd, by simp, fun x hx y hy => by rw [List.mem_singleton.mp hy]; exact fun z => a (z ▸ hx)⟩
theorem inrS {a b : Wd} : ((.inr (S a) : Key) = .inr (S b)) ↔ a = b := ⟨fun h => S_inj.mp (Sum.inr.inj h), fun h => by rw [h]⟩
theorem valV_dE (E : Tb) (r : Wd) : valV (dE E) (.inr (S r)) = (look E r).map fun p => V.int (p.1 : Nat) := by
  induction E with
  | nil => rfl
  | cons e E ih =>
    show valV ((.inr (S e.1), V.int (e.2.1 : Nat)) :: dE E) _ = _
    by_cases h : e.1 = r
    · rw [valV_pos (inrS.mpr h), look_pos h]; rfl
    · rw [valV_neg (fun z => h (inrS.mp z)), look_neg h, ih]
theorem putK_dE (E : Tb) (r : Wd) (n : Nat) (h : How) : putK (dE E) (.inr (S r)) (.int (n : Nat)) = dE (putT E r n h) := by
  unfold putK putT
  have e : ((dE E).any fun kv => decide (kv.1 = .inr (S r))) = (E.any fun e => decide (e.1 = r)) := by
    rw [valV_any, valV_dE, look_any, Option.isSome_map]
  rw [e]
  by_cases a : (E.any fun e => decide (e.1 = r)) = true
  · rw [if_pos a, if_pos a]
    unfold dE
    rw [List.map_map, List.map_map]
    refine List.map_congr_left fun x _ => ?_
    show (if (.inr (S x.1) : Key) = .inr (S r) then ((.inr (S x.1) : Key), V.int (n : Nat)) else (.inr (S x.1), V.int (x.2.1 : Nat))) = (.inr (S (if x.1 = r then (r, n, h) else x).1), V.int ((if x.1 = r then (r, n, h) else x).2.1 : Nat))
    by_cases c : x.1 = r
    · rw [if_pos (inrS.mpr c), if_pos c, c]
    · rw [if_neg (fun z => c (inrS.mp z)), if_neg c]
  · rw [if_neg a, if_neg a]
    unfold dE
    rw [List.map_append]; rfl
def offers (E : Tb) (r : Wd) (n : Nat) : Bool := match look E r with
  | none => true
  | some p => decide (n < p.1)
def offerT (E : Tb) (F : List Wd) (r : Wd) (n : Nat) (h : How) : Tb × List Wd := if offers E r n = true then (putT E r n h, F ++ [r]) else (E, F)
def beginT (E : Tb) (F : List Wd) (w o : Wd) : Tb × List Wd := match left w o with
  | some r => if w = o then (E, F) else offerT E F r w.length (.beg w o)
  | none => (E, F)
theorem left_len {a b r : Wd} (h : left a b = some r) : r.length ≤ a.length := by
  unfold left at h
  split at h
  · obtain rfl := Option.some.inj h
    rw [List.length_drop]; omega
  · cases h
theorem step_len {a b r : Wd} {k : Bool} (h : step a b = some (r, k)) : r.length ≤ a.length ∨ r.length ≤ b.length := by
  unfold step at h
  cases e1 : left a b with
  | some r1 =>
    rw [e1] at h
    obtain ⟨rfl, _⟩ := Prod.mk.inj (Option.some.inj h)
    exact .inl (left_len e1)
  | none =>
    rw [e1] at h
    cases e2 : left b a with
    | some r1 =>
      rw [e2] at h
      obtain ⟨rfl, _⟩ := Prod.mk.inj (Option.some.inj h)
      exact .inr (left_len e2)
    | none => rw [e2] at h; cases h
def far (n : Nat) (s : Wd) (k : Bool) : Nat := if k then n + s.length else n
def goT (E : Tb) (F : List Wd) (r w : Wd) : Tb × List Wd := match step r w, look E r with
  | some (s, k), some p => offerT E F s (far p.1 s k) (.stp r w)
  | _, _ => (E, F)

structure TableC (K : PySem.W.Frag) (C : Addr) : Prop where
  cl : Cls K C
  n1 : NoAttr K C "lengths"
  n2 : NoAttr K C "came"
  n3 : NoAttr K C "fresh"
def HowAt (H : Hp) (v : V) : How → Prop
  | .beg w o => ∃ t u, v = .ref t ∧ H t = some (.tup [.non, .ref u]) ∧ H u = some (.tup [sv w, sv o])
  | .stp r w => ∃ t, v = .ref t ∧ H t = some (.tup [sv r, sv w])
theorem HowAt.same {H H' : Hp} {v : V} {h : How} (s : Same H H') (a : HowAt H v h) : HowAt H' v h := by
  cases h with
  | beg w o => obtain ⟨t, u, e, h1, h2⟩ := a; exact ⟨t, u, e, s _ _ h1, s _ _ h2⟩
  | stp r w => obtain ⟨t, e, h1⟩ := a; exact ⟨t, e, s _ _ h1⟩
/-- behind H0 a Table stands at x -/
def tabF (la ca fa : Addr) : List (Str × V) := [("lengths", .ref la), ("came", .ref ca), ("fresh", .ref fa)]
structure TabAt (C : Addr) (H0 H : Hp) (x : Addr) (E : Tb) (F : List Wd) (dx la ca fa : Addr) (kc : List (Key × V)) : Prop where
  s : Same H0 H
  x0 : H0 x = none
  la0 : H0 la = none
  ca0 : H0 ca = none
  fa0 : H0 fa = none
  ne : la ≠ ca
  hx : H x = some (.ins C dx (tabF la ca fa))
  hl : H la = some (.dK (dE E))
  hc : H ca = some (.dK kc)
  hf : H fa = some (.lst (F.map sv))
  nd : (keysT E).Nodup
  kk : kc.map (·.1) = (keysT E).map fun r => (.inr (S r) : Key)
  how : ∀ r p, look E r = some p → ∃ v, valV kc (.inr (S r)) = some v ∧ HowAt H v p.2
theorem HowAt.upd {H : Hp} {v : V} {h : How} {a : Addr} {o : HO} (n : ∀ vs, H a ≠ some (.tup vs)) (k : HowAt H v h) : HowAt (L2.upd H a o) v h := by
  have one : ∀ {b vs}, H b = some (.tup vs) → L2.upd H a o b = some (.tup vs) := fun {b vs} e => by
    rw [upd_ne (fun z => n vs (by rw [← z]; exact e))]; exact e
  cases h with
  | beg w o => obtain ⟨t, u, e, h1, h2⟩ := k; exact ⟨t, u, e, one h1, one h2⟩
  | stp r w => obtain ⟨t, e, h1⟩ := k; exact ⟨t, e, one h1⟩
theorem keys_putK (kvs : List (Key × V)) (k : Key) (v : V) : (k ∈ kvs.map (·.1) → (putK kvs k v).map (·.1) = kvs.map (·.1)) ∧ (k ∉ kvs.map (·.1) → (putK kvs k v).map (·.1) = kvs.map (·.1) ++ [k]) := by
  have e : (kvs.any fun kv => decide (kv.1 = k)) = true ↔ k ∈ kvs.map (·.1) := by
    rw [List.any_eq_true, List.mem_map]
    exact ⟨fun ⟨x, h1, h2⟩ => ⟨x, h1, of_decide_eq_true h2⟩, fun ⟨x, h1, h2⟩ => ⟨x, h1, decide_eq_true h2⟩⟩
  unfold putK
  refine ⟨fun a => ?_, fun a => ?_⟩
  · rw [if_pos (e.mpr a), List.map_map]
    refine List.map_congr_left fun x _ => ?_
    show (if x.1 = k then (x.1, v) else x).1 = x.1
    split <;> rfl
  · rw [if_neg (fun z => a (e.mp z)), List.map_append]; rfl
theorem mem_kS {r : Wd} {E : Tb} : (.inr (S r) : Key) ∈ (keysT E).map (fun r => (.inr (S r) : Key)) ↔ r ∈ keysT E := by
  rw [List.mem_map]
  exact ⟨fun ⟨a, h1, h2⟩ => (inrS.mp h2) ▸ h1, fun h => ⟨r, h, rfl⟩⟩
theorem TabAt.put {C : Addr} {H0 H : Hp} {x : Addr} {E : Tb} {F : List Wd} {dx la ca fa : Addr} {kc : List (Key × V)} {r : Wd} {n : Nat} {v : V} {h : How} (T : TabAt C H0 H x E F dx la ca fa kc) (hv : HowAt H v h) :
    TabAt C H0 (L2.upd (L2.upd (L2.upd H la (.dK (putK (dE E) (.inr (S r)) (.int (n : Nat))))) ca (.dK (putK kc (.inr (S r)) v))) fa (.lst (F.map sv ++ [sv r]))) x (putT E r n h) (F ++ [r]) dx la ca fa (putK kc (.inr (S r)) v) := by
  obtain ⟨t1, t2, t3, t4, t5, t6, t7, t8, t9, t10, t11, t12, t13⟩ := T
  have xl : x ≠ la := fun z => by rw [z, t8] at t7; cases t7
  have xc : x ≠ ca := fun z => by rw [z, t9] at t7; cases t7
  have xf : x ≠ fa := fun z => by rw [z, t10] at t7; cases t7
  have fl : fa ≠ la := fun z => by rw [z, t8] at t10; cases t10
  have fc : fa ≠ ca := fun z => by rw [z, t9] at t10; cases t10
  have hw : ∀ {v' : V} {h' : How}, HowAt H v' h' → HowAt (L2.upd (L2.upd (L2.upd H la (.dK (putK (dE E) (.inr (S r)) (.int (n : Nat))))) ca (.dK (putK kc (.inr (S r)) v))) fa (.lst (F.map sv ++ [sv r]))) v' h' := fun k => by
    refine HowAt.upd (fun vs z => ?_) (HowAt.upd (fun vs z => ?_) (HowAt.upd (fun vs z => ?_) k))
    · rw [upd_ne fc, upd_ne fl, t10] at z; cases z
    · rw [upd_ne t6.symm, t9] at z; cases z
    · rw [t8] at z; cases z
  refine ⟨mutd (mutd (mutd t1 t3) t4) t5, t2, t3, t4, t5, t6, ?_, ?_, ?_, ?_, nodup_put t11, ?_, ?_⟩
  · rw [upd_ne xf, upd_ne xc, upd_ne xl]; exact t7
  · rw [upd_ne fl.symm, upd_ne t6, upd_same, putK_dE E r n h]
  · rw [upd_ne fc.symm, upd_same]
  · rw [upd_same, List.map_append]; rfl
  · have kp := keys_putK kc (.inr (S r)) v
    rw [t12] at kp
    rw [keys_put]
    by_cases a : r ∈ keysT E
    · rw [kp.1 (mem_kS.mpr a), if_pos a]
    · rw [kp.2 (fun z => a (mem_kS.mp z)), if_neg a, List.map_append]; rfl
  · intro r' p hp
    rw [look_put] at hp
    rw [valV_put]
    by_cases a : r' = r
    · rw [if_pos a] at hp
      rw [if_pos (inrS.mpr a)]
      obtain rfl := Option.some.inj hp
      exact ⟨v, rfl, hw hv⟩
    · rw [if_neg a] at hp
      rw [if_neg (fun z => a (inrS.mp z))]
      obtain ⟨v', h1, h2⟩ := t13 r' p hp
      exact ⟨v', h1, hw h2⟩
abbrev s_Table_offer : Stmt := inClass (top 27) 1
theorem sc_Table_offer : FnScope ["self", "rest", "length", "how"] ["self", "rest", "length", "how"] (defScope s_Table_offer) := ⟨rfl, rfl, rfl, by decide +kernel, rfl, by decide +kernel, by decide +kernel⟩
def sp_Table_offer (C : Addr) : Sp := fun vs H Q _ => ∃ (x : Addr) (r : Wd) (n : Nat) (v : V), vs = [.ref x, sv r, .int n, v] ∧ ∃ H0 E F dx la ca fa kc h, TabAt C H0 H x E F dx la ca fa kc ∧ HowAt H v h ∧ E.length ≤ 10000 ∧ F.length ≤ 10000000 ∧
  ∀ H' kc', TabAt C H0 H' x (offerT E F r n h).1 (offerT E F r n h).2 dx la ca fa kc' → Q .non H'
theorem ok_Table_offer (B : Bi mg) (T_Table : TableC K C) (D : DefM K C "offer" "Table.offer" s_Table_offer) : CalM P w K mg base CX0 C "offer" 1 ["self", "rest", "length", "how"] (sp_Table_offer C) := by
  have nd := sc_Table_offer.nd
  obtain ⟨T_cl, T_n1, T_n2, T_n3⟩ := T_Table
  refine D.cal sc_Table_offer (fun _ _ _ _ _ _ us hl => match us, hl with | [_, _, _, _], _ => rfl) (fun vs H Q E h => ?_) (fun f cdv A outer s H vs Q E hr h => ?_)
  · obtain ⟨_, _, _, _, rfl, _⟩ := h
    rfl
  · obtain ⟨x, r, n, v, rfl, H0, E, F, dx, la, ca, fa, kc, h, T, hv, hE, hF, q⟩ := h
    have T' := T
    obtain ⟨t1, t2, t3, t4, t5, t6, t7, t8, t9, t10, t11, t12, t13⟩ := T'
    unfold tabF at t7
    have xl : x ≠ la := fun z => by rw [z, t8] at t7; cases t7
    have xc : x ≠ ca := fun z => by rw [z, t9] at t7; cases t7
    have xf : x ≠ fa := fun z => by rw [z, t10] at t7; cases t7
    have fl : fa ≠ la := fun z => by rw [z, t8] at t10; cases t10
    have fc : fa ≠ ca := fun z => by rw [z, t9] at t10; cases t10
    have cl : ca ≠ la := t6.symm
    have dl : (dE E).length < 100000 := by unfold dE; rw [List.length_map]; omega
    have kl : kc.length < 100000 := by
      have := congrArg List.length t12
      unfold keysT at this
      simp only [List.length_map] at this
      omega
    have ml : (F.map sv).length < 16000000 := by rw [List.length_map]; omega
    have no : offers E r n = false → Q .non H := fun e => q H kc (by unfold offerT; rw [if_neg (by rw [e]; decide)]; exact T)
    have yes : offers E r n = true → Q .non (L2.upd (L2.upd (L2.upd H la (.dK (putK (dE E) (.inr (S r)) (.int (n : Nat))))) ca (.dK (putK kc (.inr (S r)) v))) fa (.lst (F.map sv ++ [sv r]))) := fun e =>
      q _ (putK kc (.inr (S r)) v) (by unfold offerT; rw [if_pos e]; exact T.put hv)
    refine ⟨_, PSs.nox (pss_one (ps_if (PW.pt (pw_or (pt_cmp (pc_dniN (hu_of hr) (pv 1) (pe_fld (pv 0) rfl))) (pw_or1 (pt_cmpR op_lt (pv 2) (pe_dgetN (hu_of hr) (pe_fld (pv 0) rfl) (pv 1) (fun _ _ => rfl)) (nomark _)))))
        (pss_cons (ps_dputN (hu_of hr) (pe_fld (pv 0) rfl) (pv 1) (pv 2) rfl)
        (pss_cons (ps_dputN (hu_of hr) (pe_fld (pv 0) rfl) (pv 1) (pv 3) rfl)
        (pss_one (ps_expr (pe_bm PySem.F.plainAttrs_list PySem.F.slot_list_append PySem.F.type_list_append mt_app (pe_fld (pv 0) rfl) (pa_cons (pv 1) pa_nil))))))
        pss_nil)), ?_⟩
    try dsimp only [cxOf, Cx.nox, Cx.wish]
    fail "gi"
    rw [valV_dE]
    cases lk : look E r with
    | none =>
      fail "gi"
      exact yes (by unfold offers; rw [lk])
    | some p =>
      have lv : valV (dE E) (.inr (S r)) = some (.int (p.1 : Nat)) := by rw [valV_dE, lk]; rfl
      fail "gi"
      refine itd (fun e => ?_) fun e => ?_
      · fail "gi"
        exact yes (by unfold offers; rw [lk]; exact decide_eq_true (by omega))
      · fail "gi"
        exact no (by unfold offers; rw [lk]; exact decide_eq_false (by omega))

/-! ### what is derived, and what a table knows of it -/
theorem left_eq {a b r : Wd} : left a b = some r ↔ a = b ++ r := by
  unfold left
  constructor
  · intro h
    split at h
    · rename_i e
      obtain rfl := Option.some.inj h
      obtain ⟨t, rfl⟩ := List.isPrefixOf_iff_prefix.mp e
      rw [List.drop_left]
    · cases h
  · rintro rfl
    rw [if_pos (List.isPrefixOf_iff_prefix.mpr ⟨r, rfl⟩), List.drop_left]
theorem left_none {a b : Wd} : left a b = none ↔ ¬ ∃ r, a = b ++ r := by
  constructor
  · rintro h ⟨r, e⟩
    rw [left_eq.mpr e] at h; cases h
  · intro h
    cases e : left a b with
    | none => rfl
    | some r => exact absurd ⟨r, left_eq.mp e⟩ h
theorem step_eq {r w s : Wd} {k : Bool} : step r w = some (s, k) ↔ (k = false ∧ r = w ++ s) ∨ (k = true ∧ w = r ++ s ∧ s ≠ []) := by
  unfold step
  constructor
  · intro h
    cases e : left r w with
    | some x =>
      rw [e] at h
      obtain ⟨rfl, rfl⟩ := Prod.mk.inj (Option.some.inj h)
      exact .inl ⟨rfl, left_eq.mp e⟩
    | none =>
      rw [e] at h
      cases e2 : left w r with
      | none => rw [e2] at h; cases h
      | some x =>
        rw [e2] at h
        obtain ⟨rfl, rfl⟩ := Prod.mk.inj (Option.some.inj h)
        have e3 := left_eq.mp e2
        refine .inr ⟨rfl, e3, fun z => left_none.mp e ⟨[], ?_⟩⟩
        rw [e3, z, List.append_nil, List.append_nil]
  · rintro (⟨rfl, e⟩ | ⟨rfl, e, n⟩)
    · rw [left_eq.mpr e]
    · have : left r w = none := left_none.mpr fun ⟨x, z⟩ => n (by
        rw [z] at e
        have := congrArg List.length e
        simp only [List.length_append] at this
        exact List.eq_nil_of_length_eq_zero (by omega))
      rw [this, left_eq.mpr e]
inductive Der (ws : List Wd) : Wd → Nat → Prop
  | beg {w o r : Wd} : w ∈ ws → o ∈ ws → w ≠ o → left w o = some r → Der ws r w.length
  | stp {r w s : Wd} {n : Nat} {k : Bool} : Der ws r n → w ∈ ws → step r w = some (s, k) → Der ws s (far n s k)
theorem Der.mono {ws zs : List Wd} (h : ∀ w ∈ ws, w ∈ zs) {r : Wd} {n : Nat} (d : Der ws r n) : Der zs r n := by
  induction d with
  | beg a b c e => exact .beg (h _ a) (h _ b) c e
  | stp _ b e ih => exact .stp ih (h _ b) e
def sufs (ws : List Wd) : List Wd := ws.flatMap fun w => (List.range (w.length + 1)).map fun i => w.drop i
theorem mem_sufs {ws : List Wd} {r : Wd} : r ∈ sufs ws ↔ ∃ w ∈ ws, ∃ t, w = t ++ r := by
  unfold sufs
  rw [List.mem_flatMap]
  constructor
  · rintro ⟨w, hw, h⟩
    obtain ⟨i, _, rfl⟩ := List.mem_map.mp h
    exact ⟨w, hw, w.take i, (List.take_append_drop i w).symm⟩
  · rintro ⟨w, hw, t, rfl⟩
    refine ⟨_, hw, List.mem_map.mpr ⟨t.length, List.mem_range.mpr ?_, List.drop_left⟩⟩
    rw [List.length_append]; omega
theorem sufs_len : ∀ {ws : List Wd}, (∀ w ∈ ws, w.length ≤ 10) → (sufs ws).length ≤ 11 * ws.length
  | [], _ => Nat.le_refl _
  | w :: ws, h => by
    have := sufs_len fun x hx => h x (List.mem_cons_of_mem _ hx)
    have hw := h w List.mem_cons_self
    show (((List.range (w.length + 1)).map fun i => w.drop i) ++ sufs ws).length ≤ _
    rw [List.length_append, List.length_map, List.length_range, List.length_cons]
    omega
theorem Code.ten {ws : List Wd} (c : Code ws) {w : Wd} (h : w ∈ ws) : w.length ≤ 10 := (c.wd w h).2.1
theorem Code.sufs {ws : List Wd} (c : Code ws) : (sufs ws).length ≤ 132 := by
  have := sufs_len (ws := ws) fun w h => c.ten h
  have := c.le
  omega
theorem Code.suf {ws : List Wd} (c : Code ws) {r : Wd} (h : r ∈ One.sufs ws) : r.length ≤ 10 := by
  obtain ⟨w, hw, t, rfl⟩ := mem_sufs.mp h
  have := c.ten hw
  rw [List.length_append] at this
  omega
theorem Der.suf {ws : List Wd} {r : Wd} {n : Nat} (d : Der ws r n) : r ∈ sufs ws := by
  induction d with
  | beg a b c e => exact mem_sufs.mpr ⟨_, a, _, left_eq.mp e⟩
  | @stp r w s n k _ b e ih =>
    rcases step_eq.mp e with ⟨_, z⟩ | ⟨_, z, _⟩
    · obtain ⟨v, hv, t, rfl⟩ := mem_sufs.mp ih
      exact mem_sufs.mpr ⟨_, hv, t ++ w, by rw [z, List.append_assoc]⟩
    · exact mem_sufs.mpr ⟨_, b, _, z⟩
theorem nd_len : ∀ {xs ys : List Wd}, xs.Nodup → (∀ x ∈ xs, x ∈ ys) → xs.length ≤ ys.length
  | [], _, _, _ => Nat.zero_le _
  | x :: xs, ys, nd, h => by
    have nd' := List.nodup_cons.mp nd
    have hx := h x List.mem_cons_self
    have := nd_len (ys := ys.erase x) nd'.2 fun y hy => (List.mem_erase_of_ne (fun z => nd'.1 (by rw [← z]; exact hy))).mpr (h y (List.mem_cons_of_mem _ hy))
    rw [List.length_erase_of_mem hx] at this
    have := List.length_pos_of_mem hx
    rw [List.length_cons]
    omega
def val (E : Tb) (s : Wd) : Nat := match look E s with
  | some p => p.1
  | none => 1331
def pot (ws : List Wd) (E : Tb) : Nat := ((sufs ws).map (val E)).sum
theorem sum_le {f g : Wd → Nat} : ∀ {l : List Wd}, (∀ s ∈ l, f s ≤ g s) → (l.map f).sum ≤ (l.map g).sum
  | [], _ => Nat.le_refl _
  | x :: l, h => by
    have := sum_le fun s hs => h s (List.mem_cons_of_mem _ hs)
    have := h x List.mem_cons_self
    simp only [List.map_cons, List.sum_cons]
    omega
theorem sum_lt {f g : Wd → Nat} : ∀ {l : List Wd}, (∀ s ∈ l, f s ≤ g s) → ∀ {r}, r ∈ l → f r < g r → (l.map f).sum + 1 ≤ (l.map g).sum
  | [], _, _, h, _ => nomatch h
  | x :: l, h, r, hr, k => by
    have h1 := h x List.mem_cons_self
    have h2 := fun s hs => h s (List.mem_cons_of_mem x hs)
    simp only [List.map_cons, List.sum_cons]
    rcases List.mem_cons.mp hr with rfl | hr
    · have := sum_le h2
      omega
    · have := sum_lt h2 hr k
      omega
def Grd (ws : List Wd) (E : Tb) (n : Nat) : How → Wd → Prop
  | .beg w o, r => w ∈ ws ∧ o ∈ ws ∧ w ≠ o ∧ left w o = some r ∧ n = w.length
  | .stp q w, r => w ∈ ws ∧ ∃ k p, step q w = some (r, k) ∧ look E q = some p ∧ far p.1 r k ≤ n
def Mono (E E' : Tb) : Prop := ∀ r p, look E r = some p → ∃ p', look E' r = some p' ∧ p'.1 ≤ p.1
theorem Mono.refl (E : Tb) : Mono E E := fun _ p h => ⟨p, h, Nat.le_refl _⟩
theorem Mono.trans {E E' E'' : Tb} (a : Mono E E') (b : Mono E' E'') : Mono E E'' := fun r p h => by
  obtain ⟨p', h', l⟩ := a r p h
  obtain ⟨p'', h'', l'⟩ := b r p' h'
  exact ⟨p'', h'', by omega⟩
theorem far_le {n m : Nat} {s : Wd} {k : Bool} (h : n ≤ m) : far n s k ≤ far m s k := by
  unfold far
  split <;> omega
theorem Grd.mono {ws : List Wd} {E E' : Tb} (m : Mono E E') {n : Nat} {h : How} {r : Wd} (g : Grd ws E n h r) : Grd ws E' n h r := by
  cases h with
  | beg w o => exact g
  | stp q w =>
    obtain ⟨a, k, p, b, c, d⟩ := g
    obtain ⟨p', c', l⟩ := m q p c
    exact ⟨a, k, p', b, c', Nat.le_trans (far_le l) d⟩
theorem Grd.sub {ws zs : List Wd} (hs : ∀ w ∈ ws, w ∈ zs) {E : Tb} {n : Nat} {h : How} {r : Wd} (g : Grd ws E n h r) : Grd zs E n h r := by
  cases h with
  | beg w o => exact ⟨hs _ g.1, hs _ g.2.1, g.2.2⟩
  | stp q w => exact ⟨hs _ g.1, g.2⟩
structure Ext (E : Tb) (F : List Wd) (E' : Tb) (F' : List Wd) : Prop where
  mono : Mono E E'
  ex : ∃ G, F' = F ++ G ∧ ∀ r p, look E' r = some p → look E r = some p ∨ r ∈ G
theorem Ext.refl (E : Tb) (F : List Wd) : Ext E F E F := ⟨Mono.refl E, [], (List.append_nil F).symm, fun _ _ h => .inl h⟩
structure Tbl (ws : List Wd) (E : Tb) (F : List Wd) : Prop where
  nd : (keysT E).Nodup
  der : ∀ r p, look E r = some p → Der ws r p.1
  grd : ∀ r p, look E r = some p → Grd ws E p.1 p.2 r
  low : ∀ r p, look E r = some p → p.1 ≤ 10 * E.length
  pot : pot ws E + F.length ≤ 175692
  fr : ∀ r ∈ F, (look E r).isSome = true
theorem keys_len (E : Tb) : (keysT E).length = E.length := List.length_map _
theorem Tbl.len {ws : List Wd} {E : Tb} {F : List Wd} (T : Tbl ws E F) (c : Code ws) : E.length ≤ 132 := by
  have := nd_len (ys := sufs ws) T.nd fun x hx => by
    obtain ⟨p, hp⟩ := Option.isSome_iff_exists.mp (key_look.mp hx)
    exact (T.der x p hp).suf
  have h2 := c.sufs
  rw [keys_len] at this
  omega
theorem Tbl.flen {ws : List Wd} {E : Tb} {F : List Wd} (T : Tbl ws E F) : F.length ≤ 175692 := by
  have := T.pot
  omega
theorem Tbl.key {ws : List Wd} {E : Tb} {F : List Wd} (T : Tbl ws E F) (c : Code ws) {r : Wd} {p : Nat × How} (h : look E r = some p) : r.length ≤ 10 := c.suf (T.der r p h).suf
theorem putT_len (E : Tb) (r : Wd) (n : Nat) (h : How) : (putT E r n h).length = if r ∈ keysT E then E.length else E.length + 1 := by
  rw [← keys_len, keys_put]
  split
  · exact keys_len E
  · rw [List.length_append, keys_len]; rfl
theorem Tbl.offer {ws : List Wd} {E : Tb} {F : List Wd} (T : Tbl ws E F) (c : Code ws) {r : Wd} {n : Nat} {h : How} (d : Der ws r n) (g : Grd ws E n h r) (hn : n ≤ 10 * E.length + 10) :
    Tbl ws (offerT E F r n h).1 (offerT E F r n h).2 ∧ Ext E F (offerT E F r n h).1 (offerT E F r n h).2 ∧ ∃ p, look (offerT E F r n h).1 r = some p ∧ p.1 ≤ n := by
  by_cases o : offers E r n = true
  · rw [show offerT E F r n h = (putT E r n h, F ++ [r]) by unfold offerT; rw [if_pos o]]
    have lower : ∀ p, look E r = some p → n < p.1 := fun p e => by
      unfold offers at o
      rw [e] at o
      exact of_decide_eq_true o
    have mono : Mono E (putT E r n h) := fun r' p e => by
      rw [look_put]
      by_cases a : r' = r
      · rw [if_pos a]
        rw [a] at e
        exact ⟨_, rfl, Nat.le_of_lt (lower p e)⟩
      · rw [if_neg a]
        exact ⟨p, e, Nat.le_refl _⟩
    have nd := nodup_put (r := r) (n := n) (h := h) T.nd
    have der : ∀ r' p, look (putT E r n h) r' = some p → Der ws r' p.1 := fun r' p e => by
      rw [look_put] at e
      by_cases a : r' = r
      · rw [if_pos a] at e
        obtain rfl := Option.some.inj e
        rw [a]; exact d
      · rw [if_neg a] at e
        exact T.der r' p e
    have len : (putT E r n h).length ≤ 132 := by
      have := nd_len (ys := sufs ws) nd fun x hx => by
        obtain ⟨p, hp⟩ := Option.isSome_iff_exists.mp (key_look.mp hx)
        exact (der x p hp).suf
      have h2 := c.sufs
      rw [keys_len] at this
      omega
    have low : n ≤ 10 * (putT E r n h).length := by
      rw [putT_len]
      by_cases a : r ∈ keysT E
      · obtain ⟨p, hp⟩ := Option.isSome_iff_exists.mp (key_look.mp a)
        have := lower p hp
        have := T.low r p hp
        rw [if_pos a]; omega
      · rw [if_neg a]; omega
    have up : E.length ≤ (putT E r n h).length := by
      rw [putT_len]; split <;> omega
    have vr : val (putT E r n h) r = n := by
      unfold val
      rw [look_put, if_pos rfl]
    have vlt : val (putT E r n h) r < val E r := by
      rw [vr]
      unfold val
      cases e : look E r with
      | none => show n < 1331; omega
      | some p => exact lower p e
    have pt := sum_lt (f := val (putT E r n h)) (g := val E) (l := sufs ws) (fun s _ => by
      by_cases a : s = r
      · rw [a]; exact Nat.le_of_lt vlt
      · unfold val
        rw [look_put, if_neg a]
        exact Nat.le_refl _) d.suf vlt
    refine ⟨⟨nd, der, fun r' p e => ?_, fun r' p e => ?_, ?_, fun x hx => ?_⟩, ⟨mono, [r], rfl, fun r' p e => ?_⟩, (n, h), by rw [look_put, if_pos rfl], Nat.le_refl _⟩
    · rw [look_put] at e
      by_cases a : r' = r
      · rw [if_pos a] at e
        obtain rfl := Option.some.inj e
        rw [a]; exact g.mono mono
      · rw [if_neg a] at e
        exact (T.grd r' p e).mono mono
    · rw [look_put] at e
      by_cases a : r' = r
      · rw [if_pos a] at e
        obtain rfl := Option.some.inj e
        exact low
      · rw [if_neg a] at e
        have := T.low r' p e
        show p.1 ≤ 10 * (putT E r n h).length
        omega
    · have h0 := T.pot
      show One.pot ws (putT E r n h) + (F ++ [r]).length ≤ _
      unfold One.pot at h0 ⊢
      rw [List.length_append, List.length_singleton]
      omega
    · rcases List.mem_append.mp hx with a | a
      · obtain ⟨p, hp⟩ := Option.isSome_iff_exists.mp (T.fr x a)
        obtain ⟨p', hp', _⟩ := mono x p hp
        show (look (putT E r n h) x).isSome = true
        rw [hp']; rfl
      · rw [List.mem_singleton.mp a]
        show (look (putT E r n h) r).isSome = true
        rw [look_put, if_pos rfl]; rfl
    · rw [look_put] at e
      by_cases a : r' = r
      · exact .inr (List.mem_singleton.mpr a)
      · rw [if_neg a] at e
        exact .inl e
  · rw [show offerT E F r n h = (E, F) by unfold offerT; rw [if_neg o]]
    refine ⟨T, Ext.refl E F, ?_⟩
    unfold offers at o
    cases e : look E r with
    | none => rw [e] at o; exact absurd rfl o
    | some p =>
      rw [e] at o
      exact ⟨p, rfl, by have := of_decide_eq_false (Bool.eq_false_iff.mpr o); omega⟩
def Cl (E : Tb) (r w : Wd) : Prop := ∀ p s k, look E r = some p → step r w = some (s, k) → ∃ q, look E s = some q ∧ q.1 ≤ far p.1 s k
def Bg (E : Tb) (w o : Wd) : Prop := ∀ r, w ≠ o → left w o = some r → ∃ q, look E r = some q ∧ q.1 ≤ w.length
theorem Bg.mono {E E' : Tb} (m : Mono E E') {w o : Wd} (b : Bg E w o) : Bg E' w o := fun r h e => by
  obtain ⟨q, h1, l⟩ := b r h e
  obtain ⟨q', h2, l'⟩ := m _ q h1
  exact ⟨q', h2, by omega⟩
theorem Tbl.begin {ws : List Wd} {E : Tb} {F : List Wd} (T : Tbl ws E F) (c : Code ws) {w o : Wd} (hw : w ∈ ws) (ho : o ∈ ws) :
    Tbl ws (beginT E F w o).1 (beginT E F w o).2 ∧ Ext E F (beginT E F w o).1 (beginT E F w o).2 ∧ Bg (beginT E F w o).1 w o := by
  unfold beginT
  cases e : left w o with
  | none => exact ⟨T, Ext.refl E F, fun r _ z => by rw [e] at z; cases z⟩
  | some r =>
    dsimp only
    by_cases n : w = o
    · rw [if_pos n]
      exact ⟨T, Ext.refl E F, fun r a _ => absurd n a⟩
    · rw [if_neg n]
      have := c.ten hw
      obtain ⟨a1, a2, p, a3, a4⟩ := T.offer c (h := .beg w o) (.beg hw ho n e) ⟨hw, ho, n, e, rfl⟩ (by omega)
      exact ⟨a1, a2, fun r' _ z => by rw [e] at z; obtain rfl := Option.some.inj z; exact ⟨p, a3, a4⟩⟩
theorem Tbl.go {ws : List Wd} {E : Tb} {F : List Wd} (T : Tbl ws E F) (c : Code ws) {r w : Wd} {p : Nat × How} (hp : look E r = some p) (hw : w ∈ ws) :
    Tbl ws (goT E F r w).1 (goT E F r w).2 ∧ Ext E F (goT E F r w).1 (goT E F r w).2 ∧ ∀ s k, step r w = some (s, k) → ∃ q, look (goT E F r w).1 s = some q ∧ q.1 ≤ far p.1 s k := by
  unfold goT
  rw [hp]
  cases e : step r w with
  | none => exact ⟨T, Ext.refl E F, fun s k z => nomatch z⟩
  | some x =>
    obtain ⟨s, k⟩ := x
    have d : Der ws s (far p.1 s k) := .stp (T.der r p hp) hw e
    have ls := c.suf d.suf
    have lw := T.low r p hp
    obtain ⟨a1, a2, q, a3, a4⟩ := T.offer c (h := .stp r w) d ⟨hw, k, p, e, hp, Nat.le_refl _⟩ (by unfold far; split <;> omega)
    exact ⟨a1, a2, fun s' k' z => by obtain ⟨rfl, rfl⟩ := Prod.mk.inj (Option.some.inj z); exact ⟨q, a3, a4⟩⟩
def Wait (ws : List Wd) (E : Tb) (R : List Wd) : Prop := ∀ r p, look E r = some p → (∀ w ∈ ws, Cl E r w) ∨ r ∈ R
def Wait1 (ws : List Wd) (E : Tb) (r0 : Wd) (pre R : List Wd) : Prop := ∀ r p, look E r = some p → (∀ w ∈ (if r = r0 then pre else ws), Cl E r w) ∨ r ∈ R
theorem Wait.start {ws : List Wd} {E : Tb} {r0 : Wd} {R : List Wd} (h : Wait ws E (r0 :: R)) : Wait1 ws E r0 [] R := fun r p e => by
  by_cases a : r = r0
  · rw [if_pos a]; exact .inl fun _ h => nomatch h
  · rw [if_neg a]
    rcases h r p e with b | b
    · exact .inl b
    · rcases List.mem_cons.mp b with b | b
      · exact absurd b a
      · exact .inr b
theorem Wait1.end {ws : List Wd} {E : Tb} {r0 : Wd} {R : List Wd} (h : Wait1 ws E r0 ws R) : Wait ws E R := fun r p e => by
  have := h r p e
  rwa [ite_self] at this
theorem Wait1.step {ws pre R F F' : List Wd} {E E' : Tb} {r0 w : Wd} (h : Wait1 ws E r0 pre R) (x : Ext E F E' F') (n : ∀ p, look E r0 = some p → ∀ s k, step r0 w = some (s, k) → ∃ q, look E' s = some q ∧ q.1 ≤ far p.1 s k) :
    ∃ G, F' = F ++ G ∧ Wait1 ws E' r0 (pre ++ [w]) (R ++ G) := by
  obtain ⟨m, G, e1, e2⟩ := x
  refine ⟨G, e1, fun r p e => ?_⟩
  rcases e2 r p e with a | a
  · rcases h r p a with b | b
    · refine .inl fun v hv p' s k e' st => ?_
      have pe : p' = p := Option.some.inj (e'.symm.trans e)
      rw [pe]
      have old : Cl E r v → ∃ q, look E' s = some q ∧ q.1 ≤ far p.1 s k := fun cl => by
        obtain ⟨q, h1, l⟩ := cl p s k a st
        obtain ⟨q', h2, l'⟩ := m s q h1
        exact ⟨q', h2, by omega⟩
      by_cases z : r = r0
      · rw [if_pos z] at hv b
        rcases List.mem_append.mp hv with hv | hv
        · exact old (b v hv)
        · obtain rfl := List.mem_singleton.mp hv
          rw [z] at a st
          exact n p a s k st
      · rw [if_neg z] at hv b
        exact old (b v hv)
    · exact .inr (List.mem_append_left _ b)
  · exact .inr (List.mem_append_right _ a)
structure Full (ws : List Wd) (E : Tb) : Prop where
  tb : Tbl ws E []
  cl : ∀ r p, look E r = some p → ∀ w ∈ ws, Cl E r w
  bg : ∀ w ∈ ws, ∀ o ∈ ws, Bg E w o
theorem pot_nil {ws : List Wd} (c : Code ws) : pot ws [] ≤ 175692 := by
  have h : ∀ l : List Wd, (l.map (val [])).sum = 1331 * l.length := by
    intro l
    induction l with
    | nil => rfl
    | cons x l ih =>
      rw [List.map_cons, List.sum_cons, ih, List.length_cons]
      show 1331 + _ = _
      omega
  unfold pot
  rw [h]
  have := c.sufs
  omega
theorem Tbl.nil {ws : List Wd} (c : Code ws) : Tbl ws [] [] where
  nd := List.nodup_nil
  der := fun _ _ h => nomatch h
  grd := fun _ _ h => nomatch h
  low := fun _ _ h => nomatch h
  pot := pot_nil c
  fr := fun _ h => nomatch h
/-- what is known of a whole table, by the words as a set -/
structure Lst (ws : List Wd) (E : Tb) : Prop where
  nd : (keysT E).Nodup
  len : E.length ≤ 132
  der : ∀ r p, look E r = some p → Der ws r p.1
  grd : ∀ r p, look E r = some p → Grd ws E p.1 p.2 r
  low : ∀ r p, look E r = some p → p.1 ≤ 1320
  key : ∀ r p, look E r = some p → r.length ≤ 10
  cl : ∀ r p, look E r = some p → ∀ w ∈ ws, Cl E r w
  bg : ∀ w ∈ ws, ∀ o ∈ ws, Bg E w o
theorem Full.lst {ws : List Wd} {E : Tb} (f : Full ws E) (c : Code ws) : Lst ws E := ⟨f.tb.nd, f.tb.len c, f.tb.der, f.tb.grd, fun r p h => by
  have := f.tb.low r p h
  have := f.tb.len c
  omega, fun r p h => f.tb.key c h, f.cl, f.bg⟩
theorem Lst.perm {ws zs : List Wd} {E : Tb} (f : Lst ws E) (h : ∀ w, w ∈ ws ↔ w ∈ zs) : Lst zs E :=
  ⟨f.nd, f.len, fun r p e => (f.der r p e).mono fun w => (h w).mp, fun r p e => (f.grd r p e).sub fun w => (h w).mp, f.low, f.key, fun r p e w hw => f.cl r p e w ((h w).mpr hw), fun w hw o ho => f.bg w ((h w).mpr hw) o ((h o).mpr ho)⟩
theorem Lst.least {ws : List Wd} {E : Tb} (f : Lst ws E) {r : Wd} {n : Nat} (d : Der ws r n) : ∃ p, look E r = some p ∧ p.1 ≤ n := by
  induction d with
  | beg a b c e => exact f.bg _ a _ b _ c e
  | stp _ b e ih =>
    obtain ⟨p, hp, l⟩ := ih
    obtain ⟨q, hq, l'⟩ := f.cl _ p hp _ b p _ _ hp e
    exact ⟨q, hq, Nat.le_trans l' (far_le l)⟩
theorem Lst.uniq {ws : List Wd} {E E' : Tb} (f : Lst ws E) (g : Lst ws E') (r : Wd) : (look E r).map (·.1) = (look E' r).map (·.1) := by
  cases e : look E r with
  | some p =>
    obtain ⟨q, e2, l⟩ := g.least (f.der r p e)
    obtain ⟨p', e3, l'⟩ := f.least (g.der r q e2)
    obtain rfl := Option.some.inj (e.symm.trans e3)
    rw [e2]
    exact congrArg some (by show p.1 = q.1; omega)
  | none =>
    cases e2 : look E' r with
    | none => rfl
    | some q =>
      obtain ⟨p, e3, _⟩ := f.least (g.der r q e2)
      rw [e] at e3; cases e3
/-- each number is just that of one of these -/
theorem Lst.from {ws : List Wd} {E : Tb} (f : Lst ws E) {r : Wd} {p : Nat × How} (h : look E r = some p) :
    (∃ w ∈ ws, ∃ o ∈ ws, w ≠ o ∧ left w o = some r ∧ p.1 = w.length ∧ p.2 = .beg w o) ∨ ∃ q p' w k, look E q = some p' ∧ w ∈ ws ∧ step q w = some (r, k) ∧ p.1 = far p'.1 r k ∧ p.2 = .stp q w := by
  have g := f.grd r p h
  obtain ⟨n, hw⟩ := p
  cases hw with
  | beg w o => exact .inl ⟨w, g.1, o, g.2.1, g.2.2.1, g.2.2.2.1, g.2.2.2.2, rfl⟩
  | stp q w =>
    obtain ⟨a, k, p', b, c, d⟩ := g
    obtain ⟨p2, e2, l⟩ := f.cl q p' c w a p' r k c b
    obtain rfl := Option.some.inj (h.symm.trans e2)
    exact .inr ⟨q, p', w, k, c, a, b, Nat.le_antisymm l d, rfl⟩

theorem TabAt.same {C : Addr} {H0 H H' : Hp} {x : Addr} {E : Tb} {F : List Wd} {dx la ca fa : Addr} {kc : List (Key × V)} (T : TabAt C H0 H x E F dx la ca fa kc) (s : Same H H') : TabAt C H0 H' x E F dx la ca fa kc := by
  obtain ⟨t1, t2, t3, t4, t5, t6, t7, t8, t9, t10, t11, t12, t13⟩ := T
  exact ⟨t1.trans s, t2, t3, t4, t5, t6, s _ _ t7, s _ _ t8, s _ _ t9, s _ _ t10, t11, t12, fun r p hp => let ⟨v, h1, h2⟩ := t13 r p hp; ⟨v, h1, h2.same s⟩⟩
abbrev s_Table_begin : Stmt := inClass (top 27) 2
theorem sc_Table_begin : FnScope ["self", "word", "other", "rest"] ["self", "word", "other"] (defScope s_Table_begin) := ⟨rfl, rfl, rfl, by decide +kernel, rfl, by decide +kernel, by decide +kernel⟩
def sp_Table_begin (C : Addr) : Sp := fun vs H Q _ => ∃ (x : Addr) (w o : Wd), vs = [.ref x, sv w, sv o] ∧ ∃ H0 E F dx la ca fa kc, TabAt C H0 H x E F dx la ca fa kc ∧ w.length ≤ 10 ∧ o.length ≤ 10 ∧ E.length ≤ 10000 ∧ F.length ≤ 10000000 ∧
  ∀ H' kc', TabAt C H0 H' x (beginT E F w o).1 (beginT E F w o).2 dx la ca fa kc' → Q .non H'
theorem ok_Table_begin (B : Bi mg) (T_Table : TableC K C) (D : DefM K C "begin" "Table.begin" s_Table_begin) (c_left_of : Cal P w K mg base CX0 "left_of" 1 ["text", "other"] sp_left_of) (c_Table_offer : CalM P w K mg base CX0 C "offer" 1 ["self", "rest", "length", "how"] (sp_Table_offer C)) : CalM P w K mg base CX0 C "begin" 2 ["self", "word", "other"] (sp_Table_begin C) := by
  have nd := sc_Table_begin.nd
  obtain ⟨T_cl, T_n1, T_n2, T_n3⟩ := T_Table
  refine D.cal sc_Table_begin (fun _ _ _ _ _ _ us hl => match us, hl with | [_, _, _], _ => rfl) (fun vs H Q E h => ?_) (fun f cdv A outer s H vs Q E hr h => ?_)
  · obtain ⟨_, _, _, rfl, _⟩ := h
    rfl
  · obtain ⟨x, w, o, rfl, H0, E, F, dx, la, ca, fa, kc, T, hw, ho, hE, hF, q⟩ := h
    refine ⟨_, PSs.nox (pss_cons (ps_set (i := 3) nd rfl (.inl rfl) (pe_cal c_left_of hr (pa_cons (pv 1) (pa_cons (pv 2) pa_nil))))
      (pss_one (ps_if (PW.pt (pw_and (pt_cmpR op_notN (pv 3) pe_non (nomark _)) (pw_and1 (pt_cmpR op_new (pv 1) (pv 2) (nomark _)))))
        (pss_one (ps_expr (pe_calM c_Table_offer T_cl hr (pv 0) (pa_cons (pv 3) (pa_cons (pe_callB call_lenw (by rfl) B.len PySem.boot_len (pa_cons (pv 1) pa_nil)) (pa_cons (pe_tup (pa_cons pe_non (pa_cons (pe_tup (pa_cons (pv 1) (pa_cons (pv 2) pa_nil))) pa_nil))) pa_nil))))))
        pss_nil))), ?_⟩
    try dsimp only [cxOf, Cx.nox, Cx.wish]
    have hx := T.hx
    unfold tabF at hx
    have wl : w.length ≤ 100000 := by omega
    have ol : o.length ≤ 100000 := by omega
    cases e : left w o with
    | none =>
      rw [show beginT E F w o = (E, F) by unfold beginT; rw [e]] at q
      fail "gi"
      rw [e]
      fail "gi"
      exact q H kc T
    | some r =>
      fail "gi"
      rw [e]
      fail "gi"
      refine itn (fun e2 => ?_) fun e2 => ?_
      · rw [show beginT E F w o = offerT E F r w.length (.beg w o) by unfold beginT; rw [e]; exact if_neg e2] at q
        fail "gi"
        exact ⟨H0, E, F, dx, la, ca, fa, kc, .beg w o, T.same (by fail "same"), ⟨_, _, rfl, by fail "look", by fail "look"⟩, hE, hF, q⟩
      · rw [show beginT E F w o = (E, F) by unfold beginT; rw [e]; exact if_pos e2] at q
        fail "gi"
        exact q H kc T
abbrev s_Table_go_on : Stmt := inClass (top 27) 3
theorem sc_Table_go_on : FnScope ["self", "rest", "word", "step", "longer"] ["self", "rest", "word"] (defScope s_Table_go_on) := ⟨rfl, rfl, rfl, by decide +kernel, rfl, by decide +kernel, by decide +kernel⟩
def sp_Table_go_on (C : Addr) : Sp := fun vs H Q _ => ∃ (x : Addr) (r w : Wd), vs = [.ref x, sv r, sv w] ∧ ∃ H0 E F dx la ca fa kc, TabAt C H0 H x E F dx la ca fa kc ∧ (look E r).isSome = true ∧ r.length ≤ 10 ∧ w.length ≤ 10 ∧ E.length ≤ 10000 ∧ F.length ≤ 10000000 ∧
  ∀ H' kc', TabAt C H0 H' x (goT E F r w).1 (goT E F r w).2 dx la ca fa kc' → Q .non H'
theorem ok_Table_go_on (B : Bi mg) (T_Table : TableC K C) (D : DefM K C "go_on" "Table.go_on" s_Table_go_on) (c_stepped : Cal P w K mg base CX0 "stepped" 2 ["rest", "word"] sp_stepped) (c_Table_offer : CalM P w K mg base CX0 C "offer" 1 ["self", "rest", "length", "how"] (sp_Table_offer C)) : CalM P w K mg base CX0 C "go_on" 3 ["self", "rest", "word"] (sp_Table_go_on C) := by
  have nd := sc_Table_go_on.nd
  obtain ⟨T_cl, T_n1, T_n2, T_n3⟩ := T_Table
  refine D.cal sc_Table_go_on (fun _ _ _ _ _ _ us hl => match us, hl with | [_, _, _], _ => rfl) (fun vs H Q E h => ?_) (fun f cdv A outer s H vs Q E hr h => ?_)
  · obtain ⟨_, _, _, rfl, _⟩ := h
    rfl
  · obtain ⟨x, r, w', rfl, H0, E, F, dx, la, ca, fa, kc, T, hk, hr1, hw, hE, hF, q⟩ := h
    refine ⟨_, PSs.nox (pss_cons (ps_set (i := 3) nd rfl (.inl rfl) (pe_cal c_stepped hr (pa_cons (pv 1) (pa_cons (pv 2) pa_nil))))
      (pss_one (ps_if (pt_cmpR op_notN (pv 3) pe_non (nomark _))
        (pss_cons (ps_set (i := 4) nd rfl (.inl rfl) (pe_dgetN (hu_of hr) (pe_fld (pv 0) rfl) (pv 1) (fun _ _ => rfl)))
        (pss_cons (ps_if (pt_val (pe_ix (r := rIxTn K) ix_t (pv 3) pe_int (fun _ _ => rfl)))
          (pss_one (ps_set (i := 4) nd rfl (.inl rfl) (pe_op op_add (pv 4) (pe_callB call_lenw (by rfl) B.len PySem.boot_len (pa_cons (pe_ix (r := rIxTn K) ix_t (pv 3) pe_int (fun _ _ => rfl)) pa_nil)))))
          pss_nil)
        (pss_one (ps_expr (pe_calM c_Table_offer T_cl hr (pv 0) (pa_cons (pe_ix (r := rIxTn K) ix_t (pv 3) pe_int (fun _ _ => rfl)) (pa_cons (pv 4) (pa_cons (pe_tup (pa_cons (pv 1) (pa_cons (pv 2) pa_nil))) pa_nil))))))))
        pss_nil))), ?_⟩
    try dsimp only [cxOf, Cx.nox, Cx.wish]
    obtain ⟨p, lk⟩ := Option.isSome_iff_exists.mp hk
    have lv : valV (dE E) (.inr (S r)) = some (.int (p.1 : Nat)) := by rw [valV_dE, lk]; rfl
    have hx := T.hx
    unfold tabF at hx
    have hl := T.hl
    have rl : r.length ≤ 100000 := by omega
    have ol : w'.length ≤ 100000 := by omega
    fail "gi"
    refine ⟨fun e => ?_, fun s k e => ?_⟩
    · rw [show goT E F r w' = (E, F) by unfold goT; rw [e]] at q
      fail "gi"
      exact q _ kc (T.same (by fail "same"))
    · rw [show goT E F r w' = offerT E F s (far p.1 s k) (.stp r w') by unfold goT; rw [e, lk]] at q
      have sl : s.length ≤ 100000 := by
        have := step_len e
        omega
      fail "gi"
      cases k with
      | true =>
        fail "gi"
        exact ⟨H0, E, F, dx, la, ca, fa, kc, .stp r w', T.same (by fail "same"), ⟨_, rfl, by fail "look"⟩, hE, hF, q⟩
      | false =>
        fail "gi"
        exact ⟨H0, E, F, dx, la, ca, fa, kc, .stp r w', T.same (by fail "same"), ⟨_, rfl, by fail "look"⟩, hE, hF, q⟩

theorem TabAt.fresh {C : Addr} {H0 H : Hp} {x : Addr} {E : Tb} {F : List Wd} {dx la ca fa : Addr} {kc : List (Key × V)} (T : TabAt C H0 H x E F dx la ca fa kc) {q : Addr} (hq : H q = none) :
    TabAt C H0 (L2.upd (L2.upd H q (.lst [])) x (.ins C dx (tabF la ca q))) x E [] dx la ca q kc := by
  obtain ⟨t1, t2, t3, t4, t5, t6, t7, t8, t9, t10, t11, t12, t13⟩ := T
  have xl : la ≠ x := fun z => by rw [← z, t8] at t7; cases t7
  have xc : ca ≠ x := fun z => by rw [← z, t9] at t7; cases t7
  have qx : q ≠ x := fun z => by rw [z, t7] at hq; cases hq
  have ql : la ≠ q := fun z => by rw [← z, t8] at hq; cases hq
  have qc : ca ≠ q := fun z => by rw [← z, t9] at hq; cases hq
  refine ⟨mutd (t1.trans (new hq)) t2, t2, t3, t4, t1.free hq, t6, upd_same, ?_, ?_, ?_, t11, t12, fun r p hp => ?_⟩
  · rw [upd_ne xl, upd_ne ql]; exact t8
  · rw [upd_ne xc, upd_ne qc]; exact t9
  · rw [upd_ne qx, upd_same]; rfl
  · obtain ⟨v, h1, h2⟩ := t13 r p hp
    refine ⟨v, h1, HowAt.upd (fun vs z => ?_) (h2.same (new hq))⟩
    rw [upd_ne qx.symm, t7] at z; cases z
theorem TabAt.nil {C : Addr} {H0 H : Hp} {x dx la ca fa : Addr} (s : Same H0 H) (x0 : H0 x = none) (la0 : H0 la = none) (ca0 : H0 ca = none) (fa0 : H0 fa = none) (ne : la ≠ ca) (hx : H x = some (.ins C dx (tabF la ca fa)))
    (hl : H la = some (.dK [])) (hc : H ca = some (.dK [])) (hf : H fa = some (.lst [])) : TabAt C H0 H x [] [] dx la ca fa [] := ⟨s, x0, la0, ca0, fa0, ne, hx, hl, hc, hf, List.nodup_nil, rfl, fun _ _ h => nomatch h⟩
abbrev s_Table___init__ : Stmt := inClass (top 27) 0
theorem sc_Table___init__ : FnScope ["self"] ["self"] (defScope s_Table___init__) := ⟨rfl, rfl, rfl, by decide +kernel, rfl, by decide +kernel, by decide +kernel⟩
def sp_Table___init__ (C : Addr) : Sp := fun vs H Q _ => ∃ x : Addr, vs = [.ref x] ∧ ∃ H0 dx, H0 x = none ∧ Same H0 H ∧ H x = some (.ins C dx []) ∧
  ∀ H' la ca fa, TabAt C H0 H' x [] [] dx la ca fa [] → Q .non H'
theorem ok_Table___init__ (B : Bi mg) (T_Table : TableC K C) (D : DefI K mg C "Table" "Table.__init__" s_Table___init__) : CalI P w K mg base CX0 C "Table" 1 ["self"] (sp_Table___init__ C) := by
  have nd := sc_Table___init__.nd
  obtain ⟨T_cl, T_n1, T_n2, T_n3⟩ := T_Table
  refine D.cal sc_Table___init__ (fun _ _ _ _ _ _ us hl => match us, hl with | [_], _ => rfl) (fun vs H Q E h => ?_) (fun f cdv A outer s H vs Q E hr h => ?_)
  · obtain ⟨_, rfl, _⟩ := h
    rfl
  · obtain ⟨x, rfl, H0, dx, x0, s0, hx, q⟩ := h
    refine ⟨_, PSs.nox (pss_cons (ps_fld (pv 0) pe_dnewK rfl)
      (pss_cons (ps_fld (pv 0) pe_dnewK rfl)
      (pss_one (ps_fld (pv 0) (pe_lst pa_nil) rfl)))), ?_⟩
    try dsimp only [cxOf, Cx.nox, Cx.wish]
    fail "gi"
    rename_i a1 h1 a2 h2 a3 h3
    have n1 : a1 ≠ x := fun z => by rw [z, hx] at h1; cases h1
    have n2 : a2 ≠ x := fun z => by rw [z, upd_same] at h2; cases h2
    have n3 : a3 ≠ x := fun z => by rw [z, upd_same] at h3; cases h3
    have n12 : a2 ≠ a1 := ne_free (u := .dK []) h2 (by fail "look")
    exact q _ a1 a2 a3 (TabAt.nil (by fail "same") x0 (by fail "fr") (by fail "fr") (by fail "fr") n12.symm upd_same (by fail "look") (by fail "look") (by fail "look"))
abbrev s_Table_spread : Stmt := inClass (top 27) 4
theorem sc_Table_spread : FnScope ["self", "words", "at", "word"] ["self", "words"] (defScope s_Table_spread) := ⟨rfl, rfl, rfl, by decide +kernel, rfl, by decide +kernel, by decide +kernel⟩
def sp_Table_spread (C : Addr) : Sp := fun vs H Q _ => ∃ (x p : Addr), vs = [.ref x, .ref p] ∧ ∃ ws, Code ws ∧ ∃ H0 E F dx la ca fa kc, TabAt C H0 H x E F dx la ca fa kc ∧ H0 p = some (.lst (ws.map sv)) ∧ Tbl ws E F ∧ Wait ws E F ∧ (∀ w ∈ ws, ∀ o ∈ ws, Bg E w o) ∧
  ∀ H' E' fa' kc', TabAt C H0 H' x E' [] dx la ca fa' kc' → Full ws E' → Mono E E' → Q .non H'
theorem ok_Table_spread (B : Bi mg) (T_Table : TableC K C) (D : DefM K C "spread" "Table.spread" s_Table_spread) (c_Table_go_on : CalM P w K mg base CX0 C "go_on" 3 ["self", "rest", "word"] (sp_Table_go_on C)) : CalM P w K mg base CX0 C "spread" 4 ["self", "words"] (sp_Table_spread C) := by
  have nd := sc_Table_spread.nd
  obtain ⟨T_cl, T_n1, T_n2, T_n3⟩ := T_Table
  refine D.cal sc_Table_spread (fun _ _ _ _ _ _ us hl => match us, hl with | [_, _], _ => rfl) (fun vs H Q E h => ?_) (fun f cdv A outer s H vs Q E hr h => ?_)
  · obtain ⟨_, _, rfl, _⟩ := h
    rfl
  · obtain ⟨x, p, rfl, ws, c, H0, E, F, dx, la, ca, fa, kc, T, hp, tb, wt, bg, q⟩ := h
    refine ⟨_, PSs.nox (pss_cons (ps_set (i := 2) nd rfl (.inl rfl) pe_int)
      (pss_cons (ps_while PassesOwn.never (pt_cmpR op_lt (pv 2) (pe_callB (r := rLenL K) call_lenl (by rfl) B.len PySem.boot_len (pa_cons (pe_fld (pv 0) rfl) pa_nil)) (nomark _))
        (pss_cons (ps_for PassesOwn.never rfl (pi_list (pv 1)) (pg_name (i := 3) nd rfl (.inl rfl))
          (pss_one (ps_expr (pe_calM c_Table_go_on T_cl hr (pv 0) (pa_cons (pe_ix (r := rIxLn K) ix_l (pe_fld (pv 0) rfl) (pv 2) (fun _ _ => rfl)) (pa_cons (pv 3) pa_nil))))))
        (pss_one (ps_set (i := 2) nd rfl (.inl rfl) (pe_op op_add (pv 2) pe_int)))))
      (pss_one (ps_fld (pv 0) (pe_lst pa_nil) rfl)))), ?_⟩
    try dsimp only [cxOf, Cx.nox, Cx.wish]
    fail "gi"
    refine ⟨fun m σ' H' => ∃ (k : Nat) (E1 : Tb) (F1 : List Wd) (kc1 : List (Key × V)) (y : Option V), σ' = [some (.ref x), some (.ref p), some (.int k), y] ∧ m = 200000 - k ∧ TabAt C H0 H' x E1 F1 dx la ca fa kc1 ∧ Tbl ws E1 F1 ∧ Wait ws E1 (F1.drop k) ∧ (∀ w ∈ ws, ∀ o ∈ ws, Bg E1 w o) ∧ Mono E E1 ∧ k ≤ F1.length,
      ⟨_, 0, E, F, kc, _, rfl, rfl, T, tb, wt, bg, Mono.refl E, Nat.zero_le _⟩, ?_⟩
    rintro m σ' H' ⟨k, E1, F1, kc1, y, rfl, rfl, T1, tb1, wt1, bg1, mo1, hk⟩
    have hx := T1.hx
    unfold tabF at hx
    have hf := T1.hf
    have fl := tb1.flen
    fail "gi"
    dsimp only
    refine itd (fun e => ?_) fun e => ?_
    · have hlt : k < F1.length := by rw [List.length_map] at e; omega
      obtain ⟨r0, hr0⟩ : ∃ r0, F1[k]? = some r0 := ⟨_, List.getElem?_eq_getElem hlt⟩
      have dr : F1.drop k = r0 :: F1.drop (k + 1) := by
        rw [List.drop_eq_getElem_cons hlt]
        rw [List.getElem?_eq_getElem hlt] at hr0
        rw [Option.some.inj hr0]
      rw [dr] at wt1
      have lr := tb1.fr r0 (List.mem_of_getElem? hr0)
      refine ⟨fun σ' H' => ∃ (E1 : Tb) (F1 : List Wd) (kc1 : List (Key × V)) (y : Option V), σ' = [some (.ref x), some (.ref p), some (.int (k + 1)), y] ∧ TabAt C H0 H' x E1 F1 dx la ca fa kc1 ∧ Tbl ws E1 F1 ∧ Wait ws E1 (F1.drop (k + 1)) ∧ (∀ w ∈ ws, ∀ o ∈ ws, Bg E1 w o) ∧ Mono E E1 ∧ k + 1 ≤ F1.length,
        ?_, ?_⟩
      · rintro σ' H' ⟨E2, F2, kc2, y, rfl, a1, a2, a3, a4, a5, a6⟩
        have := a2.flen
        exact ⟨_, by omega, k + 1, E2, F2, kc2, y, rfl, rfl, a1, a2, a3, a4, a5, a6⟩
      · have hp1 := T1.s _ _ hp
        fail "gi"
        refine for_wl (xs := ws) (j := 3) (fun pre σ' H' => ∃ (E2 : Tb) (F2 : List Wd) (kc2 : List (Key × V)) (y : Option V), σ' = [some (.ref x), some (.ref p), some (.int k), y] ∧ TabAt C H0 H' x E2 F2 dx la ca fa kc2 ∧ Tbl ws E2 F2 ∧ Wait1 ws E2 r0 pre (F2.drop (k + 1)) ∧ (∀ w ∈ ws, ∀ o ∈ ws, Bg E2 w o) ∧ Mono E E2 ∧ F2[k]? = some r0)
          ⟨E1, F1, kc1, y, rfl, T1, tb1, wt1.start, bg1, mo1, hr0⟩ ?_ ?_ ?_
        · rintro pre σ' H' ⟨E2, F2, kc2, y, rfl, a1, a2, a3, a4, a5, a6⟩
          exact SqL.of (a1.s _ _ hp)
        · rintro pre w' post σ' H' ex ⟨E2, F2, kc2, y, rfl, a1, a2, a3, a4, a5, a6⟩
          have hx := a1.hx
          unfold tabF at hx
          have hf := a1.hf
          have fl := a2.flen
          have lk : (F2.map sv)[k]? = some (sv r0) := by rw [List.getElem?_map, a6]; rfl
          have lk1 : k < F2.length := (List.getElem?_eq_some_iff.mp a6).1
          have hw : w' ∈ ws := by rw [ex]; exact List.mem_append_right _ List.mem_cons_self
          have lr := a2.fr r0 (List.mem_of_getElem? a6)
          obtain ⟨pr, hpr⟩ := Option.isSome_iff_exists.mp lr
          have := a2.key c hpr
          have := c.len hw
          have := a2.len c
          fail "gi"
          refine ⟨_, lk, ?_⟩
          fail "gi"
          have b := a2.flen
          refine ⟨H0, E2, F2, dx, la, ca, fa, kc2, a1, lr, by omega, by omega, by omega, by omega, fun H3 kc3 T3 => ?_⟩
          obtain ⟨g1, g2, g3⟩ := a2.go c hpr hw
          obtain ⟨G, g4, g5⟩ := a3.step (w := w') g2 fun p' hp' s1 k1 hs1 => by
            obtain rfl := Option.some.inj (hp'.symm.trans hpr)
            exact g3 s1 k1 hs1
          fail "gi"
          refine ⟨_, _, kc3, _, rfl, T3, g1, ?_, fun v hv o ho => (a4 v hv o ho).mono g2.mono, a5.trans g2.mono, ?_⟩
          · rw [g4, List.drop_append_of_le_length (by omega)]
            exact g5
          · rw [g4, List.getElem?_append_left lk1]
            exact a6
        · rintro σ' H' ⟨E2, F2, kc2, y, rfl, a1, a2, a3, a4, a5, a6⟩
          have lk1 : k < F2.length := (List.getElem?_eq_some_iff.mp a6).1
          fail "gi"
          exact ⟨E2, F2, kc2, y, rfl, a1, a2, a3.end, a4, a5, lk1⟩
    · have hge : k = F1.length := by rw [List.length_map] at e; omega
      rw [hge, List.drop_length] at wt1
      fail "gi"
      rename_i q1 hq1
      have tf := T1.fresh hq1
      refine q _ E1 q1 kc1 tf ⟨⟨tb1.nd, tb1.der, tb1.grd, tb1.low, ?_, fun _ h => nomatch h⟩, fun r p hp => ?_, bg1⟩ mo1
      · have := tb1.pot
        show pot ws E1 + 0 ≤ _
        omega
      · rcases wt1 r p hp with z | z
        · exact z
        · cases z

/-! ### the program: words -/
instance (a : Wd) : Decidable (Word a) := (by unfold Word; exact inferInstanceAs (Decidable (1 ≤ a.length ∧ a.length ≤ 10 ∧ ∀ c ∈ a, c ∈ ABC)))
theorem Code.perm {zs ws : List Wd} (h : zs.Perm ws) (c : Code ws) : Code zs := ⟨h.nodup_iff.mpr c.nd, by rw [h.length_eq]; exact c.le, fun w hw => c.wd w (h.mem_iff.mp hw)⟩
abbrev s_is_word : Stmt := top 16
theorem sc_is_word : FnScope ["thing", "sign"] ["thing"] (defScope s_is_word) := ⟨rfl, rfl, rfl, by decide +kernel, rfl, by decide +kernel, by decide +kernel⟩
def sp_is_word : Sp := fun vs H Q _ => ∃ a : Wd, vs = [sv a] ∧ a.length ≤ 100000 ∧ Q (.bl (decide (Word a))) H
theorem ok_is_word (B : Bi mg) (G_MOST_SIGNS : ∃ t, mg "MOST_SIGNS" = some (.int 10 t)) (G_SIGNS : ∃ t, mg "SIGNS" = some (.str "abcdefghijklmnopqrstuvwxyz" t)) (D : Def K mg "is_word" s_is_word) : Cal P w K mg base CX0 "is_word" 1 ["thing"] sp_is_word := by
  have nd := sc_is_word.nd
  refine D.cal sc_is_word (fun _ _ _ _ _ _ us hl => match us, hl with | [_], _ => rfl) (fun vs H Q E h => ?_) (fun f cdv A outer s H vs Q E hr h => ?_)
  · obtain ⟨_, rfl, _⟩ := h
    rfl
  · obtain ⟨a, rfl, ha, q⟩ := h
    refine ⟨_, PSs.nox (pss_cons (ps_if (PW.pt (pw_or (pt_not (pt_val (pe_callB (call_is .str) (by rfl) B.isinstance (by decide +kernel) (pa_cons (pv 0) (pa_cons (pe_ty .str (by rfl) B.str (by decide +kernel)) pa_nil))))) (pw_or1 (pt_not (pt_chain op_le op_le pe_int (pe_callB call_lenw (by rfl) B.len PySem.boot_len (pa_cons (pv 0) pa_nil)) (pe_globi G_MOST_SIGNS rfl))))))
        (pss_one (ps_ret pe_bl))
        pss_nil)
      (pss_cons (ps_for PassesOwn.never rfl (pi_str (pv 0)) (pg_name (i := 1) nd rfl (.inl rfl))
        (pss_one (ps_if (pt_cmpR op_nig (pv 1) (pe_globw ABC rfl G_SIGNS rfl) (by rfl))
          (pss_one (ps_ret pe_bl))
          pss_nil)))
      (pss_one (ps_ret pe_bl)))), ?_⟩
    try dsimp only [cxOf, Cx.nox, Cx.wish]
    fail "gi"
    refine itd (fun e1 => ?_) fun e1 => ?_
    · fail "gi"
      refine itn (fun e2 => ?_) fun e2 => ?_
      · fail "gi"
        rw [decide_eq_false (fun z : Word a => e2 (by have := z.2.1; omega))] at q
        exact q
      · fail "gi"
        refine for_str (j := 1) (fun pre σ' H' => ∃ x1 : Option V, σ' = [some (sv a), x1] ∧ H' = H ∧ Abc pre) ⟨none, rfl, rfl, fun _ h => nomatch h⟩ ?_ ?_
        · rintro pre x post σ' H' ex ⟨x1, rfl, rfl, hA⟩
          fail "gi"
          refine itn (fun e3 => ?_) fun e3 => ?_
          · fail "gi"
            rw [decide_eq_false (fun z : Word a => e3 (z.abc x (by rw [ex]; simp)))] at q
            exact q
          · fail "gi"
            intro c hc
            rcases List.mem_append.mp hc with h | h
            · exact hA c h
            · rw [List.mem_singleton.mp h]; exact e3
        · rintro σ' H' ⟨x1, rfl, rfl, hA⟩
          fail "gi"
          rw [decide_eq_true (show Word a from ⟨by omega, by omega, hA⟩)] at q
          exact q
    · rw [decide_eq_false (fun z : Word a => e1 (by have := z.1; omega))] at q
      fail "gi"
      exact q
abbrev s_checked : Stmt := top 17
theorem sc_checked : FnScope ["words", "found", "word"] ["words"] (defScope s_checked) := ⟨rfl, rfl, rfl, by decide +kernel, rfl, by decide +kernel, by decide +kernel⟩
def sp_checked : Sp := fun vs H Q _ => ∃ p : Addr, vs = [.ref p] ∧ ∃ ws : List Wd, H p = some (.lst (ws.map sv)) ∧ Code ws ∧ ∀ zs : List Wd, zs.Perm ws → RetL H Q (zs.map sv)
theorem ok_checked (B : Bi mg) (Er : Errs K mg) (G_MOST_WORDS : ∃ t, mg "MOST_WORDS" = some (.int 12 t)) (D : Def K mg "checked" s_checked) (c_is_word : Cal P w K mg base CX0 "is_word" 1 ["thing"] sp_is_word) : Cal P w K mg base CX0 "checked" 2 ["words"] sp_checked := by
  have nd := sc_checked.nd
  refine D.cal sc_checked (fun _ _ _ _ _ _ us hl => match us, hl with | [_], _ => rfl) (fun vs H Q E h => ?_) (fun f cdv A outer s H vs Q E hr h => ?_)
  · obtain ⟨_, rfl, _⟩ := h
    rfl
  · obtain ⟨p, rfl, ws, hp, hc, q⟩ := h
    refine ⟨_, PSs.nox (pss_cons (ps_if (pt_not (pt_val (pe_callB (call_is .lst) (by rfl) B.isinstance (by decide +kernel) (pa_cons (pv 0) (pa_cons (pe_ty .lst (by rfl) B.list (by decide +kernel)) pa_nil)))))
        (pss_one ps_never)
        pss_nil)
      (pss_cons (ps_if (pt_cmpR op_gt (pe_callB (r := rLenL K) call_lenl (by rfl) B.len PySem.boot_len (pa_cons (pv 0) pa_nil)) (pe_globi G_MOST_WORDS rfl) (nomark _))
        (pss_one ps_never)
        pss_nil)
      (pss_cons (ps_set (i := 1) nd rfl (.inl rfl) (pe_lst pa_nil))
      (pss_cons (ps_for PassesOwn.never rfl (pi_list (pv 0)) (pg_name (i := 2) nd rfl (.inl rfl))
        (pss_cons (ps_if (pt_not (pt_val (pe_cal c_is_word hr (pa_cons (pv 2) pa_nil))))
          (pss_one ps_never)
          pss_nil)
        (pss_cons (ps_if (pt_cmpR (r := rInW K false) op_inw (pv 2) (pv 1) (by rfl))
          (pss_one ps_never)
          pss_nil)
        (pss_one (ps_expr (pe_bm PySem.F.plainAttrs_list PySem.F.slot_list_append PySem.F.type_list_append mt_app (pv 1) (pa_cons (pv 2) pa_nil)))))))
      (pss_one (ps_ret (pe_callB (r := rSortedW K) call_sortedw (by rfl) B.sorted (by decide +kernel) (pa_cons (pv 1) pa_nil)))))))), ?_⟩
    try dsimp only [cxOf, Cx.nox, Cx.wish]
    have hl := hc.le
    fail "gi"
    refine itd (fun e => absurd e (by simp only [List.length_map]; omega)) fun _ => ?_
    fail "gi"
    rename_i l hl2
    refine for_wl (xs := ws) (j := 2) (fun pre σ' H' => ∃ (x2 : Option V), σ' = [some (.ref p), some (.ref l), x2] ∧ Same H H' ∧ H' l = some (.lst (pre.map sv))) ⟨none, rfl, by fail "same", by fail "look"⟩ ?_ ?_ ?_
    · rintro pre σ' H' ⟨x2, rfl, a1, a2⟩
      fail "seq"
    · rintro pre x post σ' H' ex ⟨x2, rfl, a1, a2⟩
      have hx : Word x := hc.wd x (by rw [ex]; simp)
      have hx2 : x.length ≤ 100000 := by have := hx.2.1; omega
      have hm : (pre.map sv).length < 100000 := by rw [List.length_map]; have := congrArg List.length ex; rw [List.length_append] at this; omega
      have nx : x ∉ pre := fun z => by
        have := hc.nd
        rw [ex] at this
        exact (List.nodup_append.mp this).2.2 x z x List.mem_cons_self rfl
      fail "gi"
      refine itnb (fun e => absurd hx (of_decide_eq_false e)) fun _ => ?_
      fail "gi"
      refine itd (fun e => absurd e nx) fun _ => ?_
      fail "gi"
      exact ⟨by fail "same", by fail "look"⟩
    · rintro σ' H' ⟨x2, rfl, a1, a2⟩
      fail "gi"
      intro ys py so
      fail "gi"
      exact q ys py _ _ (by fail "same") (by fail "fr") (by fail "look")
abbrev s_fitting : Stmt := top 21
theorem sc_fitting : FnScope ["words", "text", "place", "word"] ["words", "text", "place"] (defScope s_fitting) := ⟨rfl, rfl, rfl, by decide +kernel, rfl, by decide +kernel, by decide +kernel⟩
def sp_fitting : Sp := fun vs H Q _ => ∃ (p : Addr) (t : Wd) (k : Nat), vs = [.ref p, sv t, .int k] ∧ ∃ ws : List Wd, H p = some (.lst (ws.map sv)) ∧ Code ws ∧ t.length ≤ 1000 ∧ ∀ zs : List Wd, zs.Perm (ws.filter (fits t k)) → zs.Pairwise (fun x y => x.length ≤ y.length) → RetL H Q (zs.map sv)
theorem ok_fitting (B : Bi mg) (D : Def K mg "fitting" s_fitting) : Cal P w K mg base CX0 "fitting" 1 ["words", "text", "place"] sp_fitting := by
  have nd := sc_fitting.nd
  refine D.cal sc_fitting (fun _ _ _ _ _ _ us hl => match us, hl with | [_, _, _], _ => rfl) (fun vs H Q E h => ?_) (fun f cdv A outer s H vs Q E hr h => ?_)
  · obtain ⟨_, _, _, rfl, _⟩ := h
    rfl
  · obtain ⟨p, t, k, rfl, ws, hp, hc, ht, q⟩ := h
    refine ⟨_, PSs.nox (pss_one (ps_ret (pe_sortLen hr.units (by rfl) B.sorted (by rfl) B.len (pa_cons (pe_lc (own := [("word", 3)]) (g := gName 3) rfl nd (pi_list (pv 0)) (blkOk_by (own := [("word", 3)]) (N := ["words", "text", "place", "word"]) (sc := defScope s_fitting) (by decide +kernel)) (fun _ _ _ _ _ => (pg_name (i := 3) nd rfl (.inl rfl))) (fun _ _ _ _ _ => (pts_one (pt_cmpR op_eqw (pe_slice (r := rSlW) sl_w (pv 1) (po_some (pv 2)) (po_some (pe_op op_add (pv 2) (pe_callB call_lenw (by rfl) B.len PySem.boot_len (pa_cons (pv 3) pa_nil))))) (pv 3) (nomark _)))) (fun _ _ _ _ _ => (pv 3))) pa_nil)))), ?_⟩
    try dsimp only [cxOf, Cx.nox, Cx.wish]
    have hl := hc.le
    fail "gi"
    rename_i D hD
    refine lc_w (xs := ws) (j := 3) (fits t k) sv hD (by fail "seq") (by omega) (fun x hx H1 e1 Q1 q1 => ?_) (fun x hx hc H1 e1 Q1 q1 => ?_) (fun H1 e1 h1 => ?_)
    · have := (hc.wd x hx).2.1
      fail "go"
      rw [cutW_mid]
      exact q1 _ (Same.refl _)
    · fail "go"
      exact q1 _ (Same.refl _)
    · have fl := List.length_filter_le (fits t k) ws
      have fb : ∀ w ∈ ws.filter (fits t k), w.length ≤ 1000 := fun w hw => by
        have := (hc.wd w (List.mem_filter.mp hw).1).2.1
        omega
      fail "go"
      intro zs p2 pz pw hp2
      exact q zs pz pw _ _ (by fail "same") (by fail "fr") (by fail "look")
abbrev s_counts_of : Stmt := top 22
theorem sc_counts_of : FnScope ["words", "text", "found", "place", "word"] ["words", "text"] (defScope s_counts_of) := ⟨rfl, rfl, rfl, by decide +kernel, rfl, by decide +kernel, by decide +kernel⟩
theorem perm_sum {xs ys : List Int} (h : xs.Perm ys) : xs.sum = ys.sum := by
  induction h with
  | nil => rfl
  | cons x _ ih => rw [List.sum_cons, List.sum_cons, ih]
  | swap x y l => simp only [List.sum_cons]; omega
  | trans _ _ h1 h2 => exact h1.trans h2
theorem perm_part {t : Wd} {p : Nat} {r : List Int} {zs ws : List Wd} (h : zs.Perm (ws.filter (fits t p))) : (zs.map fun w => r.getD (w.length - 1) 0).sum = part t p r ws := by
  unfold part
  exact perm_sum (h.map _)
def sp_counts_of : Sp := fun vs H Q _ => ∃ (lw : Addr) (t : Wd), vs = [.ref lw, sv t] ∧ ∃ ws : List Wd, H lw = some (.lst (ws.map sv)) ∧ Code ws ∧ t.length ≤ 1000 ∧ RetL H Q ((cnt ws t).map V.int)
theorem ok_counts_of (B : Bi mg) (D : Def K mg "counts_of" s_counts_of) (c_fitting : Cal P w K mg base CX0 "fitting" 1 ["words", "text", "place"] sp_fitting) : Cal P w K mg base CX0 "counts_of" 2 ["words", "text"] sp_counts_of := by
  have nd := sc_counts_of.nd
  refine D.cal sc_counts_of (fun _ _ _ _ _ _ us hl => match us, hl with | [_, _], _ => rfl) (fun vs H Q E h => ?_) (fun f cdv A outer s H vs Q E hr h => ?_)
  · obtain ⟨_, _, rfl, _⟩ := h
    rfl
  · obtain ⟨lw, t, rfl, ws, hw, hc, ht, q⟩ := h
    refine ⟨_, PSs.nox (pss_cons (ps_set (i := 2) nd rfl (.inr rfl) (pe_op op_catl (pe_op op_repn (pe_lst (pa_cons pe_int pa_nil)) (pe_callB call_lenw (by rfl) B.len PySem.boot_len (pa_cons (pv 1) pa_nil))) (pe_lst (pa_cons pe_int pa_nil))))
      (pss_cons (ps_for PassesOwn.never rfl (pi_revR (by rfl) B.reversed (prg_1 (by rfl) B.range (pe_callB call_lenw (by rfl) B.len PySem.boot_len (pa_cons (pv 1) pa_nil)))) (pg_name (i := 3) nd rfl (.inr rfl))
        (pss_one (ps_asg (pe_callB (r := rSumN K) (call_sumn rfl) (by rfl) B.sum (by decide +kernel) (pa_cons (pe_lc (own := [("word", 4)]) (g := gName 4) (tt := tYes) rfl nd (pi_list (pe_cal c_fitting hr (pa_cons (pv 0) (pa_cons (pv 1) (pa_cons (pv 3) pa_nil))))) (blkOk_by (own := [("word", 4)]) (N := ["words", "text", "found", "place", "word"]) (sc := defScope s_counts_of) (by decide +kernel)) (fun _ _ _ _ _ => (pg_name (i := 4) nd rfl (.inl rfl))) (fun _ _ _ _ _ => pts_nil) (fun _ _ _ _ _ => (pe_ix (r := rIxLn K) ix_l (pv 2) (pe_op op_add (pv 3) (pe_callB call_lenw (by rfl) B.len PySem.boot_len (pa_cons (pv 4) pa_nil))) (fun _ _ => rfl)))) pa_nil)) (pg_sub (t := rSetLn) (pv 2) (pv 3) set_ln))))
      (pss_one (ps_ret (pv 2))))), ?_⟩
    try dsimp only [cxOf, Cx.nox, Cx.wish]
    fail "gi"
    rename_i p1 hp1 p2 hp2 p3 hp3 l hl
    have nl : lw ≠ l := (ne_free hl (by fail "look" : _ = some (HO.lst (ws.map sv)))).symm
    refine for_rangeC (fun i σ' H' => ∃ (x3 x4 : Option V), σ' = [some (.ref lw), some (sv t), some (.ref l), x3, x4] ∧ Same H H' ∧ H' l = some (.lst ((List.replicate (t.length - i) 0 ++ tab ws t i).map V.int))) ⟨none, none, rfl, by fail "same", by rw [upd_same]; simp [tab]⟩ ?_ ?_
    · rintro i σ' H' hi ⟨x3, x4, rfl, a1, a2⟩
      have hi' : i < t.length := by omega
      have e1 : t.length - i = (t.length - (i + 1)) + 1 := by omega
      rw [e1, List.replicate_succ', List.append_assoc] at a2
      have a2' : H' l = some (.lst ((List.replicate (t.length - (i + 1)) 0 ++ 0 :: tab ws t i).map V.int)) := a2
      have e2 : (0 + (((t.length : Int) - 0).toNat : Int) - 1 + (i : Int) * -1) = ((t.length - (i + 1) : Nat) : Int) := by omega
      rw [e2]
      have tl := tab_len ws t i
      fail "gi"
      intro zs pz pw
      fail "gi"
      rename_i pf H2 s2 npf hpf D2 hD2
      have zl : zs.length ≤ 12 := by
        have := pz.length_eq
        have := List.length_filter_le (fits t (t.length - (i + 1))) ws
        have := hc.le
        omega
      refine lc_w (xs := zs) (j := 4) (fun _ => true) (fun w => .int ((tab ws t i).getD (w.length - 1) 0)) hD2 (by fail "seq") (by omega) (fun x hx => evYes) (fun x hx _ H3 e3 Q1 q1 => ?_) (fun H3 e3 h3 => ?_)
      · have hx' := List.mem_filter.mp (pz.mem_iff.mp hx)
        have hw1 := hc.wd x hx'.1
        have hx1 := hw1.1
        have hx2 := hw1.2.1
        have hf := of_decide_eq_true hx'.2
        have hxl : x.length ≤ i + 1 := by
          have := congrArg List.length hf
          rw [List.length_take, List.length_drop] at this
          omega
        have g2 := at_after (a := t.length - (i + 1)) (s := 0) (r := tab ws t i) (k := ((t.length - (i + 1) : Nat) : Int) + (x.length : Int)) (j := x.length - 1) (by omega) (by omega)
        fail "go"
        exact q1 _ (Same.refl _)
      · rw [List.filter_eq_self.mpr fun _ _ => rfl] at h3
        have h3' : H3 D2 = some (.lst ((zs.map fun w => (tab ws t i).getD (w.length - 1) 0).map V.int)) := by rw [h3, List.map_map]; rfl
        have g3 : ((t.length - (i + 1) : Nat) : Int) < ((List.replicate (t.length - (i + 1)) 0 ++ 0 :: tab ws t i).map V.int).length := by
          simp only [List.length_map, List.length_append, List.length_replicate, List.length_cons]; omega
        have a2'' : H3 l = some (.lst ((List.replicate (t.length - (i + 1)) 0 ++ 0 :: tab ws t i).map V.int)) := by fail "look"
        fail "go"
        refine ⟨by fail "same", ?_⟩
        rw [upd_same, perm_part pz]
        exact congrArg (fun z => some (HO.lst z)) (set_mid (k := ((t.length - (i + 1) : Nat) : Int)) rfl)
    · rintro σ' H' ⟨x3, x4, rfl, a1, a2⟩
      fail "gi"
      refine q _ _ a1 (by fail "fr") ?_
      rw [a2, show t.length - ((t.length : Int) - 0).toNat = 0 by omega, show ((t.length : Int) - 0).toNat = t.length by omega]; rfl
abbrev s_table_of : Stmt := top 28
theorem sc_table_of : FnScope ["words", "table", "word", "other"] ["words"] (defScope s_table_of) := ⟨rfl, rfl, rfl, by decide +kernel, rfl, by decide +kernel, by decide +kernel⟩
def sp_table_of (C : Addr) : Sp := fun vs H Q _ => ∃ p : Addr, vs = [.ref p] ∧ ∃ ws : List Wd, H p = some (.lst (ws.map sv)) ∧ Code ws ∧
  ∀ H' x E dx la ca fa kc, TabAt C H H' x E [] dx la ca fa kc → Full ws E → Q (.ref x) H'
theorem ok_table_of (B : Bi mg) (T_Table : TableC K C) (D : Def K mg "table_of" s_table_of) (c_Table___init__ : CalI P w K mg base CX0 C "Table" 1 ["self"] (sp_Table___init__ C)) (c_Table_begin : CalM P w K mg base CX0 C "begin" 2 ["self", "word", "other"] (sp_Table_begin C)) (c_Table_spread : CalM P w K mg base CX0 C "spread" 4 ["self", "words"] (sp_Table_spread C)) : Cal P w K mg base CX0 "table_of" 5 ["words"] (sp_table_of C) := by
  have nd := sc_table_of.nd
  obtain ⟨T_cl, T_n1, T_n2, T_n3⟩ := T_Table
  refine D.cal sc_table_of (fun _ _ _ _ _ _ us hl => match us, hl with | [_], _ => rfl) (fun vs H Q E h => ?_) (fun f cdv A outer s H vs Q E hr h => ?_)
  · obtain ⟨_, rfl, _⟩ := h
    rfl
  · obtain ⟨p, rfl, ws, hp, c, q⟩ := h
    refine ⟨_, PSs.nox (pss_cons (ps_set (i := 1) nd rfl (.inl rfl) (pe_calI c_Table___init__ hr))
      (pss_cons (ps_for PassesOwn.never rfl (pi_list (pv 0)) (pg_name (i := 2) nd rfl (.inl rfl))
        (pss_one (ps_for PassesOwn.never rfl (pi_list (pv 0)) (pg_name (i := 3) nd rfl (.inl rfl))
          (pss_one (ps_expr (pe_calM c_Table_begin T_cl hr (pv 1) (pa_cons (pv 2) (pa_cons (pv 3) pa_nil))))))))
      (pss_cons (ps_expr (pe_calM c_Table_spread T_cl hr (pv 1) (pa_cons (pv 0) pa_nil)))
      (pss_one (ps_ret (pv 1)))))), ?_⟩
    try dsimp only [cxOf, Cx.nox, Cx.wish]
    fail "gi"
    intro x dx hx hd ne
    refine ⟨x, rfl, H, dx, hx, mutd (new hd) hx, upd_same, fun H1 la ca fa T => ⟨rfl, ?_⟩⟩
    have hp1 := T.s _ _ hp
    fail "gi"
    refine for_wl (xs := ws) (j := 2) (fun pre σ' H' => ∃ (E : Tb) (F : List Wd) (kc : List (Key × V)) (y z : Option V), σ' = [some (.ref p), some (.ref x), y, z] ∧ TabAt C H H' x E F dx la ca fa kc ∧ Tbl ws E F ∧ (∀ r n, look E r = some n → r ∈ F) ∧ (∀ w ∈ pre, ∀ o ∈ ws, Bg E w o))
      ⟨[], [], [], none, none, rfl, T, ⟨Tbl.nil c, (fun r n h => by cases h), fun _ h => by cases h⟩⟩ ?_ ?_ ?_
    · rintro pre σ' H' ⟨E, F, kc, y, z, rfl, a1, a2, a3, a4⟩
      exact SqL.of (a1.s _ _ hp)
    · rintro pre w' post σ' H' ex ⟨E, F, kc, y, z, rfl, a1, a2, a3, a4⟩
      have hw : w' ∈ ws := by rw [ex]; exact List.mem_append_right _ List.mem_cons_self
      have hp2 := a1.s _ _ hp
      fail "gi"
      refine for_wl (xs := ws) (j := 3) (fun pre1 σ' H' => ∃ (E : Tb) (F : List Wd) (kc : List (Key × V)) (z : Option V), σ' = [some (.ref p), some (.ref x), some (sv w'), z] ∧ TabAt C H H' x E F dx la ca fa kc ∧ Tbl ws E F ∧ (∀ r n, look E r = some n → r ∈ F) ∧ (∀ w ∈ pre, ∀ o ∈ ws, Bg E w o) ∧ ∀ o ∈ pre1, Bg E w' o)
        ⟨E, F, kc, z, rfl, a1, a2, a3, a4, fun _ h => nomatch h⟩ ?_ ?_ ?_
      · rintro pre σ' H' ⟨E, F, kc, z, rfl, a1, a2, a3, a4⟩
        exact SqL.of (a1.s _ _ hp)
      · rintro pre1 o' post1 σ' H' ex1 ⟨E, F, kc, z, rfl, a1, a2, a3, a4, a5⟩
        have ho : o' ∈ ws := by rw [ex1]; exact List.mem_append_right _ List.mem_cons_self
        have hx := a1.hx
        unfold tabF at hx
        fail "gi"
        have := c.len hw
        have := c.len ho
        have := a2.len c
        have b := a2.flen
        refine ⟨H, E, F, dx, la, ca, fa, kc, a1, by omega, by omega, by omega, by omega, fun H3 kc3 T3 => ?_⟩
        obtain ⟨g1, g2, g3⟩ := a2.begin c hw ho
        obtain ⟨G, g4, g5⟩ := g2.ex
        refine ⟨_, _, kc3, _, rfl, T3, g1, fun r n hr => ?_, fun v hv o h => (a4 v hv o h).mono g2.mono, fun o h => ?_⟩
        · rw [g4]
          rcases g5 r n hr with z | z
          · exact List.mem_append_left _ (a3 r n z)
          · exact List.mem_append_right _ z
        · rcases List.mem_append.mp h with h | h
          · exact (a5 o h).mono g2.mono
          · rw [List.mem_singleton.mp h]; exact g3
      · rintro σ' H' ⟨E, F, kc, z, rfl, a1, a2, a3, a4, a5⟩
        fail "gi"
        refine ⟨E, F, kc, _, _, rfl, a1, a2, a3, fun v hv o h => ?_⟩
        rcases List.mem_append.mp hv with hv | hv
        · exact a4 v hv o h
        · rw [List.mem_singleton.mp hv]; exact a5 o h
    · rintro σ' H' ⟨E, F, kc, y, z, rfl, a1, a2, a3, a4⟩
      have hx := a1.hx
      unfold tabF at hx
      fail "gi"
      refine ⟨ws, c, H, E, F, dx, la, ca, fa, kc, a1, hp, a2, fun r n h => .inr (a3 r n h), a4, fun H3 E3 fa3 kc3 T3 f3 _ => ?_⟩
      fail "gi"
      exact q _ x E3 dx la ca fa3 kc3 T3 f3
/-- how many signs two texts begin with alike -/
def shr : Wd → Wd → Nat
  | a :: r, b :: t => if a = b then shr r t + 1 else 0
  | _, _ => 0
theorem shr_cons (x y : Nat) (r t : Wd) : shr (x :: r) (y :: t) = if x = y then shr r t + 1 else 0 := rfl
abbrev s_shared : Stmt := top 19
theorem sc_shared : FnScope ["text", "other", "many"] ["text", "other"] (defScope s_shared) := ⟨rfl, rfl, rfl, by decide +kernel, rfl, by decide +kernel, by decide +kernel⟩
def sp_shared : Sp := fun vs H Q _ => ∃ a b : Wd, vs = [sv a, sv b] ∧ a.length ≤ 100000 ∧ b.length ≤ 100000 ∧ Q (.int (shr a b : Nat)) H
theorem ok_shared (B : Bi mg) (D : Def K mg "shared" s_shared) : Cal P w K mg base CX0 "shared" 1 ["text", "other"] sp_shared := by
  have nd := sc_shared.nd
  refine D.cal sc_shared (fun _ _ _ _ _ _ us hl => match us, hl with | [_, _], _ => rfl) (fun vs H Q E h => ?_) (fun f cdv A outer s H vs Q E hr h => ?_)
  · obtain ⟨_, _, rfl, _⟩ := h
    rfl
  · obtain ⟨a, b, rfl, ha, hb, q⟩ := h
    refine ⟨_, PSs.nox (pss_cons (ps_set (i := 2) nd rfl (.inl rfl) pe_int)
      (pss_cons (ps_while PassesOwn.never (PW.pt (pw_and (pt_cmpR op_lt (pv 2) (pe_callB call_lenw (by rfl) B.len PySem.boot_len (pa_cons (pv 0) pa_nil)) (nomark _)) (pw_and (pt_cmpR op_lt (pv 2) (pe_callB call_lenw (by rfl) B.len PySem.boot_len (pa_cons (pv 1) pa_nil)) (nomark _)) (pw_and1 (pt_cmpR op_eqw (pe_ix ix_w (pv 0) (pv 2) (fun _ _ => rfl)) (pe_ix ix_w (pv 1) (pv 2) (fun _ _ => rfl)) (nomark _))))))
        (pss_one (ps_set (i := 2) nd rfl (.inl rfl) (pe_op op_add (pv 2) pe_int))))
      (pss_one (ps_ret (pv 2))))), ?_⟩
    try dsimp only [cxOf, Cx.nox, Cx.wish]
    refine ⟨fun m σ H' => ∃ i : Nat, σ = [some (sv a), some (sv b), some (.int i)] ∧ H' = H ∧ m = a.length - i ∧ shr a b = i + shr (a.drop i) (b.drop i), ⟨_, 0, rfl, rfl, rfl, by simp⟩, ?_⟩
    rintro m σ H' ⟨i, rfl, rfl, rfl, e⟩
    have out : shr (a.drop i) (b.drop i) = 0 → Q (.int (i : Nat)) H' := fun z => by
      rw [e, z] at q
      exact q
    fail "go"
    refine itd (fun e1 => ?_) fun e1 => ?_
    · fail "go"
      refine itd (fun e2 => ?_) fun e2 => ?_
      · have h1 : i < a.length := by omega
        have h2 : i < b.length := by omega
        have d1 : a.drop i = a[i] :: a.drop (i + 1) := (List.getElem_cons_drop h1).symm
        have d2 : b.drop i = b[i] :: b.drop (i + 1) := (List.getElem_cons_drop h2).symm
        rw [d1, d2] at e out
        have g1 : a[((i : Nat) : Int).toNat]? = some a[i] := by simp [h1]
        have g2 : b[((i : Nat) : Int).toNat]? = some b[i] := by simp [h2]
        fail "go"
        refine itd (fun e3 => ?_) fun e3 => ?_
        · refine ⟨fun σ' H2 => ∃ m', m' < a.length - i ∧ ∃ i : Nat, σ' = [some (sv a), some (sv b), some (.int i)] ∧ H2 = H' ∧ m' = a.length - i ∧ shr a b = i + shr (a.drop i) (b.drop i), fun _ _ h => h, ?_⟩
          fail "go"
          refine ⟨a.length - (i + 1), by omega, i + 1, rfl, rfl, rfl, ?_⟩
          rw [shr_cons, if_pos (by simpa using e3)] at e
          omega
        · fail "go"
          refine out ?_
          rw [shr_cons, if_neg (by simpa using e3)]
      · fail "go"
        refine out ?_
        rw [List.drop_of_length_le (l := b) (by omega)]
        cases a.drop i <;> rfl
    · fail "go"
      refine out ?_
      rw [List.drop_of_length_le (l := a) (by omega)]
      rfl

/-! ### heights, by themselves -/
def tgt (r w : Wd) : Option Wd := (step r w).map (·.1)
def wval (h : Wd → Nat) (r w : Wd) : Nat := match step r w with
  | none => shr r w
  | some (s, true) => r.length + h s
  | some (s, false) => w.length + h s
def hval (ws : List Wd) (h : Wd → Nat) (r : Wd) : Nat := most (ws.map (wval h r))
theorem wval_congr {h g : Wd → Nat} {r w : Wd} (e : ∀ s, tgt r w = some s → h s = g s) : wval h r w = wval g r w := by
  unfold wval
  unfold tgt at e
  cases k : step r w with
  | none => rfl
  | some p =>
    obtain ⟨s, b⟩ := p
    rw [k] at e
    have := e s rfl
    cases b
    · show w.length + h s = w.length + g s; omega
    · show r.length + h s = r.length + g s; omega
theorem hval_congr {ws : List Wd} {h g : Wd → Nat} {r : Wd} (e : ∀ w ∈ ws, ∀ s, tgt r w = some s → h s = g s) : hval ws h r = hval ws g r :=
  congrArg most (List.map_congr_left fun w hw => wval_congr (e w hw))
inductive Hgt (ws : List Wd) : Wd → Prop
  | mk {r : Wd} : (∀ w ∈ ws, ∀ s, tgt r w = some s → Hgt ws s) → Hgt ws r
def isT (q : Wd) (p : Wd × Wd) : Bool := decide (tgt p.1 p.2 = some q)
/-- how many of the pairs lead from r to what is not in P -/
def out (PW : List (Wd × Wd)) (P : List Wd) (r : Wd) : Nat := PW.countP fun p => decide (p.1 = r) && match tgt p.1 p.2 with
  | some s => !decide (s ∈ P)
  | none => false
/-- those from which the pairs lead to q -/
def into (PW : List (Wd × Wd)) (q : Wd) : List Wd := (PW.filter (isT q)).map (·.1)
theorem into_count (r q : Wd) : ∀ PW : List (Wd × Wd), (into PW q).count r = PW.countP fun p => decide (p.1 = r) && isT q p
  | [] => rfl
  | p :: PW => by
    have ih := into_count r q PW
    unfold into at ih ⊢
    rw [List.countP_cons, ← ih, List.filter_cons]
    by_cases h : isT q p = true
    · rw [if_pos h, List.map_cons, List.count_cons, h, Bool.and_true]
      congr 1
      by_cases e : p.1 = r
      · rw [if_pos (by rw [e]; exact beq_self_eq_true r), if_pos (decide_eq_true e)]
      · rw [if_neg (by simpa using e), if_neg (by simpa using e)]
    · rw [if_neg h, Bool.eq_false_iff.mpr h, Bool.and_false]
      rfl
theorem out_add {q : Wd} {P : List Wd} (hq : q ∉ P) (r : Wd) (PW : List (Wd × Wd)) : out PW P r = out PW (P ++ [q]) r + (into PW q).count r := by
  rw [into_count]
  unfold out
  induction PW with
  | nil => rfl
  | cons p PW ih =>
    rw [List.countP_cons, List.countP_cons, List.countP_cons, ih]
    have one : (if (decide (p.1 = r) && match tgt p.1 p.2 with | some s => !decide (s ∈ P) | none => false) = true then 1 else 0) = (if (decide (p.1 = r) && match tgt p.1 p.2 with | some s => !decide (s ∈ P ++ [q]) | none => false) = true then 1 else 0) + (if (decide (p.1 = r) && isT q p) = true then 1 else 0) := by
      unfold isT
      by_cases e : p.1 = r
      · rw [decide_eq_true e, Bool.true_and, Bool.true_and, Bool.true_and]
        cases k : tgt p.1 p.2 with
        | none => rfl
        | some s =>
          by_cases z : s = q
          · subst z
            simp [hq]
          · by_cases y : s ∈ P
            · simp [y, z]
            · simp [y, z]
      · rw [decide_eq_false e, Bool.false_and, Bool.false_and, Bool.false_and]
        rfl
    omega
theorem out_zero {PW : List (Wd × Wd)} {P : List Wd} {r : Wd} : out PW P r = 0 ↔ ∀ p ∈ PW, p.1 = r → ∀ s, tgt p.1 p.2 = some s → s ∈ P := by
  unfold out
  rw [List.countP_eq_zero]
  constructor
  · intro h p hp e s k
    have := h p hp
    rw [k, decide_eq_true e] at this
    simpa using this
  · intro h p hp
    cases k : tgt p.1 p.2 with
    | none => simp
    | some s =>
      by_cases e : p.1 = r
      · simp [h p hp e s k]
      · simp [e]
theorem out_nil (PW : List (Wd × Wd)) (r : Wd) (p : Wd × Wd) : out (PW ++ [p]) [] r = out PW [] r + if p.1 = r ∧ (tgt p.1 p.2).isSome = true then 1 else 0 := by
  unfold out
  rw [List.countP_append, List.countP_singleton]
  congr 1
  cases k : tgt p.1 p.2 with
  | none => simp
  | some s =>
    by_cases e : p.1 = r
    · simp [e]
    · simp [e]
theorem into_snoc (PW : List (Wd × Wd)) (q : Wd) (p : Wd × Wd) : into (PW ++ [p]) q = into PW q ++ if tgt p.1 p.2 = some q then [p.1] else [] := by
  unfold into isT
  rw [List.filter_append, List.map_append]
  congr 1
  by_cases h : tgt p.1 p.2 = some q
  · simp [h]
  · simp [h]
/-- heights that are right at P -/
structure Hts (ws R P : List Wd) (h : Wd → Nat) : Prop where
  nd : P.Nodup
  iff : ∀ r, r ∈ P ↔ r ∈ R ∧ Hgt ws r
  val : ∀ r ∈ P, h r = hval ws h r
theorem Hts.uniq {ws R R' P P' : List Wd} {h g : Wd → Nat} (a : Hts ws R P h) (b : Hts ws R' P' g) (cl : ∀ r ∈ R, ∀ w ∈ ws, ∀ s, tgt r w = some s → s ∈ R) (cl' : ∀ r ∈ R', ∀ w ∈ ws, ∀ s, tgt r w = some s → s ∈ R') : ∀ r, Hgt ws r → r ∈ R → r ∈ R' → h r = g r := by
  intro r hr
  induction hr with
  | @mk r hs ih =>
    intro h1 h2
    rw [a.val r ((a.iff r).mpr ⟨h1, .mk hs⟩), b.val r ((b.iff r).mpr ⟨h2, .mk hs⟩)]
    exact hval_congr fun w hw s k => ih w hw s k (cl r h1 w hw s k) (cl' r h2 w hw s k)

abbrev s_worth : Stmt := top 30
theorem sc_worth : FnScope ["rest", "word", "found", "step"] ["rest", "word", "found"] (defScope s_worth) := ⟨rfl, rfl, rfl, by decide +kernel, rfl, by decide +kernel, by decide +kernel⟩
def sp_worth : Sp := fun vs H Q _ => ∃ (r w : Wd) (f : Addr), vs = [sv r, sv w, .ref f] ∧ r.length ≤ 1000 ∧ w.length ≤ 1000 ∧ ∃ fk h, Rd H f (.dK fk) ∧ (∀ s, tgt r w = some s → valV fk (.inr (S s)) = some (.int (h s : Nat))) ∧ Ret H Q (.int (wval h r w : Nat))
theorem ok_worth (B : Bi mg) (D : Def K mg "worth" s_worth) (c_stepped : Cal P w K mg base CX0 "stepped" 2 ["rest", "word"] sp_stepped) (c_shared : Cal P w K mg base CX0 "shared" 1 ["text", "other"] sp_shared) : Cal P w K mg base CX0 "worth" 3 ["rest", "word", "found"] sp_worth := by
  have nd := sc_worth.nd
  refine D.cal sc_worth (fun _ _ _ _ _ _ us hl => match us, hl with | [_, _, _], _ => rfl) (fun vs H Q E h => ?_) (fun f cdv A outer s H vs Q E hr h => ?_)
  · obtain ⟨_, _, _, rfl, _⟩ := h
    rfl
  · obtain ⟨r, w', f', rfl, hr1, hw, fk, h, hf, ht, q⟩ := h
    refine ⟨_, PSs.nox (pss_cons (ps_set (i := 3) nd rfl (.inl rfl) (pe_cal c_stepped hr (pa_cons (pv 0) (pa_cons (pv 1) pa_nil))))
      (pss_cons (ps_if (pt_cmpR op_isN (pv 3) pe_non (nomark _))
        (pss_one (ps_ret (pe_cal c_shared hr (pa_cons (pv 0) (pa_cons (pv 1) pa_nil)))))
        pss_nil)
      (pss_cons (ps_if (pt_val (pe_ix (r := rIxTn K) ix_t (pv 3) pe_int (fun _ _ => rfl)))
        (pss_one (ps_ret (pe_op op_add (pe_callB call_lenw (by rfl) B.len PySem.boot_len (pa_cons (pv 0) pa_nil)) (pe_dgetN (hu_of hr) (pv 2) (pe_ix (r := rIxTn K) ix_t (pv 3) pe_int (fun _ _ => rfl)) (fun _ _ => rfl)))))
        pss_nil)
      (pss_one (ps_ret (pe_op op_add (pe_callB call_lenw (by rfl) B.len PySem.boot_len (pa_cons (pv 1) pa_nil)) (pe_dgetN (hu_of hr) (pv 2) (pe_ix (r := rIxTn K) ix_t (pv 3) pe_int (fun _ _ => rfl)) (fun _ _ => rfl)))))))), ?_⟩
    try dsimp only [cxOf, Cx.nox, Cx.wish]
    have e0 : step r w' = none → wval h r w' = shr r w' := fun e => by unfold wval; rw [e]
    have e1 : ∀ s, step r w' = some (s, true) → wval h r w' = r.length + h s := fun s e => by unfold wval; rw [e]
    have e2 : ∀ s, step r w' = some (s, false) → wval h r w' = w'.length + h s := fun s e => by unfold wval; rw [e]
    have et : ∀ s k, step r w' = some (s, k) → valV fk (.inr (S s)) = some (.int (h s : Nat)) := fun s k e => ht s (by unfold tgt; rw [e]; rfl)
    rcases hf with hf | ⟨o, hf⟩
    all_goals
      fail "gi"
      refine ⟨fun e => ?_, fun s k e => ?_⟩
      · rw [e0 e] at q
        fail "gi"
        exact q _ (by fail "same")
      · have lv := et s k e
        cases k with
        | true =>
          rw [e1 s e] at q
          fail "gi"
          exact q _ (by fail "same")
        | false =>
          rw [e2 s e] at q
          fail "gi"
          exact q _ (by fail "same")
def cntS (PW : List (Wd × Wd)) (r : Wd) : Nat := out PW [] r
theorem key_mem {ks : List Wd} {r : Wd} : (.inr (S r) : Key) ∈ (ks.map fun a => (.inr (S a) : Key)) ↔ r ∈ ks := by
  rw [List.mem_map]
  exact ⟨fun ⟨a, h1, h2⟩ => (inrS.mp h2) ▸ h1, fun h => ⟨r, h, rfl⟩⟩
theorem keys_len2 {ms : List (Key × V)} {ks : List Wd} (h : ms.map (·.1) = ks.map fun a => (.inr (S a) : Key)) : ms.length = ks.length := by
  have := congrArg List.length h
  rwa [List.length_map, List.length_map] at this
theorem put_new {ms : List (Key × V)} {ks : List Wd} (h : ms.map (·.1) = ks.map fun a => (.inr (S a) : Key)) {r : Wd} (hr : r ∉ ks) (v : V) : (putK ms (.inr (S r)) v).map (·.1) = (ks ++ [r]).map fun a => (.inr (S a) : Key) := by
  have kp := keys_putK ms (.inr (S r)) v
  rw [h] at kp
  rw [kp.2 (fun z => hr (key_mem.mp z)), List.map_append]; rfl
theorem put_old {ms : List (Key × V)} {ks : List Wd} (h : ms.map (·.1) = ks.map fun a => (.inr (S a) : Key)) {r : Wd} (hr : r ∈ ks) (v : V) : (putK ms (.inr (S r)) v).map (·.1) = ks.map fun a => (.inr (S a) : Key) := by
  have kp := keys_putK ms (.inr (S r)) v
  rw [h] at kp
  exact kp.1 (key_mem.mpr hr)
theorem valS_put (ms : List (Key × V)) (r s : Wd) (v : V) : valV (putK ms (.inr (S r)) v) (.inr (S s)) = if s = r then some v else valV ms (.inr (S s)) := by
  rw [valV_put]
  by_cases h : s = r
  · rw [if_pos (inrS.mpr h), if_pos h]
  · rw [if_neg (fun z => h (inrS.mp z)), if_neg h]
abbrev s_webs_of : Stmt := top 31
theorem sc_webs_of : FnScope ["words", "rests", "many", "behind", "rest", "word", "step"] ["words", "rests"] (defScope s_webs_of) := ⟨rfl, rfl, rfl, by decide +kernel, rfl, by decide +kernel, by decide +kernel⟩
def sp_webs_of : Sp := fun vs H Q _ => ∃ p d : Addr, vs = [.ref p, .ref d] ∧ ∃ (ws R : List Wd) (kvs : List (Key × V)), H p = some (.lst (ws.map sv)) ∧ H d = some (.dK kvs) ∧ kvs.map (·.1) = R.map (fun a => (.inr (S a) : Key)) ∧ R.Nodup ∧ R.length ≤ 132 ∧ Code ws ∧ (∀ r ∈ R, r.length ≤ 10) ∧ (∀ r ∈ R, ∀ w ∈ ws, ∀ s, tgt r w = some s → s ∈ R) ∧
  ∀ (PW : List (Wd × Wd)) (af : Wd → Addr) (mk bk : List (Key × V)) (m b t : Addr) (H' : Hp), Same H H' → H m = none → H b = none → H t = none → H' t = some (.tup [.ref m, .ref b]) → H' m = some (.dK mk) → H' b = some (.dK bk) → mk.map (·.1) = R.map (fun a => (.inr (S a) : Key)) → (∀ r ∈ R, valV mk (.inr (S r)) = some (.int (out PW [] r : Nat))) →
    (∀ r ∈ R, valV bk (.inr (S r)) = some (.ref (af r)) ∧ H' (af r) = some (.lst ((into PW r).map sv))) → (∀ q ∈ PW, q.1 ∈ R ∧ q.2 ∈ ws) → (∀ r ∈ R, ∀ w ∈ ws, (r, w) ∈ PW) → PW.length ≤ 2000 → Q (.ref t) H'
theorem ok_webs_of (B : Bi mg) (D : Def K mg "webs_of" s_webs_of) (c_stepped : Cal P w K mg base CX0 "stepped" 2 ["rest", "word"] sp_stepped) : Cal P w K mg base CX0 "webs_of" 3 ["words", "rests"] sp_webs_of := by
  have nd := sc_webs_of.nd
  refine D.cal sc_webs_of (fun _ _ _ _ _ _ us hl => match us, hl with | [_, _], _ => rfl) (fun vs H Q E h => ?_) (fun f cdv A outer s H vs Q E hr h => ?_)
  · obtain ⟨_, _, rfl, _⟩ := h
    rfl
  · obtain ⟨p, d, rfl, ws, R, kvs, hp, hd, hk, ndR, rl, c, r10, cl, q⟩ := h
    refine ⟨_, PSs.nox (pss_cons (ps_set (i := 2) nd rfl (.inl rfl) pe_dnewK)
      (pss_cons (ps_set (i := 3) nd rfl (.inl rfl) pe_dnewK)
      (pss_cons (ps_lock (ps_for PassesOwn.never rfl (pi_keys (pv 1)) (pg_name (i := 4) nd rfl (.inl rfl))
        (pss_cons (ps_dputN (hu_of hr) (pv 2) (pv 4) pe_int rfl)
        (pss_one (ps_dputN (hu_of hr) (pv 3) (pv 4) (pe_lst pa_nil) rfl)))))
      (pss_cons (ps_lock (ps_for PassesOwn.never rfl (pi_keys (pv 1)) (pg_name (i := 4) nd rfl (.inl rfl))
        (pss_one (ps_for PassesOwn.never rfl (pi_list (pv 0)) (pg_name (i := 5) nd rfl (.inl rfl))
          (pss_cons (ps_set (i := 6) nd rfl (.inl rfl) (pe_cal c_stepped hr (pa_cons (pv 4) (pa_cons (pv 5) pa_nil))))
          (pss_one (ps_if (pt_cmpR op_notN (pv 6) pe_non (nomark _))
            (pss_cons (ps_dputN (hu_of hr) (pv 2) (pv 4) (pe_op op_add (pe_dgetN (hu_of hr) (pv 2) (pv 4) (fun _ _ => rfl)) pe_int) rfl)
            (pss_one (ps_expr (pe_bm PySem.F.plainAttrs_list PySem.F.slot_list_append PySem.F.type_list_append mt_app (pe_dgetN (hu_of hr) (pv 3) (pe_ix (r := rIxTn K) ix_t (pv 6) pe_int (fun _ _ => rfl)) (fun _ _ => rfl)) (pa_cons (pv 4) pa_nil)))))
            pss_nil)))))))
      (pss_one (ps_ret (pe_tup (pa_cons (pv 2) (pa_cons (pv 3) pa_nil))))))))), ?_⟩
    try dsimp only [cxOf, Cx.nox, Cx.wish]
    have pd : p ≠ d := fun z => by rw [z, hd] at hp; cases hp
    fail "gi"
    rename_i m nm b nb
    have nb0 : H b = none := (new nm).free nb
    have mb : m ≠ b := (ne_free nb (L2.upd_same : L2.upd H m (.dK []) m = _)).symm
    refine ⟨d, .dK kvs, (by fail "look"), trivial, fun od => ?_⟩
    obtain ⟨H0, s0, k1, k2, d0, back⟩ := lock_base (H' := L2.upd (L2.upd H m (.dK [])) b (.dK [])) (.frz od (.dK kvs)) hd (by fail "same")
    have m0 := k2 _ nm
    have b0 := k2 _ nb0
    have hm1 : L2.upd (L2.upd (L2.upd H m (.dK [])) b (.dK [])) d (.frz od (.dK kvs)) m = some (.dK []) := by
      rw [upd_ne (ne_free nm hd)]; fail "look"
    have hb1 : L2.upd (L2.upd (L2.upd H m (.dK [])) b (.dK [])) d (.frz od (.dK kvs)) b = some (.dK []) := by
      rw [upd_ne (ne_free nb0 hd)]; fail "look"
    revert s0 hm1 hb1
    generalize L2.upd (L2.upd (L2.upd H m (.dK [])) b (.dK [])) d (.frz od (.dK kvs)) = H1
    intro s0 hm1 hb1
    have d1 := s0 _ _ d0
    fail "gi"
    refine keys_in (od := od) (j := 4) hk d1 (fun pre σ' H' => ∃ (y : Option V) (mk bk : List (Key × V)) (af : Wd → Addr), σ' = [some (.ref p), some (.ref d), some (.ref m), some (.ref b), y, none, none] ∧ Same H0 H' ∧ H' m = some (.dK mk) ∧ H' b = some (.dK bk) ∧ mk.map (·.1) = pre.map (fun a => (.inr (S a) : Key)) ∧ bk.map (·.1) = pre.map (fun a => (.inr (S a) : Key)) ∧
      (∀ r ∈ pre, valV mk (.inr (S r)) = some (.int 0)) ∧ (∀ r ∈ pre, valV bk (.inr (S r)) = some (.ref (af r)) ∧ H' (af r) = some (.lst []) ∧ H0 (af r) = none) ∧ ∀ r ∈ pre, ∀ s ∈ pre, af r = af s → r = s)
      ⟨_, [], [], fun _ => 0, rfl, s0, hm1, hb1, rfl, rfl, (fun _ h => by cases h), (fun _ h => by cases h), fun _ h => by cases h⟩ ?_ ?_ ?_
    · rintro pre σ' H' ⟨y, mk, bk, af, rfl, a1, _⟩
      exact a1 _ _ d0
    · rintro pre x post σ' H' ex ⟨y, mk, bk, af, rfl, a1, a2, a3, a4, a5, a6, a7, a8⟩
      have xp : x ∉ pre := fun z => by
        rw [ex] at ndR
        exact (List.nodup_append.mp ndR).2.2 x z x List.mem_cons_self rfl
      have pl : pre.length + 1 ≤ R.length := by rw [ex, List.length_append, List.length_cons]; omega
      have ml : mk.length < 100000 := by rw [keys_len2 a4]; omega
      have bl : bk.length < 100000 := by rw [keys_len2 a5]; omega
      have bm : b ≠ m := mb.symm
      fail "gi"
      rename_i a na
      have na0 : H' a = none := by
        rw [upd_ne (fun z => by rw [z, L2.upd_same] at na; cases na)] at na; exact na
      have am : a ≠ m := fun z => by rw [z, a2] at na0; cases na0
      have ab : a ≠ b := fun z => by rw [z, a3] at na0; cases na0
      fail "gi"
      refine ⟨_, putK mk (.inr (S x)) (.int 0), putK bk (.inr (S x)) (.ref a), fun r => if r = x then a else af r, rfl, ?_, ?_, L2.upd_same, put_new a4 xp _, put_new a5 xp _, fun r hr => ?_, fun r hr => ?_, fun r hr s hs e => ?_⟩
      · exact mutd ((mutd a1 m0).trans (new na)) b0
      · rw [upd_ne mb, upd_ne am.symm]; exact L2.upd_same
      · rw [valS_put]
        by_cases z : r = x
        · rw [if_pos z]
        · rw [if_neg z]
          rcases List.mem_append.mp hr with h | h
          · exact a6 r h
          · exact absurd (List.mem_singleton.mp h) z
      · rw [valS_put]
        dsimp only
        by_cases z : r = x
        · rw [if_pos z, if_pos z]
          exact ⟨rfl, by rw [upd_ne ab]; exact L2.upd_same, a1.free na0⟩
        · rw [if_neg z, if_neg z]
          rcases List.mem_append.mp hr with h | h
          · obtain ⟨h1, h2, h3⟩ := a7 r h
            refine ⟨h1, ?_, h3⟩
            rw [upd_ne (fun z => by rw [z, a3] at h2; cases h2), upd_ne (fun z => by rw [z, na0] at h2; cases h2), upd_ne (fun z => by rw [z, a2] at h2; cases h2)]
            exact h2
          · exact absurd (List.mem_singleton.mp h) z
      · dsimp only at e
        by_cases z : r = x
        · by_cases y : s = x
          · rw [z, y]
          · rw [if_pos z, if_neg y] at e
            rcases List.mem_append.mp hs with h | h
            · have h2 := (a7 s h).2.1
              rw [← e, na0] at h2; cases h2
            · exact absurd (List.mem_singleton.mp h) y
        · rw [if_neg z] at e
          rcases List.mem_append.mp hr with h | h
          · by_cases y : s = x
            · rw [if_pos y] at e
              have h2 := (a7 r h).2.1
              rw [e, na0] at h2; cases h2
            · rw [if_neg y] at e
              rcases List.mem_append.mp hs with h' | h'
              · exact a8 r h s h' e
              · exact absurd (List.mem_singleton.mp h') y
          · exact absurd (List.mem_singleton.mp h) z
    · rintro σ' H' ⟨y, mk, bk, af, rfl, a1, a2, a3, a4, a5, a6, a7, a8⟩
      have dd := a1 _ _ d0
      refine ⟨dd, ?_⟩
      have s4 := back _ a1
      have hm4 : L2.upd H' d (.dK kvs) m = some (.dK mk) := by rw [upd_ne (ne_free nm hd)]; exact a2
      have hb4 : L2.upd H' d (.dK kvs) b = some (.dK bk) := by rw [upd_ne (ne_free nb0 hd)]; exact a3
      have ha4 : ∀ r ∈ R, L2.upd H' d (.dK kvs) (af r) = some (.lst []) ∧ H (af r) = none := fun r hr => by
        obtain ⟨_, h2, h3⟩ := a7 r hr
        refine ⟨by rw [upd_ne (fun z => by rw [z, dd] at h2; cases h2)]; exact h2, ?_⟩
        cases e : H (af r) with
        | none => rfl
        | some o =>
          have := k1 (af r) o (fun z => by rw [z, dd] at h2; cases h2) e
          rw [h3] at this; cases this
      have hd4 : L2.upd H' d (.dK kvs) d = some (.dK kvs) := L2.upd_same
      generalize L2.upd H' d (.dK kvs) = H4 at *
      clear s0 hm1 hb1 d1 m0 b0 back k1 k2 d0 dd a1 a2 a3
      fail "gi"
      refine ⟨d, .dK kvs, hd4, trivial, fun od => ?_⟩
      obtain ⟨H0, s0, k1, k2, d0, back⟩ := lock_base (.frz od (.dK kvs)) hd s4
      have m0 := k2 _ nm
      have b0 := k2 _ nb0
      have p0 := k1 _ _ pd hp
      have hm1 : L2.upd H4 d (.frz od (.dK kvs)) m = some (.dK mk) := by rw [upd_ne (ne_free nm hd)]; exact hm4
      have hb1 : L2.upd H4 d (.frz od (.dK kvs)) b = some (.dK bk) := by rw [upd_ne (ne_free nb0 hd)]; exact hb4
      have ha1 : ∀ r ∈ R, L2.upd H4 d (.frz od (.dK kvs)) (af r) = some (.lst []) := fun r hr => by
        rw [upd_ne (ne_free (ha4 r hr).2 hd)]; exact (ha4 r hr).1
      revert s0 hm1 hb1 ha1
      generalize L2.upd H4 d (.frz od (.dK kvs)) = H1
      intro s0 hm1 hb1 ha1
      have d1 := s0 _ _ d0
      fail "gi"
      refine keys_in (od := od) (j := 4) hk d1 (fun pre σ' H' => ∃ (y5 y6 y : Option V) (mk : List (Key × V)) (PW : List (Wd × Wd)), σ' = [some (.ref p), some (.ref d), some (.ref m), some (.ref b), y, y5, y6] ∧ Same H0 H' ∧ H' m = some (.dK mk) ∧ H' b = some (.dK bk) ∧ mk.map (·.1) = R.map (fun a => (.inr (S a) : Key)) ∧
        (∀ r ∈ R, valV mk (.inr (S r)) = some (.int (out PW [] r : Nat))) ∧ (∀ r ∈ R, H' (af r) = some (.lst ((into PW r).map sv))) ∧ PW.length ≤ 12 * pre.length ∧ (∀ q ∈ PW, q.1 ∈ R ∧ q.2 ∈ ws) ∧ ∀ r ∈ pre, ∀ w ∈ ws, (r, w) ∈ PW)
        ⟨_, _, _, mk, [], rfl, s0, hm1, hb1, a4, a6, ha1, Nat.le_refl _, (fun _ h => by cases h), fun _ h => by cases h⟩ ?_ ?_ ?_
      · rintro pre σ' H' ⟨y5, y6, y, mk, PW, rfl, c1, _⟩
        exact c1 _ _ d0
      · rintro pre x post σ' H' ex ⟨y5, y6, y, mk, PW, rfl, c1, c2, c3, c4, c5, c6, c7, c8, c9⟩
        have xR : x ∈ R := by rw [ex]; exact List.mem_append_right _ List.mem_cons_self
        have pl : pre.length + 1 ≤ R.length := by rw [ex, List.length_append, List.length_cons]; omega
        have hp1 := c1 _ _ p0
        have x10 := r10 x xR
        have wle := c.le
        fail "gi"
        refine for_wl (xs := ws) (j := 5) (fun pre1 σ' H' => ∃ (y5 y6 : Option V) (mk : List (Key × V)) (PW : List (Wd × Wd)), σ' = [some (.ref p), some (.ref d), some (.ref m), some (.ref b), some (sv x), y5, y6] ∧ Same H0 H' ∧ H' m = some (.dK mk) ∧ H' b = some (.dK bk) ∧ mk.map (·.1) = R.map (fun a => (.inr (S a) : Key)) ∧
          (∀ r ∈ R, valV mk (.inr (S r)) = some (.int (out PW [] r : Nat))) ∧ (∀ r ∈ R, H' (af r) = some (.lst ((into PW r).map sv))) ∧ PW.length ≤ 12 * pre.length + pre1.length ∧ (∀ q ∈ PW, q.1 ∈ R ∧ q.2 ∈ ws) ∧ (∀ r ∈ pre, ∀ w ∈ ws, (r, w) ∈ PW) ∧ ∀ w ∈ pre1, (x, w) ∈ PW)
          ⟨_, _, mk, PW, rfl, c1, c2, c3, c4, c5, c6, c7, c8, c9, fun _ h => by cases h⟩ ?_ ?_ ?_
        · rintro pre1 σ' H' ⟨y5, y6, mk, PW, rfl, c1, _⟩
          exact SqL.of (c1 _ _ p0)
        · rintro pre1 w' post1 σ' H' ex1 ⟨y5, y6, mk, PW, rfl, c1, c2, c3, c4, c5, c6, c7, c8, c9, c10⟩
          have hw : w' ∈ ws := by rw [ex1]; exact List.mem_append_right _ List.mem_cons_self
          have wl := c.len hw
          have lp1 : pre1.length + 1 ≤ ws.length := by rw [ex1, List.length_append, List.length_cons]; omega
          have ml : mk.length < 100000 := by rw [keys_len2 c4]; omega
          have lv := c5 x xR
          have q8 : ∀ q ∈ PW ++ [(x, w')], q.1 ∈ R ∧ q.2 ∈ ws := fun q hq => by
            rcases List.mem_append.mp hq with h | h
            · exact c8 q h
            · rw [List.mem_singleton.mp h]; exact ⟨xR, hw⟩
          have q9 : ∀ r ∈ pre, ∀ w ∈ ws, (r, w) ∈ PW ++ [(x, w')] := fun r hr w hw => List.mem_append_left _ (c9 r hr w hw)
          have q10 : ∀ w ∈ pre1 ++ [w'], (x, w) ∈ PW ++ [(x, w')] := fun w hw => by
            rcases List.mem_append.mp hw with h | h
            · exact List.mem_append_left _ (c10 w h)
            · rw [List.mem_singleton.mp h]; exact List.mem_append_right _ List.mem_cons_self
          have q7 : (PW ++ [(x, w')]).length ≤ 12 * pre.length + (pre1 ++ [w']).length := by rw [List.length_append, List.length_append, List.length_singleton, List.length_singleton]; omega
          fail "gi"
          refine ⟨fun e => ?_, fun s k e => ?_⟩
          · have tn : tgt x w' = none := by unfold tgt; rw [e]; rfl
            fail "gi"
            rename_i H5 s5
            refine ⟨_, _, mk, PW ++ [(x, w')], rfl, c1.trans s5, s5 _ _ c2, s5 _ _ c3, c4, fun r hr => ?_, fun r hr => ?_, q7, q8, q9, q10⟩
            · rw [out_nil, if_neg (by rw [tn]; exact fun z => by cases z.2), Nat.add_zero]
              exact c5 r hr
            · rw [into_snoc, if_neg (by rw [tn]; exact fun z => by cases z), List.append_nil]
              exact s5 _ _ (c6 r hr)
          · have ts : tgt x w' = some s := by unfold tgt; rw [e]; rfl
            have sR := cl x xR w' hw s ts
            have ls := (a7 s sR).1
            have as := c6 s sR
            have il : ((into PW s).map sv).length < 16000000 := by
              have : (into PW s).length ≤ PW.length := by
                unfold into
                rw [List.length_map]
                exact List.length_filter_le _ _
              rw [List.length_map]; omega
            have bm : b ≠ m := mb.symm
            have am : af s ≠ m := fun z => by rw [z, c2] at as; cases as
            fail "gi"
            rename_i p6 H5 s5 n6 h6
            have pm : p6 ≠ m := ne_free n6 c2
            fail "gi"
            have asm : af s ≠ m := am
            have fin : ∀ r ∈ R, L2.upd (L2.upd H5 m (.dK (putK mk (.inr (S x)) (.int ((out PW [] x : Nat) + 1))))) (af s) (.lst ((into PW s).map sv ++ [sv x])) (af r) = some (.lst ((into (PW ++ [(x, w')]) r).map sv)) := fun r hr => by
              rw [into_snoc]
              by_cases z : r = s
              · rw [z, L2.upd_same, if_pos ts, List.map_append]; rfl
              · rw [if_neg (by rw [ts]; exact fun y => z (Option.some.inj y).symm), List.append_nil, upd_ne (fun y => z (a8 r hr s sR y)), upd_ne (fun z => by have := c6 r hr; rw [z, c2] at this; cases this)]
                exact s5 _ _ (c6 r hr)
            have bas : b ≠ af s := fun z => by rw [← z, c3] at as; cases as
            refine ⟨_, _, putK mk (.inr (S x)) (.int ((out PW [] x : Nat) + 1)), PW ++ [(x, w')], rfl, ?_, ?_, ?_, put_old c4 xR _, fun r hr => ?_, fin, q7, q8, q9, q10⟩
            · exact mutd (mutd (c1.trans s5) m0) (k2 _ (ha4 s sR).2)
            · rw [upd_ne am.symm]; exact L2.upd_same
            · rw [upd_ne bas, upd_ne bm]; exact s5 _ _ c3
            · rw [valS_put, out_nil]
              by_cases z : r = x
              · rw [if_pos z, z, if_pos ⟨rfl, by rw [ts]; rfl⟩]; rfl
              · rw [if_neg z, if_neg (fun y => z y.1.symm)]
                exact c5 r hr
        · rintro σ' H' ⟨y5, y6, mk, PW, rfl, c1, c2, c3, c4, c5, c6, c7, c8, c9, c10⟩
          fail "gi"
          refine ⟨_, _, _, mk, PW, rfl, c1, c2, c3, c4, c5, c6, by rw [List.length_append, List.length_singleton]; omega, c8, fun r hr w hw => ?_⟩
          rcases List.mem_append.mp hr with h | h
          · exact c9 r h w hw
          · rw [List.mem_singleton.mp h]; exact c10 w hw
      · rintro σ' H' ⟨y5, y6, y, mk, PW, rfl, c1, c2, c3, c4, c5, c6, c7, c8, c9⟩
        have dd := c1 _ _ d0
        refine ⟨dd, ?_⟩
        have s5 := back _ c1
        fail "gi"
        rename_i t nt
        refine q PW af mk bk m b t _ (s5.trans (new nt)) nm nb0 (s5.free nt) L2.upd_same ?_ ?_ c4 c5 (fun r hr => ⟨(a7 r hr).1, ?_⟩) c8 c9 (by omega)
        · exact new nt _ _ (by rw [upd_ne (ne_free nm hd)]; exact c2)
        · exact new nt _ _ (by rw [upd_ne (ne_free nb0 hd)]; exact c3)
        · exact new nt _ _ (by rw [upd_ne (ne_free (ha4 r hr).2 hd)]; exact c6 r hr)

abbrev s_heights_of : Stmt := top 32
theorem sc_heights_of : FnScope ["words", "rests", "many", "behind", "waiting", "found", "at", "rest", "other", "word"] ["words", "rests"] (defScope s_heights_of) := ⟨rfl, rfl, rfl, by decide +kernel, rfl, by decide +kernel, by decide +kernel⟩
def sp_heights_of : Sp := fun vs H Q _ => ∃ p d : Addr, vs = [.ref p, .ref d] ∧ ∃ (ws R : List Wd) (kvs : List (Key × V)), H p = some (.lst (ws.map sv)) ∧ H d = some (.dK kvs) ∧ kvs.map (·.1) = R.map (fun a => (.inr (S a) : Key)) ∧ R.Nodup ∧ R.length ≤ 132 ∧ Code ws ∧ (∀ r ∈ R, r.length ≤ 10) ∧ (∀ r ∈ R, ∀ w ∈ ws, ∀ s, tgt r w = some s → s ∈ R) ∧
  ∀ (P : List Wd) (h : Wd → Nat) (fk : List (Key × V)) (f : Addr) (H' : Hp), Same H H' → H f = none → H' f = some (.dK fk) → fk.map (·.1) = P.map (fun a => (.inr (S a) : Key)) → (∀ r ∈ P, valV fk (.inr (S r)) = some (.int (h r : Nat))) → Hts ws R P h → Q (.ref f) H'
theorem ok_heights_of (B : Bi mg) (D : Def K mg "heights_of" s_heights_of) (c_webs_of : Cal P w K mg base CX0 "webs_of" 3 ["words", "rests"] sp_webs_of) (c_worth : Cal P w K mg base CX0 "worth" 3 ["rest", "word", "found"] sp_worth) : Cal P w K mg base CX0 "heights_of" 4 ["words", "rests"] sp_heights_of := by
  have nd := sc_heights_of.nd
  refine D.cal sc_heights_of (fun _ _ _ _ _ _ us hl => match us, hl with | [_, _], _ => rfl) (fun vs H Q E h => ?_) (fun f cdv A outer s H vs Q E hr h => ?_)
  · obtain ⟨_, _, rfl, _⟩ := h
    rfl
  · obtain ⟨p, d, rfl, ws, R, kvs, hp, hd, hk, ndR, rl, c, r10, cl, q⟩ := h
    refine ⟨_, PSs.nox (pss_cons (ps_asg (pe_cal c_webs_of hr (pa_cons (pv 0) (pa_cons (pv 1) pa_nil))) (pg_tup (n := 2) rfl (pgs_cons (pg_name (i := 2) nd rfl (.inr rfl)) (pgs_cons (pg_name (i := 3) nd rfl (.inl rfl)) pgs_nil))))
      (pss_cons (ps_lock (ps_setLc (i := 4) (own := [("rest", 7)]) (g := gName 7) rfl nd rfl rfl (sw_true rfl rfl rfl (by decide +kernel)) (pi_keys (pv 1)) (blkOk_by (own := [("rest", 7)]) (N := ["words", "rests", "many", "behind", "waiting", "found", "at", "rest", "other", "word"]) (sc := defScope s_heights_of) (by decide +kernel)) (fun _ _ _ _ _ => (pg_name (i := 7) nd rfl (.inl rfl))) (fun _ _ _ _ _ => (pts_one (pt_cmpR op_eqn (pe_dgetN (hu_of hr) (pv 2) (pv 7) (fun _ _ => rfl)) pe_int (nomark _)))) (fun _ _ _ _ _ => (pv 7))))
      (pss_cons (ps_set (i := 5) nd rfl (.inr rfl) pe_dnewK)
      (pss_cons (ps_set (i := 6) nd rfl (.inl rfl) pe_int)
      (pss_cons (ps_while PassesOwn.never (pt_cmpR op_lt (pv 6) (pe_callB (r := rLenL K) call_lenl (by rfl) B.len PySem.boot_len (pa_cons (pv 4) pa_nil)) (nomark _))
        (pss_cons (ps_set (i := 7) nd rfl (.inr rfl) (pe_ix (r := rIxLn K) ix_l (pv 4) (pv 6) (fun _ _ => rfl)))
        (pss_cons (ps_dputN (hu_of hr) (pv 5) (pv 7) (pe_maxD rfl hr.units (by rfl) B.max (pa_cons (pe_lc (own := [("word", 9)]) (g := gName 9) (tt := tYes) rfl nd (pi_list (pv 0)) (blkOk_by (own := [("word", 9)]) (N := ["words", "rests", "many", "behind", "waiting", "found", "at", "rest", "other", "word"]) (sc := defScope s_heights_of) (by decide +kernel)) (fun _ _ _ _ _ => (pg_name (i := 9) nd rfl (.inl rfl))) (fun _ _ _ _ _ => pts_nil) (fun _ _ _ _ _ => (pe_cal c_worth hr (pa_cons (pv 7) (pa_cons (pv 9) (pa_cons (pv 5) pa_nil)))))) pa_nil)) rfl)
        (pss_cons (ps_for PassesOwn.never rfl (pi_list (pe_dgetN (hu_of hr) (pv 3) (pv 7) (fun _ _ => rfl))) (pg_name (i := 8) nd rfl (.inl rfl))
          (pss_cons (ps_dputN (hu_of hr) (pv 2) (pv 8) (pe_op op_sub (pe_dgetN (hu_of hr) (pv 2) (pv 8) (fun _ _ => rfl)) pe_int) rfl)
          (pss_one (ps_if (pt_cmpR op_eqn (pe_dgetN (hu_of hr) (pv 2) (pv 8) (fun _ _ => rfl)) pe_int (nomark _))
            (pss_one (ps_expr (pe_bm PySem.F.plainAttrs_list PySem.F.slot_list_append PySem.F.type_list_append mt_app (pv 4) (pa_cons (pv 8) pa_nil))))
            pss_nil))))
        (pss_one (ps_set (i := 6) nd rfl (.inl rfl) (pe_op op_add (pv 6) pe_int)))))))
      (pss_one (ps_ret (pv 5)))))))), ?_⟩
    try dsimp only [cxOf, Cx.nox, Cx.wish]
    have pd : p ≠ d := fun z => by rw [z, hd] at hp; cases hp
    fail "gi"
    refine ⟨ws, R, kvs, hp, hd, hk, ndR, rl, c, r10, cl, fun PW af mk bk m b t H1 s1 nm nb nt ht hm hb hmk hv ha hq hall hpl => ?_⟩
    have hp1 := s1 _ _ hp
    have hd1 := s1 _ _ hd
    fail "gi"
    refine ⟨d, .dK kvs, hd1, trivial, fun od => ?_⟩
    have md : m ≠ d := ne_free nm hd
    have hmL : L2.upd H1 d (.frz od (.dK kvs)) m = some (.dK mk) := by rw [upd_ne md]; exact hm
    have hdL : L2.upd H1 d (.frz od (.dK kvs)) d = some (.frz od (.dK kvs)) := L2.upd_same
    have back : ∀ H'', Same (L2.upd H1 d (.frz od (.dK kvs))) H'' → Same H1 (L2.upd H'' d (.dK kvs)) := fun H'' => unlock hd1
    have nfree : ∀ a, L2.upd H1 d (.frz od (.dK kvs)) a = none → H1 a = none := fun a e => by
      by_cases z : a = d
      · rw [z, L2.upd_same] at e; cases e
      · rw [upd_ne z] at e; exact e
    revert hmL hdL back nfree
    generalize L2.upd H1 d (.frz od (.dK kvs)) = HL
    intro hmL hdL back nfree
    fail "gi"
    refine keys_lc (j := 7) hk hdL (by omega) (fun r => decide (((out PW [] r : Nat) : Int) = 0)) _ (fun x hx H3 e3 Q3 q3 => ?_) (fun x hx hc H3 e3 Q3 q3 => ?_) (fun D H3 nD s3 hD => ?_)
    · have lv := hv x hx
      have hm3 := e3 _ _ hmL
      fail "gi"
      exact q3 _ (Same.refl _)
    · fail "gi"
      exact q3 _ (Same.refl _)
    · have hd3 := s3 _ _ hdL
      have s4 := back _ s3
      have nD1 := nfree _ nD
      have dD : D ≠ d := ne_free nD1 hd1
      have hD4 : L2.upd H3 d (.dK kvs) D = some (.lst ((R.filter fun r => decide (((out PW [] r : Nat) : Int) = 0)).map sv)) := by rw [upd_ne dD]; exact hD
      refine (show _ ∧ _ from ⟨hd3, ?_⟩)
      generalize L2.upd H3 d (.dK kvs) = H4 at *
      have nDH : H D = none := s1.free nD1
      have hm4 := s4 _ _ hm
      have hb4 := s4 _ _ hb
      have hp4 := s4 _ _ hp1
      have ha4 : ∀ r ∈ R, valV bk (.inr (S r)) = some (.ref (af r)) ∧ H4 (af r) = some (.lst ((into PW r).map sv)) := fun r hr => ⟨(ha r hr).1, s4 _ _ (ha r hr).2⟩
      have sH4 := s1.trans s4
      clear hmL hdL back nfree s3 hD hd3 s4 nD
      fail "gi"
      rename_i f nf
      have nfH : H f = none := sH4.free nf
      have Df : D ≠ f := ne_of_none hD4 nf
      have Dm : D ≠ m := fun z => by rw [z, hm4] at hD4; cases hD4
      have fm : f ≠ m := fun z => by rw [z, hm4] at nf; cases nf
      refine ⟨fun n σ' H' => ∃ (k : Nat) (W : List Wd) (h : Wd → Nat) (fk mk : List (Key × V)) (y7 y8 y9 : Option V), σ' = [some (.ref p), some (.ref d), some (.ref m), some (.ref b), some (.ref D), some (.ref f), some (.int k), y7, y8, y9] ∧ n = 200 - k ∧ k ≤ W.length ∧ Same H H' ∧ H' D = some (.lst (W.map sv)) ∧ H' m = some (.dK mk) ∧ H' b = some (.dK bk) ∧ H' f = some (.dK fk) ∧ H' p = some (.lst (ws.map sv)) ∧
        mk.map (·.1) = R.map (fun a => (.inr (S a) : Key)) ∧ fk.map (·.1) = (W.take k).map (fun a => (.inr (S a) : Key)) ∧ W.Nodup ∧ (∀ r ∈ W, r ∈ R) ∧ (∀ r ∈ R, valV mk (.inr (S r)) = some (.int (out PW (W.take k) r : Nat))) ∧ (∀ r ∈ R, r ∈ W ↔ out PW (W.take k) r = 0) ∧ (∀ r ∈ R, H' (af r) = some (.lst ((into PW r).map sv))) ∧
        (∀ r ∈ W.take k, valV fk (.inr (S r)) = some (.int (h r : Nat))) ∧ (∀ r ∈ W.take k, h r = hval ws h r ∧ Hgt ws r ∧ ∀ w ∈ ws, ∀ s, tgt r w = some s → s ∈ W.take k),
        ⟨_, 0, R.filter fun r => decide (((out PW [] r : Nat) : Int) = 0), fun _ => 0, [], mk, _, _, _, rfl, rfl, Nat.zero_le _, ?_, ?_, ?_, ?_, L2.upd_same, ?_, hmk, rfl, ndR.filter _, fun r hr => (List.mem_filter.mp hr).1, hv, fun r hr => ?_, fun r hr => ?_, (fun _ h => by cases h), fun _ h => by cases h⟩, ?_⟩
      · fail "same"
      · fail "look"
      · fail "look"
      · fail "look"
      · fail "look"
      · rw [List.mem_filter]
        show _ ∧ _ ↔ out PW [] r = 0
        rw [decide_eq_true_iff]
        exact ⟨fun z => by omega, fun z => ⟨hr, by omega⟩⟩
      · exact new nf _ _ (ha4 r hr).2
      · rintro n σ' H' ⟨k, W, h, fk, mk, y7, y8, y9, rfl, rfl, kW, b1, bD, bm, bb, bf, bp, kmk, kfk, ndW, WR, vmk, iffW, bA, vfk, hfk⟩
        have Wl : W.length ≤ 132 := by have := nd_len ndW WR; omega
        fail "gi"
        dsimp only
        refine itd (fun e => ?_) fun e => ?_
        · have hk1 : k < W.length := by rw [List.length_map] at e; omega
          obtain ⟨r, hr⟩ : ∃ r, W[k]? = some r := ⟨_, List.getElem?_eq_getElem hk1⟩
          have hrW : r ∈ W := List.mem_of_getElem? hr
          have rR := WR r hrW
          have tk : W.take (k + 1) = W.take k ++ [r] := by rw [List.take_add_one, hr]; rfl
          have rk : r ∉ W.take k := fun z => by
            have : (W.take (k + 1)).Nodup := ndW.sublist (List.take_sublist _ _)
            rw [tk] at this
            exact (List.nodup_append.mp this).2.2 r z r List.mem_cons_self rfl
          have all0 := out_zero.mp ((iffW r rR).mp hrW)
          have tin : ∀ w ∈ ws, ∀ s, tgt r w = some s → s ∈ W.take k := fun w hw s ts => all0 (r, w) (hall r rR w hw) rfl s ts
          have lk : (W.map sv)[k]? = some (sv r) := by rw [List.getElem?_map, hr]; rfl
          have r1 := r10 r rR
          have fl : fk.length < 100000 := by rw [keys_len2 kfk, List.length_take]; omega
          have wle := c.le
          refine ⟨fun σ' H' => ∃ (W : List Wd) (h : Wd → Nat) (fk mk : List (Key × V)) (y7 y8 y9 : Option V), σ' = [some (.ref p), some (.ref d), some (.ref m), some (.ref b), some (.ref D), some (.ref f), some (.int (k + 1)), y7, y8, y9] ∧ k + 1 ≤ W.length ∧ Same H H' ∧ H' D = some (.lst (W.map sv)) ∧ H' m = some (.dK mk) ∧ H' b = some (.dK bk) ∧ H' f = some (.dK fk) ∧ H' p = some (.lst (ws.map sv)) ∧
            mk.map (·.1) = R.map (fun a => (.inr (S a) : Key)) ∧ fk.map (·.1) = (W.take (k + 1)).map (fun a => (.inr (S a) : Key)) ∧ W.Nodup ∧ (∀ r ∈ W, r ∈ R) ∧ (∀ r ∈ R, valV mk (.inr (S r)) = some (.int (out PW (W.take (k + 1)) r : Nat))) ∧ (∀ r ∈ R, r ∈ W ↔ out PW (W.take (k + 1)) r = 0) ∧ (∀ r ∈ R, H' (af r) = some (.lst ((into PW r).map sv))) ∧
            (∀ r ∈ W.take (k + 1), valV fk (.inr (S r)) = some (.int (h r : Nat))) ∧ (∀ r ∈ W.take (k + 1), h r = hval ws h r ∧ Hgt ws r ∧ ∀ w ∈ ws, ∀ s, tgt r w = some s → s ∈ W.take (k + 1)), ?_, ?_⟩
          · rintro σ' H' ⟨W, h, fk, mk, y7, y8, y9, rfl, c1, c2⟩
            refine ⟨_, ?_, k + 1, W, h, fk, mk, y7, y8, y9, rfl, rfl, c1, c2⟩
            omega
          · fail "gi"
            refine ⟨_, lk, ?_⟩
            fail "gi"
            rename_i D2 nD2
            refine lc_w (xs := ws) (j := 9) (fun _ => true) (fun w => .int (wval h r w : Nat)) nD2 (by fail "seq") (by omega) (fun x hx => evYes) (fun x hx hc H3 e3 Q3 q3 => ?_) (fun H3 e3 h3 => ?_)
            · have x10 := c.len hx
              have bf3 := e3 _ _ bf
              fail "gi"
              refine ⟨fk, h, .inl bf3, fun s ts => vfk s (tin x hx s ts), ?_⟩
              exact fun H4 s4 => q3 _ s4
            · have f1 : ws.filter (fun _ => true) = ws := List.filter_eq_self.mpr fun _ _ => rfl
              rw [f1] at h3
              have h3' : H3 D2 = some (.lst ((ws.map (wval h r)).map fun n => V.int (n : Nat))) := by rw [h3, List.map_map]; rfl
              have b13 := b1.trans e3
              have bD3 := e3 _ _ bD
              have bm3 := e3 _ _ bm
              have bb3 := e3 _ _ bb
              have bf3 := e3 _ _ bf
              have bp3 := e3 _ _ bp
              have bA3 : ∀ r ∈ R, H3 (af r) = some (.lst ((into PW r).map sv)) := fun r hr => e3 _ _ (bA r hr)
              have lb := (ha r rR).1
              clear e3
              have bnf : b ≠ f := (ne_free nf hb4).symm
              have mnf : m ≠ f := fm.symm
              have pnf : p ≠ f := (ne_free nf hp4).symm
              have anf : ∀ r ∈ R, af r ≠ f := fun r hr => (ne_free nf (ha4 r hr).2).symm
              have anm : ∀ r ∈ R, af r ≠ m := fun r hr z => by have := bA3 r hr; rw [z, bm3] at this; cases this
              have anD : ∀ r ∈ R, af r ≠ D := fun r hr z => by have := (ha4 r hr).2; rw [z] at this; have k2 := (ha r hr).2; rw [z, nD1] at k2; cases k2
              have hA4 : L2.upd H3 f (.dK (putK fk (.inr (S r)) (.int (most (ws.map (wval h r)) : Nat)))) (af r) = some (.lst ((into PW r).map sv)) := by rw [upd_ne (anf r rR)]; exact bA3 r rR
              fail "gi"
              refine for_wl (xs := into PW r) (j := 8) (fun preB σ' H' => ∃ (W' postB : List Wd) (ext : List Wd) (mk : List (Key × V)) (y8 : Option V), σ' = [some (.ref p), some (.ref d), some (.ref m), some (.ref b), some (.ref D), some (.ref f), some (.int k), some (sv r), y8, y9] ∧ into PW r = preB ++ postB ∧ W' = W ++ ext ∧ Same H H' ∧ H' D = some (.lst (W'.map sv)) ∧ H' m = some (.dK mk) ∧ H' b = some (.dK bk) ∧ H' f = some (.dK (putK fk (.inr (S r)) (.int (most (ws.map (wval h r)) : Nat)))) ∧ H' p = some (.lst (ws.map sv)) ∧
                mk.map (·.1) = R.map (fun a => (.inr (S a) : Key)) ∧ W'.Nodup ∧ (∀ r ∈ W', r ∈ R) ∧ (∀ x ∈ R, valV mk (.inr (S x)) = some (.int (out PW (W.take k ++ [r]) x + postB.count x : Nat))) ∧ (∀ x ∈ R, x ∈ W' ↔ out PW (W.take k ++ [r]) x + postB.count x = 0) ∧ (∀ x ∈ R, H' (af x) = some (.lst ((into PW x).map sv))))
                ⟨W, into PW r, [], mk, y8, rfl, rfl, (List.append_nil W).symm, mutd b13 nfH, by fail "look", by fail "look", by fail "look", L2.upd_same, by fail "look", kmk, ndW, WR, fun x hx => ?_, fun x hx => ?_, fun x hx => ?_⟩ ?_ ?_ ?_
              · rw [vmk x hx, out_add rk x PW]
              · rw [iffW x hx, out_add rk x PW]
              · rw [upd_ne (anf x hx)]; exact bA3 x hx
              · rintro preB σ' H' ⟨W', postB, ext, mk, y8, rfl, c1, c2, c3, c4, c5, c6, c7, c8, c9, c10, c11, c12, c13, c14⟩
                exact SqL.of (c14 r rR)
              · rintro preB x postx σ' H' ex ⟨W', postB, ext, mk, y8, rfl, c1, c2, c3, c4, c5, c6, c7, c8, c9, c10, c11, c12, c13, c14⟩
                obtain rfl : postB = x :: postx := List.append_cancel_left (c1.symm.trans ex)
                have xR : x ∈ R := by
                  have : x ∈ into PW r := by rw [ex]; exact List.mem_append_right _ List.mem_cons_self
                  unfold into at this
                  obtain ⟨u, hu, rfl⟩ := List.mem_map.mp this
                  exact (hq u (List.mem_filter.mp hu).1).1
                have bm' : b ≠ m := fun z => by
                  rw [z, c5] at c6
                  have e1 : mk = bk := by injection c6 with c6; injection c6
                  have e2 := c12 x xR
                  rw [e1, (ha x xR).1] at e2
                  cases e2
                have lv := c12 x xR
                have bD' : b ≠ D := fun z => by rw [z, c4] at c6; cases c6
                have pD : p ≠ D := (ne_free nDH hp).symm
                have pm : p ≠ m := fun z => by rw [z, c5] at c8; cases c8
                have cc : (x :: postx).count x = postx.count x + 1 := List.count_cons_self
                have cn : ∀ y, y ≠ x → (x :: postx).count y = postx.count y := fun y hy => List.count_cons_of_ne (fun z => hy z.symm)
                have ml : mk.length < 100000 := by rw [keys_len2 c9]; omega
                have lv2 : valV (putK mk (.inr (S x)) (.int ((out PW (W.take k ++ [r]) x + (x :: postx).count x : Nat) - 1))) (.inr (S x)) = some (.int ((out PW (W.take k ++ [r]) x + (x :: postx).count x : Nat) - 1)) := by rw [valS_put, if_pos rfl]
                have el : into PW r = preB ++ [x] ++ postx := by rw [ex, List.append_assoc]; rfl
                have W'l : W'.length ≤ 132 := by have := nd_len c10 c11; omega
                have al : (W'.map sv).length < 16000000 := by rw [List.length_map]; omega
                have v12 : ∀ y ∈ R, valV (putK mk (.inr (S x)) (.int ((out PW (W.take k ++ [r]) x + (x :: postx).count x : Nat) - 1))) (.inr (S y)) = some (.int (out PW (W.take k ++ [r]) y + postx.count y : Nat)) := fun y hy => by
                  rw [valS_put]
                  by_cases z : y = x
                  · rw [if_pos z, z, cc]
                    exact congrArg (fun i => some (V.int i)) (by omega)
                  · rw [if_neg z, ← cn y z]
                    exact c12 y hy
                fail "gi"
                refine itd (fun e0 => ?_) fun e0 => ?_
                · have xW : x ∉ W' := fun z => by
                    have := (c13 x xR).mp z
                    omega
                  fail "gi"
                  refine ⟨W' ++ [x], postx, ext ++ [x], _, _, rfl, el, by rw [c2, List.append_assoc], ?_, by rw [L2.upd_same, List.map_append]; rfl, ?_, ?_, ?_, ?_, put_old c9 xR _, List.nodup_append.mpr ⟨c10, by simp, fun u hu v hv => by rw [List.mem_singleton.mp hv]; exact fun z => xW (z ▸ hu)⟩, fun u hu => ?_, v12, fun y hy => ?_, fun y hy => ?_⟩
                  · exact mutd (mutd c3 nm) nDH
                  · rw [upd_ne Dm.symm]; exact L2.upd_same
                  · rw [upd_ne bD', upd_ne bm']; exact c6
                  · rw [upd_ne Df.symm, upd_ne fm]; exact c7
                  · rw [upd_ne pD, upd_ne pm]; exact c8
                  · rcases List.mem_append.mp hu with h | h
                    · exact c11 u h
                    · rw [List.mem_singleton.mp h]; exact xR
                  · rw [List.mem_append, List.mem_singleton]
                    by_cases z : y = x
                    · rw [z]
                      exact ⟨fun _ => by omega, fun _ => .inr rfl⟩
                    · rw [c13 y hy, cn y z]
                      exact ⟨fun h => h.elim id fun h => absurd h z, .inl⟩
                  · rw [upd_ne (anD y hy), upd_ne (anm y hy)]; exact c14 y hy
                · fail "gi"
                  refine ⟨W', postx, ext, _, _, rfl, el, c2, mutd c3 nm, by rw [upd_ne Dm]; exact c4, L2.upd_same, by rw [upd_ne bm']; exact c6, by rw [upd_ne fm]; exact c7, by rw [upd_ne pm]; exact c8, put_old c9 xR _, c10, c11, v12, fun y hy => ?_, fun y hy => by rw [upd_ne (anm y hy)]; exact c14 y hy⟩
                  by_cases z : y = x
                  · rw [c13 y hy, z]
                    omega
                  · rw [c13 y hy, cn y z]
              · rintro σ' H' ⟨W', postB, ext, mk, y8, rfl, c1, c2, c3, c4, c5, c6, c7, c8, c9, c10, c11, c12, c13, c14⟩
                obtain rfl : postB = [] := List.append_cancel_left (c1.symm.trans (List.append_nil _).symm)
                have W't : W'.take (k + 1) = W.take k ++ [r] := by rw [c2, List.take_append_of_le_length hk1, tk]
                have hne : ∀ x ∈ W.take k, x ≠ r := fun x hx z => rk (z ▸ hx)
                fail "gi"
                refine ⟨W', fun x => if x = r then most (ws.map (wval h r)) else h x, _, mk, _, _, _, rfl, by rw [c2, List.length_append]; omega, c3, c4, c5, c6, c7, c8, c9, ?_, c10, c11, ?_, ?_, c14, ?_, ?_⟩
                · rw [W't]; exact put_new kfk rk _
                · rw [W't]; exact c12
                · rw [W't]; exact c13
                · rw [W't]
                  intro x hx
                  rw [valS_put]
                  dsimp only
                  by_cases z : x = r
                  · rw [if_pos z, if_pos z]
                  · rw [if_neg z, if_neg z]
                    rcases List.mem_append.mp hx with h | h
                    · exact vfk x h
                    · exact absurd (List.mem_singleton.mp h) z
                · rw [W't]
                  intro x hx
                  have same : ∀ y, (∀ w ∈ ws, ∀ s, tgt y w = some s → s ∈ W.take k) → hval ws (fun x => if x = r then most (ws.map (wval h r)) else h x) y = hval ws h y := fun y hy => hval_congr fun w hw s ts => if_neg (hne s (hy w hw s ts))
                  by_cases z : x = r
                  · rw [z]
                    refine ⟨?_, .mk fun w hw s ts => (hfk s (tin w hw s ts)).2.1, fun w hw s ts => List.mem_append_left _ (tin w hw s ts)⟩
                    rw [same r tin]
                    exact if_pos rfl
                  · have hx' : x ∈ W.take k := by
                      rcases List.mem_append.mp hx with h | h
                      · exact h
                      · exact absurd (List.mem_singleton.mp h) z
                    obtain ⟨g1, g2, g3⟩ := hfk x hx'
                    refine ⟨?_, g2, fun w hw s ts => List.mem_append_left _ (g3 w hw s ts)⟩
                    rw [same x g3]
                    exact (if_neg z).trans g1
        · have ke : k = W.length := by rw [List.length_map] at e; omega
          have tkW : W.take k = W := by rw [ke, List.take_length]
          rw [tkW] at kfk iffW vfk hfk
          fail "gi"
          refine q W h fk f _ b1 nfH bf kfk vfk ⟨ndW, fun r => ⟨fun z => ⟨WR r z, (hfk r z).2.1⟩, fun z => ?_⟩, fun r z => (hfk r z).1⟩
          obtain ⟨zR, zH⟩ := z
          induction zH with
          | @mk r hs ih =>
            exact (iffW r zR).mpr (out_zero.mpr fun p hp e s ts => by
              rw [e] at ts
              exact ih p.2 (hq p hp).2 s ts (cl r zR p.2 (hq p hp).2 s ts))

theorem most_perm {a b : List Nat} (h : a.Perm b) : most a = most b := by
  induction h with
  | nil => rfl
  | cons x _ ih => show max x _ = max x _; rw [ih]
  | swap x y l => show max y (max x (most l)) = max x (max y (most l)); omega
  | trans _ _ a b => exact a.trans b
theorem Hgt.perm {ws zs : List Wd} (h : ∀ w ∈ zs, w ∈ ws) {r : Wd} (g : Hgt ws r) : Hgt zs r := by
  induction g with
  | mk _ ih => exact .mk fun w hw s ts => ih w (h w hw) s ts
theorem Hts.perm {ws zs R P : List Wd} {h : Wd → Nat} (p : ws.Perm zs) (a : Hts ws R P h) : Hts zs R P h where
  nd := a.nd
  iff := fun r => (a.iff r).trans ⟨fun ⟨x, y⟩ => ⟨x, y.perm fun _ => p.mem_iff.mpr⟩, fun ⟨x, y⟩ => ⟨x, y.perm fun _ => p.mem_iff.mp⟩⟩
  val := fun r hr => (a.val r hr).trans (most_perm (p.map _))
theorem Lst.tgt {ws : List Wd} {E : Tb} (f : Lst ws E) : ∀ r ∈ keysT E, ∀ w ∈ ws, ∀ s, One.tgt r w = some s → s ∈ keysT E := fun r hr w hw s ts => by
  obtain ⟨p, hp⟩ := Option.isSome_iff_exists.mp (key_look.mp hr)
  unfold One.tgt at ts
  cases e : step r w with
  | none => rw [e] at ts; cases ts
  | some x =>
    rw [e] at ts
    obtain rfl := Option.some.inj ts
    obtain ⟨q, hq, _⟩ := f.cl r p hp w hw p x.1 x.2 hp e
    exact key_look.mpr (by rw [hq]; rfl)
theorem Lst.ten {ws : List Wd} {E : Tb} (f : Lst ws E) : ∀ r ∈ keysT E, r.length ≤ 10 := fun r hr => by
  obtain ⟨p, hp⟩ := Option.isSome_iff_exists.mp (key_look.mp hr)
  exact f.key r p hp
theorem Lst.keys {ws : List Wd} {E E' : Tb} (f : Lst ws E) (g : Lst ws E') (r : Wd) (h : r ∈ keysT E) : r ∈ keysT E' := by
  obtain ⟨p, hp⟩ := Option.isSome_iff_exists.mp (key_look.mp h)
  obtain ⟨q, hq, _⟩ := g.least (f.der r p hp)
  exact key_look.mpr (by rw [hq]; rfl)
theorem keys_dE (E : Tb) : (dE E).map (·.1) = (keysT E).map fun a => (.inr (S a) : Key) := by
  unfold dE keysT
  rw [List.map_map, List.map_map]; rfl
theorem valV_off {ms : List (Key × V)} {k : Key} (h : k ∉ ms.map (·.1)) : valV ms k = none := by
  induction ms with
  | nil => rfl
  | cons m ms ih =>
    rw [List.map_cons, List.mem_cons] at h
    rw [show m = (m.1, m.2) from rfl, valV_neg (fun z => h (.inl z.symm))]
    exact ih fun z => h (.inr z)
def hgt (P : List Wd) (h : Wd → Nat) (r : Wd) : V := if r ∈ P then .int (h r : Nat) else .non
def hD (R P : List Wd) (h : Wd → Nat) : List (Key × V) := R.map fun r => (.inr (S r), hgt P h r)
theorem hD_keys (R P : List Wd) (h : Wd → Nat) : (hD R P h).map (·.1) = R.map fun a => (.inr (S a) : Key) := by
  unfold hD
  rw [List.map_map]; rfl
theorem hD_val {R P : List Wd} {h : Wd → Nat} {r : Wd} (hr : r ∈ R) : valV (hD R P h) (.inr (S r)) = some (hgt P h r) := by
  induction R with
  | nil => cases hr
  | cons x R ih =>
    by_cases z : x = r
    · rw [← z]; exact valV_pos rfl
    · show valV ((.inr (S x), hgt P h x) :: hD R P h) _ = _
      rw [valV_neg (fun y => z (inrS.mp y))]
      exact ih ((List.mem_cons.mp hr).resolve_left fun y => z y.symm)
/-! ### waits, by themselves -/
def IsPair (ws : List Wd) (q : Wd × Wd) : Prop := q.1 ∈ ws ∧ q.2 ∈ ws ∧ ((q.1 ≠ q.2 ∧ ∃ r, left q.1 q.2 = some r) ∨ (q.1 < q.2 ∧ left q.1 q.2 = none ∧ left q.2 q.1 = none))
def pw (P : List Wd) (h : Wd → Nat) (q : Wd × Wd) : Option Nat := match left q.1 q.2 with
  | none => some (shr q.1 q.2)
  | some r => if r ∈ P then some (q.2.length + h r) else none
inductive WaitIs (ws P : List Wd) (h : Wd → Nat) : Option Nat → Option (Wd × Wd) → Prop
  | out {q : Wd × Wd} : IsPair ws q → pw P h q = none → WaitIs ws P h none none
  | nil : (∀ q, ¬ IsPair ws q) → WaitIs ws P h (some 0) none
  | at {n : Nat} {q : Wd × Wd} : IsPair ws q → pw P h q = some n → (∀ q', IsPair ws q' → ∃ m, pw P h q' = some m ∧ m ≤ n) → WaitIs ws P h (some n) (some q)
theorem IsPair.perm {ws zs : List Wd} (m : ∀ w, w ∈ ws ↔ w ∈ zs) {q : Wd × Wd} : IsPair ws q ↔ IsPair zs q := by
  unfold IsPair
  rw [m, m]
theorem WaitIs.perm {ws zs P : List Wd} (m : ∀ w, w ∈ ws ↔ w ∈ zs) {h : Wd → Nat} {a : Option Nat} {b : Option (Wd × Wd)} (w : WaitIs ws P h a b) : WaitIs zs P h a b := by
  cases w with
  | out a b => exact .out ((IsPair.perm m).mp a) b
  | nil a => exact .nil fun q z => a q ((IsPair.perm m).mpr z)
  | «at» a b c => exact .at ((IsPair.perm m).mp a) b fun q z => c q ((IsPair.perm m).mpr z)
theorem pw_same {ws : List Wd} {E E' : Tb} {P P' : List Wd} {h h' : Wd → Nat} (t : Lst ws E) (t' : Lst ws E') (a : Hts ws (keysT E) P h) (b : Hts ws (keysT E') P' h') {q : Wd × Wd} (hq : IsPair ws q) : pw P h q = pw P' h' q := by
  unfold pw
  cases e : left q.1 q.2 with
  | none => rfl
  | some r =>
    have ne : q.1 ≠ q.2 := by
      rcases hq.2.2 with h | h
      · exact h.1
      · rw [e] at h; cases h.2.1
    obtain ⟨p, hp, _⟩ := t.bg _ hq.1 _ hq.2.1 r ne e
    have hr : r ∈ keysT E := key_look.mpr (by rw [hp]; rfl)
    have hr' := t.keys t' r hr
    show (if r ∈ P then some (q.2.length + h r) else none) = if r ∈ P' then some (q.2.length + h' r) else none
    by_cases z : r ∈ P
    · have g := ((a.iff r).mp z).2
      rw [if_pos z, if_pos ((b.iff r).mpr ⟨hr', g⟩), a.uniq b t.tgt t'.tgt r g hr hr']
    · rw [if_neg z, if_neg (fun y => z ((a.iff r).mpr ⟨hr, ((b.iff r).mp y).2⟩))]
theorem WaitIs.uniq {ws : List Wd} {E E' : Tb} {P P' : List Wd} {h h' : Wd → Nat} (t : Lst ws E) (t' : Lst ws E') (a : Hts ws (keysT E) P h) (b : Hts ws (keysT E') P' h') {x y : Option Nat} {u v : Option (Wd × Wd)} (f : WaitIs ws P h x u) (g : WaitIs ws P' h' y v) : x = y := by
  cases f with
  | @out q f1 f2 =>
    cases g with
    | out => rfl
    | nil g1 => exact absurd f1 (g1 q)
    | «at» g1 g2 g3 =>
      obtain ⟨m, e, _⟩ := g3 q f1
      rw [← pw_same t t' a b f1, f2] at e; cases e
  | nil f1 =>
    cases g with
    | @out q g1 g2 => exact absurd g1 (f1 q)
    | nil => rfl
    | @«at» n q g1 g2 g3 => exact absurd g1 (f1 q)
  | @«at» n q f1 f2 f3 =>
    cases g with
    | @out q' g1 g2 =>
      obtain ⟨m, e, _⟩ := f3 q' g1
      rw [pw_same t t' a b g1, g2] at e; cases e
    | nil g1 => exact absurd f1 (g1 q)
    | @«at» n' q' g1 g2 g3 =>
      obtain ⟨m, e, l⟩ := f3 q' g1
      obtain ⟨m', e', l'⟩ := g3 q f1
      rw [pw_same t t' a b g1, g2] at e
      rw [← pw_same t t' a b f1, f2] at e'
      obtain rfl := Option.some.inj e
      obtain rfl := Option.some.inj e'
      rw [Nat.le_antisymm l' l]

/-! ### late, by itself -/
theorem most_mem : ∀ {ns : List Nat}, 0 < most ns → most ns ∈ ns
  | [], h => absurd h (Nat.lt_irrefl 0)
  | x :: ns, h => by
    show max x (most ns) ∈ x :: ns
    by_cases z : most ns ≤ x
    · rw [Nat.max_eq_left z]; exact List.mem_cons_self
    · rw [Nat.max_eq_right (by omega)]; exact List.mem_cons_of_mem _ (most_mem (by omega))
theorem shr_pre (x y z : Wd) : shr (x ++ y) (x ++ z) = x.length + shr y z := by
  induction x with
  | nil => exact (Nat.zero_add _).symm
  | cons a x ih =>
    show shr (a :: (x ++ y)) (a :: (x ++ z)) = _
    rw [shr_cons, if_pos rfl, ih, List.length_cons]; omega
theorem shr_nil (y : Wd) : shr y [] = 0 := by cases y <;> rfl
theorem shr_app1 (x y : Wd) : shr (x ++ y) x = x.length := by
  have := shr_pre x y []
  rw [List.append_nil, shr_nil] at this
  exact this
theorem shr_le : ∀ x y : Wd, shr x y ≤ y.length
  | [], y => by cases y <;> exact Nat.zero_le _
  | a :: x, [] => Nat.le_refl _
  | a :: x, b :: y => by
    rw [shr_cons]
    have := shr_le x y
    split
    · rw [List.length_cons]; omega
    · exact Nat.zero_le _
theorem shr_comm : ∀ x y : Wd, shr x y = shr y x
  | [], [] => rfl
  | [], _ :: _ => rfl
  | _ :: _, [] => rfl
  | a :: x, b :: y => by
    rw [shr_cons, shr_cons, shr_comm x y]
    by_cases e : a = b
    · rw [if_pos e, if_pos e.symm]
    · rw [if_neg e, if_neg fun z => e z.symm]
inductive Below (ws : List Wd) : Wd → Wd → Prop
  | one {r s w : Wd} : w ∈ ws → tgt r w = some s → Below ws r s
  | more {r s t w : Wd} : w ∈ ws → tgt r w = some s → Below ws s t → Below ws r t
theorem Below.snoc {ws : List Wd} {r s t w : Wd} (a : Below ws r s) (hw : w ∈ ws) (e : tgt s w = some t) : Below ws r t := by
  induction a with
  | one h1 h2 => exact .more h1 h2 (.one hw e)
  | more h1 h2 _ ih => exact .more h1 h2 (ih e)
theorem Hgt.irr {ws : List Wd} {r : Wd} (g : Hgt ws r) : ¬ Below ws r r := by
  induction g with
  | @mk r _ ih =>
    intro b
    cases b with
    | one hw e => exact ih _ hw _ e (.one hw e)
    | more hw e b => exact ih _ hw _ e (b.snoc hw e)
theorem Hts.chain {ws R P : List Wd} {h : Wd → Nat} (a : Hts ws R P h) (w10 : ∀ w ∈ ws, w.length ≤ 10) (r10 : ∀ r ∈ R, r.length ≤ 10) (cl : ∀ r ∈ R, ∀ w ∈ ws, ∀ s, tgt r w = some s → s ∈ R) {r : Wd} (g : Hgt ws r) :
    r ∈ R → ∃ L : List Wd, L.Nodup ∧ (∀ x ∈ L, x ∈ P ∧ (x = r ∨ Below ws r x)) ∧ h r ≤ 10 * L.length := by
  induction g with
  | @mk r hs ih =>
    intro rR
    have rP : r ∈ P := (a.iff r).mpr ⟨rR, .mk hs⟩
    have base : h r ≤ 10 → ∃ L : List Wd, L.Nodup ∧ (∀ x ∈ L, x ∈ P ∧ (x = r ∨ Below ws r x)) ∧ h r ≤ 10 * L.length := fun l =>
      ⟨[r], by simp, fun x hx => by rw [List.mem_singleton.mp hx]; exact ⟨rP, .inl rfl⟩, l⟩
    by_cases z : h r = 0
    · exact base (by omega)
    · have hv := a.val r rP
      have pos : 0 < most (ws.map (wval h r)) := by
        have : h r = most (ws.map (wval h r)) := hv
        omega
      obtain ⟨w, hw, ew⟩ := List.mem_map.mp (most_mem pos)
      have eh : wval h r w = h r := ew.trans hv.symm
      have lw := w10 w hw
      have lr := r10 r rR
      unfold wval at eh
      cases e : step r w with
      | none =>
        rw [e] at eh
        have := shr_le r w
        exact base (by dsimp only at eh; omega)
      | some q =>
        obtain ⟨s, k⟩ := q
        have ts : tgt r w = some s := by unfold tgt; rw [e]; rfl
        obtain ⟨L, nd, sub, le⟩ := ih w hw s ts (cl r rR w hw s ts)
        have le2 : h r ≤ 10 + h s := by
          rw [e] at eh
          cases k <;> (dsimp only at eh; omega)
        refine ⟨r :: L, List.nodup_cons.mpr ⟨fun hm => ?_, nd⟩, fun x hx => ?_, by rw [List.length_cons]; omega⟩
        · rcases (sub r hm).2 with e2 | b
          · exact (Hgt.mk hs).irr (.one hw (by rw [← e2] at ts; exact ts))
          · exact (Hgt.mk hs).irr (.more hw ts b)
        · rcases List.mem_cons.mp hx with rfl | hx
          · exact ⟨rP, .inl rfl⟩
          · obtain ⟨h1, h2⟩ := sub x hx
            refine ⟨h1, .inr ?_⟩
            rcases h2 with rfl | b
            · exact .one hw ts
            · exact .more hw ts b
theorem nodup_len : ∀ {M R : List Wd}, M.Nodup → (∀ m ∈ M, m ∈ R) → M.length ≤ R.length
  | [], _, _, _ => Nat.zero_le _
  | m :: M, R, nd, h => by
    obtain ⟨h1, h2⟩ := List.nodup_cons.mp nd
    have hm := h m List.mem_cons_self
    have := nodup_len (R := R.erase m) h2 fun x hx => (List.mem_erase_of_ne (fun z : x = m => h1 (z ▸ hx))).mpr (h x (List.mem_cons_of_mem _ hx))
    rw [List.length_erase_of_mem hm] at this
    have := List.length_pos_of_mem hm
    rw [List.length_cons]
    omega
theorem Hts.bound {ws R P : List Wd} {h : Wd → Nat} (a : Hts ws R P h) (w10 : ∀ w ∈ ws, w.length ≤ 10) (r10 : ∀ r ∈ R, r.length ≤ 10) (cl : ∀ r ∈ R, ∀ w ∈ ws, ∀ s, tgt r w = some s → s ∈ R) (len : R.length ≤ 132) {r : Wd} (rP : r ∈ P) : h r ≤ 1320 := by
  obtain ⟨rR, g⟩ := (a.iff r).mp rP
  obtain ⟨L, nd, sub, le⟩ := a.chain w10 r10 cl g rR
  have := nodup_len nd fun x hx => ((a.iff x).mp (sub x hx).1).1
  omega
theorem flat_ne : ∀ {B : List Wd}, (∀ w ∈ B, w ≠ []) → B.length ≤ B.flatten.length
  | [], _ => Nat.le_refl _
  | w :: B, h => by
    have := flat_ne fun x hx => h x (List.mem_cons_of_mem _ hx)
    have := List.length_pos_iff.mpr (h w List.mem_cons_self)
    rw [List.flatten_cons, List.length_append, List.length_cons]
    omega
theorem Code.ne {ws : List Wd} (c : Code ws) {w : Wd} (h : w ∈ ws) : w ≠ [] := List.length_pos_iff.mp (c.wd w h).1
/-- two rows that share n -/
structure LateOk (ws : List Wd) (n : Nat) (A B : List Wd) : Prop where
  a : ∀ w ∈ A, w ∈ ws
  b : ∀ w ∈ B, w ∈ ws
  hd : ∃ a0 b0 A' B', A = a0 :: A' ∧ B = b0 :: B' ∧ a0 ≠ b0
  sh : shr A.flatten B.flatten = n
  la : A.flatten.length ≤ 3000
  lb : B.flatten.length ≤ 3000
/-- two rows under way: the first one ahead by r -/
structure LedOk (ws : List Wd) (h : Wd → Nat) (n : Nat) (r : Wd) (A B : List Wd) : Prop where
  a : ∀ w ∈ A, w ∈ ws
  b : ∀ w ∈ B, w ∈ ws
  hd : ∃ a0 b0 A' B', A = a0 :: A' ∧ B = b0 :: B' ∧ a0 ≠ b0
  eq : A.flatten = B.flatten ++ r
  len : B.flatten.length + h r = n
theorem flat_snoc (B : List Wd) (w : Wd) : (B ++ [w]).flatten = B.flatten ++ w := by rw [List.flatten_append]; simp
theorem hd_snoc {A B : List Wd} {w : Wd} (hd : ∃ a0 b0 A' B', A = a0 :: A' ∧ B = b0 :: B' ∧ a0 ≠ b0) : ∃ a0 b0 A' B', A = a0 :: A' ∧ B ++ [w] = b0 :: B' ∧ a0 ≠ b0 :=
  let ⟨a0, b0, A', B', h1, h2, h3⟩ := hd; ⟨a0, b0, A', B' ++ [w], h1, by rw [h2]; rfl, h3⟩
theorem hd_swap {A B : List Wd} (hd : ∃ a0 b0 A' B', A = a0 :: A' ∧ B = b0 :: B' ∧ a0 ≠ b0) : ∃ a0 b0 A' B', B = a0 :: A' ∧ A = b0 :: B' ∧ a0 ≠ b0 :=
  let ⟨a0, b0, A', B', h1, h2, h3⟩ := hd; ⟨b0, a0, B', A', h2, h1, fun z => h3 z.symm⟩
theorem mem_snoc {ws B : List Wd} {w : Wd} (hb : ∀ w ∈ B, w ∈ ws) (hw : w ∈ ws) : ∀ x ∈ B ++ [w], x ∈ ws := fun x h => (List.mem_append.mp h).elim (hb x) fun z => by rw [List.mem_singleton.mp z]; exact hw
theorem LedOk.done {ws A B : List Wd} {h : Wd → Nat} {n : Nat} {r : Wd} (k : LedOk ws h n r A B) (z : h r = 0) (n4 : n ≤ 1400) (r1 : r.length ≤ 10) : LateOk ws n A B := by
  have := k.len
  refine ⟨k.a, k.b, k.hd, ?_, ?_, by omega⟩
  · rw [k.eq, shr_app1]; omega
  · rw [k.eq, List.length_append]; omega
theorem LedOk.stop {ws A B : List Wd} {h : Wd → Nat} {n : Nat} {r w : Wd} (k : LedOk ws h n r A B) (hw : w ∈ ws) (z : shr r w = h r) (n4 : n ≤ 1400) (r1 : r.length ≤ 10) (w1 : w.length ≤ 10) : LateOk ws n A (B ++ [w]) := by
  have := k.len
  refine ⟨k.a, mem_snoc k.b hw, hd_snoc k.hd, ?_, ?_, ?_⟩
  · rw [flat_snoc, k.eq, shr_pre, z]; exact k.len
  · rw [k.eq, List.length_append]; omega
  · rw [flat_snoc, List.length_append]; omega
theorem LedOk.stay {ws A B : List Wd} {h : Wd → Nat} {n : Nat} {r w s : Wd} (k : LedOk ws h n r A B) (hw : w ∈ ws) (e : step r w = some (s, false)) (z : w.length + h s = h r) : LedOk ws h n s A (B ++ [w]) := by
  have := k.len
  rcases step_eq.mp e with ⟨_, z1⟩ | ⟨z1, _⟩
  · refine ⟨k.a, mem_snoc k.b hw, hd_snoc k.hd, by rw [flat_snoc, k.eq, z1, List.append_assoc], by rw [flat_snoc, List.length_append]; omega⟩
  · cases z1
theorem LedOk.swap {ws A B : List Wd} {h : Wd → Nat} {n : Nat} {r w s : Wd} (k : LedOk ws h n r A B) (hw : w ∈ ws) (e : step r w = some (s, true)) (z : r.length + h s = h r) : LedOk ws h n s (B ++ [w]) A := by
  have := k.len
  rcases step_eq.mp e with ⟨z1, _⟩ | ⟨_, z1, _⟩
  · cases z1
  · refine ⟨mem_snoc k.b hw, k.a, hd_swap (hd_snoc k.hd), by rw [flat_snoc, k.eq, z1, List.append_assoc], by rw [k.eq, List.length_append]; omega⟩
def mled (h : Wd → Nat) (r : Wd) : Nat := 2 * h r + if r = [] then 1 else 0
theorem mled_stay {h : Wd → Nat} {r w s : Wd} (hw : w ≠ []) (e : step r w = some (s, false)) (z : w.length + h s = h r) : mled h s < mled h r := by
  have := List.length_pos_iff.mpr hw
  unfold mled
  split <;> split <;> omega
theorem mled_swap {h : Wd → Nat} {r w s : Wd} (e : step r w = some (s, true)) (z : r.length + h s = h r) : mled h s < mled h r := by
  rcases step_eq.mp e with ⟨z1, _⟩ | ⟨_, z1, ns⟩
  · cases z1
  · unfold mled
    rw [if_neg ns]
    by_cases y : r = []
    · rw [if_pos y]; rw [y] at z; simp only [List.length_nil] at z; rw [y]; omega
    · have := List.length_pos_iff.mpr y
      omega
theorem some_pair {ws : List Wd} {a b : Wd} (ha : a ∈ ws) (hb : b ∈ ws) (n : a ≠ b) : ∃ q, IsPair ws q := by
  cases e : left a b with
  | some r => exact ⟨(a, b), ha, hb, .inl ⟨n, r, e⟩⟩
  | none =>
    cases e2 : left b a with
    | some r => exact ⟨(b, a), hb, ha, .inl ⟨n.symm, r, e2⟩⟩
    | none =>
      by_cases l1 : a < b
      · exact ⟨(a, b), ha, hb, .inr ⟨l1, e, e2⟩⟩
      · by_cases l2 : b < a
        · exact ⟨(b, a), hb, ha, .inr ⟨l2, e2, e⟩⟩
        · exact absurd (List.le_antisymm l2 l1) n
theorem two_of {ws : List Wd} (nd : ws.Nodup) (h : 2 ≤ ws.length) : ∃ a ∈ ws, ∃ b ∈ ws, a ≠ b := by
  match ws, nd, h with
  | a :: b :: r, nd, _ =>
    refine ⟨a, List.mem_cons_self, b, List.mem_cons_of_mem _ List.mem_cons_self, fun z => ?_⟩
    rw [z] at nd
    exact (List.nodup_cons.mp nd).1 List.mem_cons_self
theorem IsPair.ne {ws : List Wd} {q : Wd × Wd} (h : IsPair ws q) : q.1 ≠ q.2 := by
  rcases h.2.2 with ⟨n, _⟩ | ⟨l, _⟩
  · exact n
  · intro z
    rw [z] at l
    exact List.lt_irrefl _ l

def PairAt (H : Hp) (v : V) (q : Wd × Wd) : Prop := ∃ t, v = .ref t ∧ H t = some (.tup [sv q.1, sv q.2])
theorem PairAt.mono {H H' : Hp} {v : V} {q : Wd × Wd} (h : ∀ t u, H t = some (.tup u) → H' t = some (.tup u)) (a : PairAt H v q) : PairAt H' v q := let ⟨t, e, x⟩ := a; ⟨t, e, h _ _ x⟩
abbrev s_pairs_of : Stmt := top 33
theorem sc_pairs_of : FnScope ["words", "found", "word", "other"] ["words"] (defScope s_pairs_of) := ⟨rfl, rfl, rfl, by decide +kernel, rfl, by decide +kernel, by decide +kernel⟩
def sp_pairs_of : Sp := fun vs H Q _ => ∃ p : Addr, vs = [.ref p] ∧ ∃ ws : List Wd, H p = some (.lst (ws.map sv)) ∧ Code ws ∧ ∀ (qs : List (Wd × Wd)) (xs : List V) (l : Addr) (H' : Hp), (∀ q, q ∈ qs ↔ IsPair ws q) → qs.length ≤ 144 → Same H H' → H l = none → H' l = some (.lst xs) → Paired (PairAt H') xs qs → Q (.ref l) H'
theorem ok_pairs_of (B : Bi mg) (D : Def K mg "pairs_of" s_pairs_of) (c_left_of : Cal P w K mg base CX0 "left_of" 1 ["text", "other"] sp_left_of) : Cal P w K mg base CX0 "pairs_of" 2 ["words"] sp_pairs_of := by
  have nd := sc_pairs_of.nd
  refine D.cal sc_pairs_of (fun _ _ _ _ _ _ us hl => match us, hl with | [_], _ => rfl) (fun vs H Q E h => ?_) (fun f cdv A outer s H vs Q E hr h => ?_)
  · obtain ⟨_, rfl, _⟩ := h
    rfl
  · obtain ⟨p, rfl, ws, hp, c, q⟩ := h
    refine ⟨_, PSs.nox (pss_cons (ps_set (i := 1) nd rfl (.inl rfl) (pe_lst pa_nil))
      (pss_cons (ps_for PassesOwn.never rfl (pi_list (pv 0)) (pg_name (i := 2) nd rfl (.inl rfl))
        (pss_one (ps_for PassesOwn.never rfl (pi_list (pv 0)) (pg_name (i := 3) nd rfl (.inl rfl))
          (pss_one (ps_if (PW.pt (pw_and (pt_cmpR op_new (pv 2) (pv 3) (nomark _)) (pw_and1 (pt_cmpR op_notN (pe_cal c_left_of hr (pa_cons (pv 2) (pa_cons (pv 3) pa_nil))) pe_non (nomark _)))))
            (pss_one (ps_expr (pe_bm PySem.F.plainAttrs_list PySem.F.slot_list_append PySem.F.type_list_append mt_app (pv 1) (pa_cons (pe_tup (pa_cons (pv 2) (pa_cons (pv 3) pa_nil))) pa_nil))))
            (pss_one (ps_if (PW.pt (pw_and (pt_cmpR op_lt_str (pv 2) (pv 3) (nomark _)) (pw_and1 (pt_cmpR op_isN (pe_cal c_left_of hr (pa_cons (pv 3) (pa_cons (pv 2) pa_nil))) pe_non (nomark _)))))
              (pss_one (ps_expr (pe_bm PySem.F.plainAttrs_list PySem.F.slot_list_append PySem.F.type_list_append mt_app (pv 1) (pa_cons (pe_tup (pa_cons (pv 2) (pa_cons (pv 3) pa_nil))) pa_nil))))
              pss_nil)))))))
      (pss_one (ps_ret (pv 1))))), ?_⟩
    try dsimp only [cxOf, Cx.nox, Cx.wish]
    have wle := c.le
    fail "gi"
    rename_i l nl
    have pl : p ≠ l := (ne_free nl hp).symm
    refine for_wl (xs := ws) (j := 2) (fun pre σ' H' => ∃ (qs : List (Wd × Wd)) (xs : List V) (y3 : Option V) (y2 : Option V), σ' = [some (.ref p), some (.ref l), y2, y3] ∧ Same H H' ∧ H' l = some (.lst xs) ∧ Paired (PairAt H') xs qs ∧ qs.length ≤ 12 * pre.length ∧ (∀ q ∈ qs, IsPair ws q) ∧ ∀ q, IsPair ws q → q.1 ∈ pre → q ∈ qs)
      ⟨[], [], none, none, rfl, new nl, L2.upd_same, .nil, Nat.le_refl _, (fun _ h => by cases h), fun _ _ h => by cases h⟩ ?_ ?_ ?_
    · rintro pre σ' H' ⟨qs, xs, y3, y2, rfl, a1, a2, a3, a4, a5, a6⟩
      exact SqL.of (a1 _ _ hp)
    · rintro pre w' post σ' H' ex ⟨qs, xs, y3, y2, rfl, a1, a2, a3, a4, a5, a6⟩
      have hw : w' ∈ ws := by rw [ex]; exact List.mem_append_right _ List.mem_cons_self
      have lw := c.len hw
      have lp : pre.length + 1 ≤ ws.length := by rw [ex, List.length_append, List.length_cons]; omega
      have hp1 := a1 _ _ hp
      fail "gi"
      refine for_wl (xs := ws) (j := 3) (fun pre1 σ' H' => ∃ (qs : List (Wd × Wd)) (xs : List V) (y3 : Option V), σ' = [some (.ref p), some (.ref l), some (sv w'), y3] ∧ Same H H' ∧ H' l = some (.lst xs) ∧ Paired (PairAt H') xs qs ∧ qs.length ≤ 12 * pre.length + pre1.length ∧ (∀ q ∈ qs, IsPair ws q) ∧ (∀ q, IsPair ws q → q.1 ∈ pre → q ∈ qs) ∧ ∀ q, IsPair ws q → q.1 = w' → q.2 ∈ pre1 → q ∈ qs)
        ⟨qs, xs, _, rfl, a1, a2, a3, a4, a5, a6, fun _ _ _ h => by cases h⟩ ?_ ?_ ?_
      · rintro pre1 σ' H' ⟨qs, xs, y3, rfl, a1, a2, a3, a4, a5, a6, a7⟩
        exact SqL.of (a1 _ _ hp)
      · rintro pre1 o' post1 σ' H' ex1 ⟨qs, xs, y3, rfl, a1, a2, a3, a4, a5, a6, a7⟩
        have ho : o' ∈ ws := by rw [ex1]; exact List.mem_append_right _ List.mem_cons_self
        have lo := c.len ho
        have lp1 : pre1.length + 1 ≤ ws.length := by rw [ex1, List.length_append, List.length_cons]; omega
        have xl : xs.length = qs.length := Paired.length a3
        have al : xs.length < 16000000 := by omega
        have skip : ¬ IsPair ws (w', o') → ∀ q, IsPair ws q → q.1 = w' → q.2 ∈ pre1 ++ [o'] → q ∈ qs := fun n q iq e1 h => by
          rcases List.mem_append.mp h with h | h
          · exact a7 q iq e1 h
          · obtain ⟨x, y⟩ := q
            obtain rfl : x = w' := e1
            obtain rfl := List.mem_singleton.mp h
            exact absurd iq n
        have add : IsPair ws (w', o') → ∀ (H3 : Hp) (t : Addr), Same H' H3 → H3 t = none → ∃ (qs' : List (Wd × Wd)) (xs' : List V), Same H (L2.upd (L2.upd H3 t (.tup [sv w', sv o'])) l (.lst (xs ++ [.ref t]))) ∧ xs' = xs ++ [.ref t] ∧ Paired (PairAt (L2.upd (L2.upd H3 t (.tup [sv w', sv o'])) l (.lst (xs ++ [.ref t])))) xs' qs' ∧ qs'.length ≤ 12 * pre.length + (pre1 ++ [o']).length ∧ (∀ q ∈ qs', IsPair ws q) ∧ (∀ q, IsPair ws q → q.1 ∈ pre → q ∈ qs') ∧ ∀ q, IsPair ws q → q.1 = w' → q.2 ∈ pre1 ++ [o'] → q ∈ qs' := fun ip H3 t s3 nt => by
          have tl : t ≠ l := ne_free nt (s3 _ _ a2)
          have nt2 : ∀ a u, H' a = some (.tup u) → L2.upd (L2.upd H3 t (.tup [sv w', sv o'])) l (.lst (xs ++ [.ref t])) a = some (.tup u) := fun a u e => by
            rw [upd_ne (fun z => by rw [z, a2] at e; cases e)]
            exact new nt _ _ (s3 _ _ e)
          refine ⟨qs ++ [(w', o')], _, mutd ((a1.trans s3).trans (new nt)) nl, rfl, Paired.snoc (Paired.mapP a3 fun a b h => PairAt.mono nt2 h) ⟨t, rfl, by rw [upd_ne tl, L2.upd_same]⟩, ?_, fun q hq => ?_, fun q iq h => List.mem_append_left _ (a6 q iq h), fun q iq e1 h => ?_⟩
          · rw [List.length_append, List.length_append, List.length_singleton, List.length_singleton]; omega
          · rcases List.mem_append.mp hq with h | h
            · exact a5 q h
            · rw [List.mem_singleton.mp h]; exact ip
          · rcases List.mem_append.mp h with h | h
            · exact List.mem_append_left _ (a7 q iq e1 h)
            · obtain ⟨x, y⟩ := q
              obtain rfl : x = w' := e1
              obtain rfl := List.mem_singleton.mp h
              exact List.mem_append_right _ List.mem_cons_self
        fail "gi"
        refine itn (fun e => ?_) fun e => ?_
        · fail "gi"
          cases e1 : left w' o' with
          | some r =>
            have ip : IsPair ws (w', o') := ⟨hw, ho, .inl ⟨e, r, e1⟩⟩
            fail "gi"
            rename_i t nt
            obtain ⟨qs', xs', b1, rfl, b2, b3⟩ := add ip H' t (Same.refl _) nt
            exact ⟨qs', _, _, rfl, b1, L2.upd_same, b2, b3⟩
          | none =>
            fail "gi"
            refine itd (fun e2 => ?_) fun e2 => ?_
            · fail "gi"
              cases e3 : left o' w' with
              | none =>
                have ip : IsPair ws (w', o') := ⟨hw, ho, .inr ⟨e2, e1, e3⟩⟩
                fail "gi"
                rename_i t nt
                obtain ⟨qs', xs', b1, rfl, b2, b3⟩ := add ip H' t (Same.refl _) nt
                exact ⟨qs', _, _, rfl, b1, L2.upd_same, b2, b3⟩
              | some r =>
                have np : ¬ IsPair ws (w', o') := fun z => by
                  rcases z.2.2 with ⟨_, r', h⟩ | ⟨_, _, h⟩
                  · rw [e1] at h; cases h
                  · rw [e3] at h; cases h
                fail "gi"
                exact ⟨qs, xs, _, rfl, a1, a2, a3, by rw [List.length_append]; omega, a5, a6, skip np⟩
            · have np : ¬ IsPair ws (w', o') := fun z => by
                rcases z.2.2 with ⟨_, r', h⟩ | ⟨h, _, _⟩
                · rw [e1] at h; cases h
                · exact e2 h
              fail "gi"
              exact ⟨qs, xs, _, rfl, a1, a2, a3, by rw [List.length_append]; omega, a5, a6, skip np⟩
        · have np : ¬ IsPair ws (w', o') := fun z => by
            rcases z.2.2 with ⟨h, _⟩ | ⟨h, _, _⟩
            · exact h e
            · dsimp only at h
              rw [e] at h
              exact List.lt_irrefl _ h
          fail "gi"
          refine itd (fun e2 => ?_) fun e2 => ?_
          · exact absurd (show w' < o' from e2) (by rw [e]; exact List.lt_irrefl _)
          · fail "gi"
            exact ⟨qs, xs, _, rfl, a1, a2, a3, by rw [List.length_append]; omega, a5, a6, skip np⟩
      · rintro σ' H' ⟨qs, xs, y3, rfl, a1, a2, a3, a4, a5, a6, a7⟩
        fail "gi"
        refine ⟨qs, xs, _, _, rfl, a1, a2, a3, by rw [List.length_append, List.length_singleton]; omega, a5, fun q iq h => ?_⟩
        rcases List.mem_append.mp h with h | h
        · exact a6 q iq h
        · exact a7 q iq (List.mem_singleton.mp h) iq.2.1
    · rintro σ' H' ⟨qs, xs, y3, y2, rfl, a1, a2, a3, a4, a5, a6⟩
      fail "gi"
      exact q qs xs l _ (fun q => ⟨a5 q, fun iq => a6 q iq iq.1⟩) (by omega) a1 nl a2 a3
abbrev s_pair_worth : Stmt := top 34
theorem sc_pair_worth : FnScope ["pair", "found", "rest"] ["pair", "found"] (defScope s_pair_worth) := ⟨rfl, rfl, rfl, by decide +kernel, rfl, by decide +kernel, by decide +kernel⟩
def sp_pair_worth : Sp := fun vs H Q _ => ∃ t f : Addr, vs = [.ref t, .ref f] ∧ ∃ (w o : Wd) (P : List Wd) (h : Wd → Nat) (fk : List (Key × V)), H t = some (.tup [sv w, sv o]) ∧ H f = some (.dK fk) ∧ w.length ≤ 10 ∧ o.length ≤ 10 ∧ fk.map (·.1) = P.map (fun a => (.inr (S a) : Key)) ∧ (∀ r ∈ P, valV fk (.inr (S r)) = some (.int (h r : Nat))) ∧
  (pw P h (w, o) = none → Ret H Q .non) ∧ ∀ n, pw P h (w, o) = some n → Ret H Q (.int (n : Nat))
theorem ok_pair_worth (B : Bi mg) (D : Def K mg "pair_worth" s_pair_worth) (c_left_of : Cal P w K mg base CX0 "left_of" 1 ["text", "other"] sp_left_of) (c_shared : Cal P w K mg base CX0 "shared" 1 ["text", "other"] sp_shared) : Cal P w K mg base CX0 "pair_worth" 2 ["pair", "found"] sp_pair_worth := by
  have nd := sc_pair_worth.nd
  refine D.cal sc_pair_worth (fun _ _ _ _ _ _ us hl => match us, hl with | [_, _], _ => rfl) (fun vs H Q E h => ?_) (fun f cdv A outer s H vs Q E hr h => ?_)
  · obtain ⟨_, _, rfl, _⟩ := h
    rfl
  · obtain ⟨t, f', rfl, w', o, P, h, fk, ht, hf, wl, ol, kk, kv, q0, q1⟩ := h
    refine ⟨_, PSs.nox (pss_cons (ps_set (i := 2) nd rfl (.inl rfl) (pe_cal c_left_of hr (pa_cons (pe_ix (r := rIxTn K) ix_t (pv 0) pe_int (fun _ _ => rfl)) (pa_cons (pe_ix (r := rIxTn K) ix_t (pv 0) pe_int (fun _ _ => rfl)) pa_nil))))
      (pss_cons (ps_if (pt_cmpR op_isN (pv 2) pe_non (nomark _))
        (pss_one (ps_ret (pe_cal c_shared hr (pa_cons (pe_ix (r := rIxTn K) ix_t (pv 0) pe_int (fun _ _ => rfl)) (pa_cons (pe_ix (r := rIxTn K) ix_t (pv 0) pe_int (fun _ _ => rfl)) pa_nil)))))
        pss_nil)
      (pss_cons (ps_if (pt_cmp (pc_dniN (hu_of hr) (pv 2) (pv 1)))
        (pss_one (ps_ret pe_non))
        pss_nil)
      (pss_one (ps_ret (pe_op op_add (pe_callB call_lenw (by rfl) B.len PySem.boot_len (pa_cons (pe_ix (r := rIxTn K) ix_t (pv 0) pe_int (fun _ _ => rfl)) pa_nil)) (pe_dgetN (hu_of hr) (pv 1) (pv 2) (fun _ _ => rfl)))))))), ?_⟩
    try dsimp only [cxOf, Cx.nox, Cx.wish]
    cases e : left w' o with
    | none =>
      have e1 : pw P h (w', o) = some (shr w' o) := by unfold pw; dsimp only; rw [e]
      fail "gi"
      rw [e]
      fail "gi"
      exact q1 _ e1 _ (Same.refl _)
    | some r =>
      have rl := left_len e
      have e1 : pw P h (w', o) = if r ∈ P then some (o.length + h r) else none := by unfold pw; dsimp only; rw [e]
      fail "gi"
      rw [e]
      fail "gi"
      by_cases z : r ∈ P
      · have lv := kv r z
        rw [if_pos z] at e1
        fail "gi"
        rw [lv]
        fail "gi"
        exact q1 _ e1 _ (Same.refl _)
      · have lv : valV fk (.inr (S r)) = none := valV_off (by rw [kk]; exact fun y => z (key_mem.mp y))
        rw [if_neg z] at e1
        fail "gi"
        rw [lv]
        fail "gi"
        exact q0 e1 _ (Same.refl _)
abbrev s_waited : Stmt := top 35
theorem sc_waited : FnScope ["words", "found", "best", "pair", "many"] ["words"] (defScope s_waited) := ⟨rfl, rfl, rfl, by decide +kernel, rfl, by decide +kernel, by decide +kernel⟩
inductive Best (P : List Wd) (h : Wd → Nat) : List (Wd × Wd) → Nat → Option (Wd × Wd) → Prop
  | nil : Best P h [] 0 none
  | some {pre : List (Wd × Wd)} {n : Nat} {q : Wd × Wd} : q ∈ pre → pw P h q = some n → (∀ q' ∈ pre, ∃ m, pw P h q' = some m ∧ m ≤ n) → Best P h pre n (some q)
def optn : Option Nat → V
  | some n => .int (n : Nat)
  | none => .non
def PairO (H : Hp) (v : V) : Option (Wd × Wd) → Prop
  | some q => PairAt H v q
  | none => v = .non
def sp_waited (C : Addr) : Sp := fun vs H Q _ => ∃ p : Addr, vs = [.ref p] ∧ ∃ ws : List Wd, H p = some (.lst (ws.map sv)) ∧ Code ws ∧ ∀ E P h a b v t H', Lst ws E → Hts ws (keysT E) P h → WaitIs ws P h a b → Same H H' → H t = none → H' t = some (.tup [optn a, v]) → PairO H' v b → Q (.ref t) H'
theorem ok_waited (B : Bi mg) (T_Table : TableC K C) (D : Def K mg "waited" s_waited) (c_table_of : Cal P w K mg base CX0 "table_of" 5 ["words"] (sp_table_of C)) (c_heights_of : Cal P w K mg base CX0 "heights_of" 4 ["words", "rests"] sp_heights_of) (c_pairs_of : Cal P w K mg base CX0 "pairs_of" 2 ["words"] sp_pairs_of) (c_pair_worth : Cal P w K mg base CX0 "pair_worth" 2 ["pair", "found"] sp_pair_worth) : Cal P w K mg base CX0 "waited" 6 ["words"] (sp_waited C) := by
  have nd := sc_waited.nd
  obtain ⟨T_cl, T_n1, T_n2, T_n3⟩ := T_Table
  refine D.cal sc_waited (fun _ _ _ _ _ _ us hl => match us, hl with | [_], _ => rfl) (fun vs H Q E h => ?_) (fun f cdv A outer s H vs Q E hr h => ?_)
  · obtain ⟨_, rfl, _⟩ := h
    rfl
  · obtain ⟨p, rfl, ws, hp, c, q⟩ := h
    refine ⟨_, PSs.nox (pss_cons (ps_set (i := 1) nd rfl (.inl rfl) (pe_cal c_heights_of hr (pa_cons (pv 0) (pa_cons (pe_fld (pe_cal c_table_of hr (pa_cons (pv 0) pa_nil)) rfl) pa_nil))))
      (pss_cons (ps_set (i := 2) nd rfl (.inl rfl) (pe_tup (pa_cons pe_int (pa_cons pe_non pa_nil))))
      (pss_cons (ps_for PassesOwn.never rfl (pi_list (pe_cal c_pairs_of hr (pa_cons (pv 0) pa_nil))) (pg_name (i := 3) nd rfl (.inl rfl))
        (pss_cons (ps_set (i := 4) nd rfl (.inl rfl) (pe_cal c_pair_worth hr (pa_cons (pv 3) (pa_cons (pv 1) pa_nil))))
        (pss_cons (ps_if (pt_cmpR op_isN (pv 4) pe_non (nomark _))
          (pss_one (ps_ret (pe_tup (pa_cons pe_non (pa_cons pe_non pa_nil)))))
          pss_nil)
        (pss_one (ps_if (PW.pt (pw_or (pt_cmpR op_isN (pe_ix (r := rIxTn K) ix_t (pv 2) pe_int (fun _ _ => rfl)) pe_non (nomark _)) (pw_or1 (pt_cmpR op_gt (pv 4) (pe_ix (r := rIxTn K) ix_t (pv 2) pe_int (fun _ _ => rfl)) (nomark _)))))
          (pss_one (ps_set (i := 2) nd rfl (.inl rfl) (pe_tup (pa_cons (pv 4) (pa_cons (pv 3) pa_nil)))))
          pss_nil)))))
      (pss_one (ps_ret (pv 2)))))), ?_⟩
    try dsimp only [cxOf, Cx.nox, Cx.wish]
    fail "gi"
    intro H1 x E dx la ca fa kc T f'
    have hx := T.hx
    unfold tabF at hx
    have hl := T.hl
    have L := f'.lst c
    have hp1 := T.s _ _ hp
    fail "gi"
    refine ⟨ws, keysT E, dE E, hp1, hl, keys_dE E, L.nd, by rw [keys_len]; exact L.len, c, L.ten, L.tgt, fun P h fk f H2 s2 nf hf fkk fkv ht => ?_⟩
    have hp2 := s2 _ _ hp1
    have sA := T.s.trans s2
    fail "gi"
    rename_i tb ntb
    have hp3 : L2.upd H2 tb (.tup [.int 0, .non]) p = some (.lst (ws.map sv)) := new ntb _ _ hp2
    intro qs xs l H3 hqs qsl s3 nl hls pq
    have hf3 : H3 f = some (.dK fk) := s3 _ _ (new ntb _ _ hf)
    have ht3 : H3 tb = some (.tup [.int 0, .non]) := s3 _ _ L2.upd_same
    have s13 : Same H H3 := sA.trans ((new ntb).trans s3)
    fail "gi"
    refine for_rl (xs := xs) (qs := qs) (Paired.length pq) (fun pre σ' H' => ∃ (tb : Addr) (n : Nat) (v : V) (b : Option (Wd × Wd)) (y3 y4 : Option V), σ' = [some (.ref p), some (.ref f), some (.ref tb), y3, y4] ∧ Same H3 H' ∧ H' tb = some (.tup [.int (n : Nat), v]) ∧ Best P h pre n b ∧ PairO H' v b ∧ H tb = none)
      ⟨tb, 0, .non, none, none, none, rfl, Same.refl _, ht3, .nil, rfl, sA.free ntb⟩ ?_ ?_ ?_
    · rintro pre σ' H' ⟨tb, n, v, b, y3, y4, rfl, b1, _⟩
      exact SqL.of (b1 _ _ hls)
    · rintro pre qp post v0 σ' H' ex hv0 ⟨tb, n, v, b, y3, y4, rfl, b1, b2, b3, b4, b5⟩
      obtain ⟨qp', ex', tv, rfl, htv⟩ := Paired.get pq _ _ hv0
      obtain rfl : qp = qp' := by
        rw [ex, List.getElem?_append_right (Nat.le_refl _), Nat.sub_self] at ex'
        exact Option.some.inj ex'
      have hq : IsPair ws qp := (hqs qp).mp (by rw [ex]; exact List.mem_append_right _ List.mem_cons_self)
      have htv1 := b1 _ _ htv
      have hf4 := b1 _ _ hf3
      have l1 := c.len hq.1
      have l2 := c.len hq.2.1
      fail "gi"
      refine ⟨qp.1, qp.2, P, h, fk, htv1, hf4, l1, l2, fkk, fkv, fun e => ?_, fun m e => ?_⟩
      · fail "gi"
        rename_i H5 s5 t5 nt5
        refine q E P h none none .non t5 _ L ht (.out hq e) (s13.trans (b1.trans (s5.trans (new nt5)))) (s13.free (b1.free (s5.free nt5))) L2.upd_same rfl
      · fail "gi"
        rename_i H5 s5
        have htb5 := s5 _ _ b2
        have keep : ∀ {t : Addr}, H5 t = none → Same H H5 := fun _ => s13.trans (b1.trans s5)
        have putIt : ∀ (t : Addr), H5 t = none → Same H3 (L2.upd H5 t (.tup [.int (m : Nat), .ref tv])) ∧ PairAt (L2.upd H5 t (.tup [.int (m : Nat), .ref tv])) (.ref tv) qp ∧ H t = none := fun t nt =>
          ⟨(b1.trans s5).trans (new nt), ⟨tv, rfl, new nt _ _ (s5 _ _ htv1)⟩, s13.free ((b1.trans s5).free nt)⟩
        cases b3 with
        | nil =>
          obtain rfl : v = .non := b4
          fail "gi"
          rename_i t5 nt5
          obtain ⟨k1, k2, k3⟩ := putIt t5 nt5
          exact ⟨t5, m, .ref tv, some qp, _, _, rfl, k1, L2.upd_same, .some List.mem_cons_self e (fun q' hq' => by rw [List.mem_singleton.mp hq']; exact ⟨m, e, Nat.le_refl _⟩), k2, k3⟩
        | @some _ _ qb h1 h2 h3 =>
          obtain ⟨tq, rfl, htq⟩ := b4
          fail "gi"
          refine itd (fun e2 => ?_) fun e2 => ?_
          · fail "gi"
            rename_i t5 nt5
            obtain ⟨k1, k2, k3⟩ := putIt t5 nt5
            refine ⟨t5, m, .ref tv, some qp, _, _, rfl, k1, L2.upd_same, .some (List.mem_append_right _ List.mem_cons_self) e (fun q' hq' => ?_), k2, k3⟩
            rcases List.mem_append.mp hq' with h | h
            · obtain ⟨m', e', l'⟩ := h3 q' h
              exact ⟨m', e', by omega⟩
            · rw [List.mem_singleton.mp h]; exact ⟨m, e, Nat.le_refl _⟩
          · fail "gi"
            refine ⟨tb, n, _, some qb, _, _, rfl, b1.trans s5, htb5, .some (List.mem_append_left _ h1) h2 (fun q' hq' => ?_), ⟨tq, rfl, s5 _ _ htq⟩, b5⟩
            rcases List.mem_append.mp hq' with h | h
            · exact h3 q' h
            · rw [List.mem_singleton.mp h]; exact ⟨m, e, by omega⟩
    · rintro σ' H' ⟨tb, n, v, b, y3, y4, rfl, b1, b2, b3, b4, b5⟩
      fail "gi"
      refine q E P h (some n) b v tb _ L ht ?_ (s13.trans b1) b5 b2 b4
      cases b3 with
      | nil => exact .nil fun q z => by have := (hqs q).mpr z; cases this
      | some h1 h2 h3 => exact .at ((hqs _).mp h1) h2 fun q z => h3 q ((hqs q).mpr z)
abbrev s_wait : Stmt := top 36
theorem sc_wait : FnScope ["words"] ["words"] (defScope s_wait) := ⟨rfl, rfl, rfl, by decide +kernel, rfl, by decide +kernel, by decide +kernel⟩
def sp_wait : Sp := fun vs H Q _ => ∃ p : Addr, vs = [.ref p] ∧ ∃ ws : List Wd, H p = some (.lst (ws.map sv)) ∧ Code ws ∧ ∀ E P h a b, Lst ws E → Hts ws (keysT E) P h → WaitIs ws P h a b → Ret H Q (optn a)
theorem ok_wait (B : Bi mg) (D : Def K mg "wait" s_wait) (c_checked : Cal P w K mg base CX0 "checked" 2 ["words"] sp_checked) (c_waited : Cal P w K mg base CX0 "waited" 6 ["words"] (sp_waited C)) : Cal P w K mg base CX0 "wait" 7 ["words"] sp_wait := by
  have nd := sc_wait.nd
  refine D.cal sc_wait (fun _ _ _ _ _ _ us hl => match us, hl with | [_], _ => rfl) (fun vs H Q E h => ?_) (fun f cdv A outer s H vs Q E hr h => ?_)
  · obtain ⟨_, rfl, _⟩ := h
    rfl
  · obtain ⟨p, rfl, ws, hp, c, q⟩ := h
    refine ⟨_, PSs.nox (pss_one (ps_ret (pe_ix (r := rIxTn K) ix_t (pe_cal c_waited hr (pa_cons (pe_cal c_checked hr (pa_cons (pv 0) pa_nil)) pa_nil)) pe_int (fun _ _ => rfl)))), ?_⟩
    try dsimp only [cxOf, Cx.nox, Cx.wish]
    fail "gi"
    intro zs pz
    fail "gi"
    rename_i p1 H1 s1 n1 hp1
    have hz := Code.perm pz c
    refine ⟨hz, fun E P h a b v t H2 tL ht wi s2 nt htt po => ?_⟩
    fail "gi"
    exact q E P h a b (tL.perm fun w => pz.mem_iff) (ht.perm pz) (wi.perm fun w => pz.mem_iff) _ (s1.trans s2)

/-! ### whether a text of the code begins so -/
/-- the places that are reached from the start by words -/
inductive Rch (ws : List Wd) (t : Wd) : Nat → Prop
  | zero : Rch ws t 0
  | step (i : Nat) (w : Wd) : Rch ws t i → i < t.length → w ∈ ws → (t.drop i).take w.length = w → Rch ws t (i + w.length)
def Beg (ws : List Wd) (t : Wd) : Prop := (∃ i, i < t.length ∧ Rch ws t i ∧ ∃ w ∈ ws, w.take (t.length - i) = t.drop i) ∨ Rch ws t t.length
/-- what is met when the places below i are done, and of the place i the words pre -/
def Met (ws : List Wd) (t : Wd) (i : Nat) (pre : List Wd) (j : Nat) : Prop := j = 0 ∨ (∃ i' w, i' < i ∧ Rch ws t i' ∧ w ∈ ws ∧ (t.drop i').take w.length = w ∧ j = i' + w.length) ∨ ∃ w, w ∈ pre ∧ (t.drop i).take w.length = w ∧ j = i + w.length
theorem rch_pos {ws : List Wd} (h1 : ∀ w ∈ ws, 1 ≤ w.length) {t : Wd} {i : Nat} (h : Rch ws t i) : i = 0 ∨ ∃ i' w, i' < i ∧ Rch ws t i' ∧ w ∈ ws ∧ (t.drop i').take w.length = w ∧ i = i' + w.length := by
  cases h with
  | zero => exact .inl rfl
  | step i' w a b c d => exact .inr ⟨i', w, by have := h1 w c; omega, a, c, d, rfl⟩
theorem met_self {ws : List Wd} (h1 : ∀ w ∈ ws, 1 ≤ w.length) {t : Wd} {i : Nat} (hi : i ≤ t.length) : Met ws t i [] i ↔ Rch ws t i := by
  constructor
  · rintro (h | ⟨i', w, a, b, c, d, e⟩ | ⟨w, a, _⟩)
    · rw [h]; exact .zero
    · rw [e]; exact .step i' w b (by omega) c d
    · cases a
  · intro h
    exact (rch_pos h1 h).elim .inl fun h => .inr (.inl h)
theorem met_zero {ws : List Wd} {t : Wd} {j : Nat} : Met ws t 0 [] j ↔ j = 0 := by
  constructor
  · rintro (h | ⟨i', w, a, _⟩ | ⟨w, a, _⟩)
    · exact h
    · omega
    · cases a
  · exact .inl
theorem met_snoc {ws : List Wd} {t : Wd} {i j : Nat} {pre : List Wd} {x : Wd} : Met ws t i (pre ++ [x]) j ↔ Met ws t i pre j ∨ ((t.drop i).take x.length = x ∧ j = i + x.length) := by
  constructor
  · rintro (h | h | ⟨w, a, b, c⟩)
    · exact .inl (.inl h)
    · exact .inl (.inr (.inl h))
    · rcases List.mem_append.mp a with a | a
      · exact .inl (.inr (.inr ⟨w, a, b, c⟩))
      · rw [List.mem_singleton.mp a] at b c; exact .inr ⟨b, c⟩
  · rintro ((h | h | ⟨w, a, b, c⟩) | ⟨b, c⟩)
    · exact .inl h
    · exact .inr (.inl h)
    · exact .inr (.inr ⟨w, List.mem_append_left _ a, b, c⟩)
    · exact .inr (.inr ⟨x, by simp, b, c⟩)
theorem met_done {ws : List Wd} {t : Wd} {i j : Nat} (r : Rch ws t i) : Met ws t i ws j ↔ Met ws t (i + 1) [] j := by
  constructor
  · rintro (h | ⟨i', w, a, b⟩ | ⟨w, a, b, c⟩)
    · exact .inl h
    · exact .inr (.inl ⟨i', w, by omega, b⟩)
    · exact .inr (.inl ⟨i, w, by omega, r, a, b, c⟩)
  · rintro (h | ⟨i', w, a, b, c, d, e⟩ | ⟨w, a, _⟩)
    · exact .inl h
    · by_cases z : i' = i
      · subst z; exact .inr (.inr ⟨w, c, d, e⟩)
      · exact .inr (.inl ⟨i', w, by omega, b, c, d, e⟩)
    · cases a
theorem met_skip {ws : List Wd} {t : Wd} {i j : Nat} (r : ¬ Rch ws t i) : Met ws t i [] j ↔ Met ws t (i + 1) [] j := by
  constructor
  · rintro (h | ⟨i', w, a, b⟩ | ⟨w, a, _⟩)
    · exact .inl h
    · exact .inr (.inl ⟨i', w, by omega, b⟩)
    · cases a
  · rintro (h | ⟨i', w, a, b, c⟩ | ⟨w, a, _⟩)
    · exact .inl h
    · by_cases z : i' = i
      · subst z; exact (r b).elim
      · exact .inr (.inl ⟨i', w, by omega, b, c⟩)
    · cases a
def NoEarly (ws : List Wd) (t : Wd) (i : Nat) : Prop := ∀ i', i' < i → Rch ws t i' → ∀ w ∈ ws, w.take (t.length - i') ≠ t.drop i'
theorem beg_end {ws : List Wd} {t : Wd} (h : NoEarly ws t t.length) : Beg ws t ↔ Rch ws t t.length := by
  constructor
  · rintro (⟨i, a, b, w, c, d⟩ | h)
    · exact (h i a b w c d).elim
    · exact h
  · exact .inr
theorem left_non (a b : Wd) : decide (optv (left a b) = V.non) = !decide (a.take b.length = b) := by
  unfold left
  by_cases h : a.take b.length = b
  · rw [if_pos (List.isPrefixOf_iff_prefix.mpr (List.prefix_iff_eq_take.mpr h.symm)), decide_eq_true h, decide_eq_false (by intro z; cases z)]; rfl
  · rw [if_neg (fun z => h (List.prefix_iff_eq_take.mp (List.isPrefixOf_iff_prefix.mp z)).symm), decide_eq_false h]; rfl
abbrev s_law_begins : Stmt := top 53
theorem sc_law_begins : FnScope ["_law_words_here", "_law_text_here", "_law_met", "_law_place", "_law_word_here"] ["_law_words_here", "_law_text_here"] (defScope s_law_begins) := ⟨rfl, rfl, rfl, by decide +kernel, rfl, by decide +kernel, by decide +kernel⟩
def sp_law_begins : Sp := fun vs H Q _ => ∃ (lw : Addr) (t : Wd), vs = [.ref lw, sv t] ∧ ∃ ws : List Wd, H lw = some (.lst (ws.map sv)) ∧ Code ws ∧ t.length ≤ 1000 ∧ ∀ b : Bool, (b = true ↔ Beg ws t) → Ret H Q (.bl b)
theorem ok_law_begins (B : Bi mg) (D : Def K mg "_law_begins" s_law_begins) : Cal P w K mg base CX0 "_law_begins" 2 ["_law_words_here", "_law_text_here"] sp_law_begins := by
  have nd := sc_law_begins.nd
  refine D.cal sc_law_begins (fun _ _ _ _ _ _ us hl => match us, hl with | [_, _], _ => rfl) (fun vs H Q E h => ?_) (fun f cdv A outer s H vs Q E hr h => ?_)
  · obtain ⟨_, _, rfl, _⟩ := h
    rfl
  · obtain ⟨lw, t, rfl, ws, hw, hc, ht, q⟩ := h
    refine ⟨_, PSs.nox (pss_cons (ps_set (i := 2) nd rfl (.inl rfl) (pe_lst (pa_cons pe_int pa_nil)))
      (pss_cons (ps_for PassesOwn.never rfl (pi_range1 (by rfl) B.range (pa_cons (pe_callB call_lenw (by rfl) B.len PySem.boot_len (pa_cons (pv 1) pa_nil)) pa_nil)) (pg_name (i := 3) nd rfl (.inl rfl))
        (pss_one (ps_if (pt_cmpR (r := rInN K false) op_inn (pv 3) (pv 2) (by rfl))
          (pss_one (ps_for PassesOwn.never rfl (pi_list (pv 0)) (pg_name (i := 4) nd rfl (.inl rfl))
            (pss_cons (ps_if (pt_cmpR op_eqw (pe_slice (r := rSlW) sl_w (pv 4) po_none (po_some (pe_op op_sub (pe_callB call_lenw (by rfl) B.len PySem.boot_len (pa_cons (pv 1) pa_nil)) (pv 3)))) (pe_slice (r := rSlW) sl_w (pv 1) (po_some (pv 3)) po_none) (nomark _))
              (pss_one (ps_ret pe_bl))
              pss_nil)
            (pss_one (ps_if (pt_cmpR op_eqw (pe_slice (r := rSlW) sl_w (pv 1) (po_some (pv 3)) (po_some (pe_op op_add (pv 3) (pe_callB call_lenw (by rfl) B.len PySem.boot_len (pa_cons (pv 4) pa_nil))))) (pv 4) (nomark _))
              (pss_one (ps_expr (pe_bm PySem.F.plainAttrs_list PySem.F.slot_list_append PySem.F.type_list_append mt_app (pv 2) (pa_cons (pe_op op_add (pv 3) (pe_callB call_lenw (by rfl) B.len PySem.boot_len (pa_cons (pv 4) pa_nil))) pa_nil))))
              pss_nil)))))
          pss_nil)))
      (pss_one (ps_ret (pe_cmpR (r := rInN K false) op_inn (pe_callB call_lenw (by rfl) B.len PySem.boot_len (pa_cons (pv 1) pa_nil)) (pv 2) (by rfl)))))), ?_⟩
    try dsimp only [cxOf, Cx.nox, Cx.wish]
    have h1 : ∀ w ∈ ws, 1 ≤ w.length := fun w h => (hc.wd w h).1
    have hwl := hc.le
    fail "gi"
    rename_i l hl
    have nl : lw ≠ l := (ne_free hl hw).symm
    refine for_range (fun i σ' H' => ∃ (M : List Int) (x3 x4 : Option V), σ' = [some (.ref lw), some (sv t), some (.ref l), x3, x4] ∧ Same H H' ∧ H' l = some (.lst (M.map V.int)) ∧ M.length ≤ 1 + 12 * i ∧ (∀ z : Int, z ∈ M ↔ ∃ j : Nat, z = j ∧ Met ws t i [] j) ∧ NoEarly ws t i) ⟨[0], none, none, rfl, by fail "same", upd_same, by simp, fun z => ?_, fun _ h => absurd h (Nat.not_lt_zero _)⟩ ?_ ?_
    · rw [List.mem_singleton]
      constructor
      · rintro rfl; exact ⟨0, rfl, .inl rfl⟩
      · rintro ⟨j, rfl, h⟩; rw [met_zero.mp h]; rfl
    · rintro i σ' H' hi ⟨M, x3, x4, rfl, a1, a2, a3, a4, a5⟩
      have hi' : i < t.length := by omega
      rw [show (0 : Int) + (i : Int) = ((i : Nat) : Int) by omega]
      have self := met_self h1 (ws := ws) (t := t) (i := i) (by omega)
      have mem : ((i : Nat) : Int) ∈ M ↔ Rch ws t i := by
        rw [a4, ← self]
        constructor
        · rintro ⟨j, e, h⟩
          have : i = j := by omega
          rw [← this] at h; exact h
        · intro h; exact ⟨i, rfl, h⟩
      fail "gi"
      refine itd (fun e1 => ?_) fun e1 => ?_
      · have r := mem.mp e1
        fail "gi"
        refine for_wl (xs := ws) (j := 4) (fun pre σ' H' => ∃ (M : List Int) (x4 : Option V), σ' = [some (.ref lw), some (sv t), some (.ref l), some (.int (i : Nat)), x4] ∧ Same H H' ∧ H' l = some (.lst (M.map V.int)) ∧ M.length ≤ 1 + 12 * i + pre.length ∧ (∀ z : Int, z ∈ M ↔ ∃ j : Nat, z = j ∧ Met ws t i pre j) ∧ ∀ w ∈ pre, w.take (t.length - i) ≠ t.drop i) ⟨M, x4, rfl, a1, a2, by simpa using a3, a4, fun _ h => nomatch h⟩ ?_ ?_ ?_
        · rintro pre σ' H' ⟨M, x4, rfl, b1, b2, b3, b4, b5⟩
          fail "seq"
        · rintro pre x post σ' H' ex ⟨M, x4, rfl, b1, b2, b3, b4, b5⟩
          have hxm : x ∈ ws := by rw [ex]; simp
          have hx := hc.wd x hxm
          have hx1 := hx.1
          have hx2 := hx.2.1
          have pl : pre.length ≤ 12 := by have := congrArg List.length ex; rw [List.length_append] at this; omega
          have ml : (M.map V.int).length < 100000 := by rw [List.length_map]; omega
          fail "gi"
          rw [cutW_toI x (by omega), cutW_from, show ((t.length : Int) - (i : Int)).toNat = t.length - i by omega]
          refine itd (fun e2 => ?_) fun e2 => ?_
          · fail "gi"
            exact q true ⟨fun _ => .inl ⟨i, hi', r, x, hxm, e2⟩, fun _ => rfl⟩ _ b1
          · fail "gi"
            rw [cutW_mid]
            have b5' : ∀ w ∈ pre ++ [x], w.take (t.length - i) ≠ t.drop i := fun w hw => by
              rcases List.mem_append.mp hw with h | h
              · exact b5 w h
              · rw [List.mem_singleton.mp h]; exact e2
            refine itd (fun e3 => ?_) fun e3 => ?_
            · fail "gi"
              refine ⟨M ++ [((i : Nat) : Int) + (x.length : Int)], _, rfl, by fail "same", by rw [upd_same, List.map_append]; rfl, by simp only [List.length_append, List.length_cons, List.length_nil]; omega, fun z => ?_, b5'⟩
              rw [List.mem_append, b4, List.mem_singleton]
              constructor
              · rintro (⟨j, e, h⟩ | e)
                · exact ⟨j, e, met_snoc.mpr (.inl h)⟩
                · exact ⟨i + x.length, by omega, met_snoc.mpr (.inr ⟨e3, rfl⟩)⟩
              · rintro ⟨j, e, h⟩
                rcases met_snoc.mp h with h | ⟨_, h⟩
                · exact .inl ⟨j, e, h⟩
                · exact .inr (by omega)
            · fail "gi"
              refine ⟨M, _, rfl, b1, b2, by simp only [List.length_append, List.length_cons, List.length_nil]; omega, fun z => ?_, b5'⟩
              rw [b4]
              constructor
              · rintro ⟨j, e, h⟩
                exact ⟨j, e, met_snoc.mpr (.inl h)⟩
              · rintro ⟨j, e, h⟩
                rcases met_snoc.mp h with h | ⟨h, _⟩
                · exact ⟨j, e, h⟩
                · exact (e3 h).elim
        · rintro σ' H' ⟨M, x4, rfl, b1, b2, b3, b4, b5⟩
          refine ⟨M, _, _, rfl, b1, b2, by omega, fun z => ?_, fun i' hi2 r2 => ?_⟩
          · rw [b4]
            exact ⟨fun ⟨j, e, h⟩ => ⟨j, e, (met_done r).mp h⟩, fun ⟨j, e, h⟩ => ⟨j, e, (met_done r).mpr h⟩⟩
          · by_cases z : i' = i
            · subst z; exact b5
            · exact a5 i' (by omega) r2
      · have r : ¬ Rch ws t i := fun z => e1 (mem.mpr z)
        fail "gi"
        refine ⟨M, _, _, rfl, a1, a2, by omega, fun z => ?_, fun i' hi2 r2 => ?_⟩
        · rw [a4]
          exact ⟨fun ⟨j, e, h⟩ => ⟨j, e, (met_skip r).mp h⟩, fun ⟨j, e, h⟩ => ⟨j, e, (met_skip r).mpr h⟩⟩
        · by_cases z : i' = i
          · subst z; exact (r r2).elim
          · exact a5 i' (by omega) r2
    · rintro σ' H' ⟨M, x3, x4, rfl, a1, a2, a3, a4, a5⟩
      rw [show ((t.length : Int)).toNat = t.length from rfl] at a4 a5
      fail "gi"
      refine q _ ?_ _ a1
      show decide ((t.length : Int) ∈ M) = true ↔ _
      rw [decide_eq_true_iff, beg_end a5, a4, ← met_self h1 (Nat.le_refl _)]
      constructor
      · rintro ⟨j, e, h⟩
        have : t.length = j := by omega
        rw [← this] at h; exact h
      · intro h; exact ⟨_, rfl, h⟩
abbrev s_begins : Stmt := top 24
theorem sc_begins : FnScope ["words", "text", "met", "place", "rest", "word"] ["words", "text"] (defScope s_begins) := ⟨rfl, rfl, rfl, by decide +kernel, rfl, by decide +kernel, by decide +kernel⟩
theorem ok_begins (B : Bi mg) (D : Def K mg "begins" s_begins) (c_left_of : Cal P w K mg base CX0 "left_of" 1 ["text", "other"] sp_left_of) : Cal P w K mg base CX0 "begins" 2 ["words", "text"] sp_law_begins := by
  have nd := sc_begins.nd
  refine D.cal sc_begins (fun _ _ _ _ _ _ us hl => match us, hl with | [_, _], _ => rfl) (fun vs H Q E h => ?_) (fun f cdv A outer s H vs Q E hr h => ?_)
  · obtain ⟨_, _, rfl, _⟩ := h
    rfl
  · obtain ⟨lw, t, rfl, ws, hw, hc, ht, q⟩ := h
    refine ⟨_, PSs.nox (pss_cons (ps_set (i := 2) nd rfl (.inl rfl) (pe_disp (pps_cons pe_int pe_bl pps_nil) (by rfl) (by rfl) (fun z => by cases z) (by decide)))
      (pss_cons (ps_for PassesOwn.never rfl (pi_range1 (by rfl) B.range (pa_cons (pe_callB call_lenw (by rfl) B.len PySem.boot_len (pa_cons (pv 1) pa_nil)) pa_nil)) (pg_name (i := 3) nd rfl (.inl rfl))
        (pss_one (ps_if (pt_cmp (pc_dinN (hu_of hr) (pv 3) (pv 2)))
          (pss_cons (ps_set (i := 4) nd rfl (.inl rfl) (pe_slice (r := rSlW) sl_w (pv 1) (po_some (pv 3)) po_none))
          (pss_one (ps_for PassesOwn.never rfl (pi_list (pv 0)) (pg_name (i := 5) nd rfl (.inl rfl))
            (pss_cons (ps_if (pt_cmpR op_notN (pe_cal c_left_of hr (pa_cons (pv 5) (pa_cons (pv 4) pa_nil))) pe_non (nomark _))
              (pss_one (ps_ret pe_bl))
              pss_nil)
            (pss_one (ps_if (pt_cmpR op_notN (pe_cal c_left_of hr (pa_cons (pv 4) (pa_cons (pv 5) pa_nil))) pe_non (nomark _))
              (pss_one (ps_dputN (hu_of hr) (pv 2) (pe_op op_add (pv 3) (pe_callB call_lenw (by rfl) B.len PySem.boot_len (pa_cons (pv 5) pa_nil))) pe_bl rfl))
              pss_nil))))))
          pss_nil)))
      (pss_one (ps_ret (pe_cmp (pc_dinN (hu_of hr) (pe_callB call_lenw (by rfl) B.len PySem.boot_len (pa_cons (pv 1) pa_nil)) (pv 2))))))), ?_⟩
    try dsimp only [cxOf, Cx.nox, Cx.wish]
    have h1 : ∀ w ∈ ws, 1 ≤ w.length := fun w h => (hc.wd w h).1
    have hwl := hc.le
    fail "gi"
    rename_i l hl
    have nl : lw ≠ l := (ne_free hl hw).symm
    refine ⟨[(.inl 0, .bl true)], rfl, by decide, ?_⟩
    rw [show mergeK [] [((.inl 0 : Key), V.bl true)] = [((.inl 0 : Key), V.bl true)] from rfl]
    fail "gi"
    refine for_range (fun i σ' H' => ∃ (M : List (Key × V)) (x3 x4 x5 : Option V), σ' = [some (.ref lw), some (sv t), some (.ref l), x3, x4, x5] ∧ Same H H' ∧ H' l = some (.dK M) ∧ M.length ≤ 1 + 12 * i ∧ (∀ z : Int, (valV M (.inl z)).isSome = true ↔ ∃ j : Nat, z = j ∧ Met ws t i [] j) ∧ NoEarly ws t i) ⟨_, none, none, none, rfl, by fail "same", upd_same, by decide, fun z => ?_, fun _ h => absurd h (Nat.not_lt_zero _)⟩ ?_ ?_
    · by_cases e : z = 0
      · subst e
        exact ⟨fun _ => ⟨0, rfl, .inl rfl⟩, fun _ => rfl⟩
      · have e' : ¬ (((.inl 0 : Key), V.bl true).1 = .inl z) := fun h => e (by injection h with h; exact h.symm)
        rw [valV_neg e', valV_nil]
        constructor
        · intro h; cases h
        · rintro ⟨j, rfl, h⟩; rw [met_zero.mp h] at e; exact (e rfl).elim
    · rintro i σ' H' hi ⟨M, x3, x4, x5, rfl, a1, a2, a3, a4, a5⟩
      have hi' : i < t.length := by omega
      rw [show (0 : Int) + (i : Int) = ((i : Nat) : Int) by omega]
      have self := met_self h1 (ws := ws) (t := t) (i := i) (by omega)
      have mem : (valV M (.inl ((i : Nat) : Int))).isSome = true ↔ Rch ws t i := by
        rw [a4, ← self]
        constructor
        · rintro ⟨j, e, h⟩
          have : i = j := by omega
          rw [← this] at h; exact h
        · intro h; exact ⟨i, rfl, h⟩
      fail "gi"
      refine itb (fun e1 => ?_) fun e1 => ?_
      · have r := mem.mp e1
        fail "gi"
        rw [cutW_from]
        fail "gi"
        refine for_wl (xs := ws) (j := 5) (fun pre σ' H' => ∃ (M : List (Key × V)) (x5 : Option V), σ' = [some (.ref lw), some (sv t), some (.ref l), some (.int (i : Nat)), some (sv (t.drop i)), x5] ∧ Same H H' ∧ H' l = some (.dK M) ∧ M.length ≤ 1 + 12 * i + pre.length ∧ (∀ z : Int, (valV M (.inl z)).isSome = true ↔ ∃ j : Nat, z = j ∧ Met ws t i pre j) ∧ ∀ w ∈ pre, w.take (t.length - i) ≠ t.drop i) ⟨M, x5, rfl, a1, a2, by simpa using a3, a4, fun _ h => nomatch h⟩ ?_ ?_ ?_
        · rintro pre σ' H' ⟨M, x5, rfl, b1, b2, b3, b4, b5⟩
          fail "seq"
        · rintro pre x post σ' H' ex ⟨M, x5, rfl, b1, b2, b3, b4, b5⟩
          have hxm : x ∈ ws := by rw [ex]; simp
          have hx := hc.wd x hxm
          have hx1 := hx.1
          have hx2 := hx.2.1
          have pl : pre.length ≤ 12 := by have := congrArg List.length ex; rw [List.length_append] at this; omega
          have ml : M.length < 100000 := by omega
          have dl : (t.drop i).length ≤ 100000 := by rw [List.length_drop]; omega
          have xl : x.length ≤ 100000 := by omega
          have hl1 : decide (optv (left x (t.drop i)) = V.non) = !decide (x.take (t.length - i) = t.drop i) := by rw [left_non, List.length_drop]
          have hl2 := left_non (t.drop i) x
          fail "gi"
          rw [hl1, Bool.not_not]
          refine itd (fun e2 => ?_) fun e2 => ?_
          · fail "gi"
            exact q true ⟨fun _ => .inl ⟨i, hi', r, x, hxm, e2⟩, fun _ => rfl⟩ _ b1
          · fail "gi"
            rw [hl2, Bool.not_not]
            have b5' : ∀ w ∈ pre ++ [x], w.take (t.length - i) ≠ t.drop i := fun w hw => by
              rcases List.mem_append.mp hw with h | h
              · exact b5 w h
              · rw [List.mem_singleton.mp h]; exact e2
            refine itd (fun e3 => ?_) fun e3 => ?_
            · fail "gi"
              refine ⟨_, _, rfl, by fail "same", upd_same, by have := length_putK M (.inl (((i : Nat) : Int) + (x.length : Int))) (V.bl true); simp only [List.length_append, List.length_cons, List.length_nil]; omega, fun z => ?_, b5'⟩
              rw [valV_put]
              by_cases ez : (.inl z : Key) = .inl (((i : Nat) : Int) + (x.length : Int))
              · rw [if_pos ez]
                exact ⟨fun _ => ⟨i + x.length, by have := Sum.inl.inj ez; omega, met_snoc.mpr (.inr ⟨e3, rfl⟩)⟩, fun _ => rfl⟩
              · rw [if_neg ez, b4]
                constructor
                · rintro ⟨j, e, h⟩
                  exact ⟨j, e, met_snoc.mpr (.inl h)⟩
                · rintro ⟨j, e, h⟩
                  rcases met_snoc.mp h with h | ⟨_, h⟩
                  · exact ⟨j, e, h⟩
                  · exact (ez (by rw [e, h, Int.natCast_add])).elim
            · fail "gi"
              refine ⟨M, _, rfl, b1, b2, by simp only [List.length_append, List.length_cons, List.length_nil]; omega, fun z => ?_, b5'⟩
              rw [b4]
              constructor
              · rintro ⟨j, e, h⟩
                exact ⟨j, e, met_snoc.mpr (.inl h)⟩
              · rintro ⟨j, e, h⟩
                rcases met_snoc.mp h with h | ⟨h, _⟩
                · exact ⟨j, e, h⟩
                · exact (e3 h).elim
        · rintro σ' H' ⟨M, x5, rfl, b1, b2, b3, b4, b5⟩
          refine ⟨M, _, _, _, rfl, b1, b2, by omega, fun z => ?_, fun i' hi2 r2 => ?_⟩
          · rw [b4]
            exact ⟨fun ⟨j, e, h⟩ => ⟨j, e, (met_done r).mp h⟩, fun ⟨j, e, h⟩ => ⟨j, e, (met_done r).mpr h⟩⟩
          · by_cases z : i' = i
            · subst z; exact b5
            · exact a5 i' (by omega) r2
      · have r : ¬ Rch ws t i := fun z => by rw [mem.mpr z] at e1; cases e1
        fail "gi"
        refine ⟨M, _, _, _, rfl, a1, a2, by omega, fun z => ?_, fun i' hi2 r2 => ?_⟩
        · rw [a4]
          exact ⟨fun ⟨j, e, h⟩ => ⟨j, e, (met_skip r).mp h⟩, fun ⟨j, e, h⟩ => ⟨j, e, (met_skip r).mpr h⟩⟩
        · by_cases z : i' = i
          · subst z; exact (r r2).elim
          · exact a5 i' (by omega) r2
    · rintro σ' H' ⟨M, x3, x4, x5, rfl, a1, a2, a3, a4, a5⟩
      rw [show ((t.length : Int)).toNat = t.length from rfl] at a4 a5
      fail "gi"
      refine q _ ?_ _ a1
      show (valV M (.inl (t.length : Int))).isSome = true ↔ _
      rw [beg_end a5, a4, ← met_self h1 (Nat.le_refl _)]
      constructor
      · rintro ⟨j, e, h⟩
        have : t.length = j := by omega
        rw [← this] at h; exact h
      · intro h; exact ⟨_, rfl, h⟩

/-! ### the parting of a number, by itself -/
/-- how many partings there are from a place on -/
def cat (ws : List Wd) (t : Wd) (p : Nat) : Int := (cnt ws t).getD p 0
theorem tab_tail (ws : List Wd) (t : Wd) : ∀ (m d : Nat), d ≤ m → ∃ l : List Int, tab ws t m = l ++ tab ws t d ∧ l.length = m - d
  | 0, d, h => by
    obtain rfl : d = 0 := Nat.le_zero.mp h
    exact ⟨[], rfl, rfl⟩
  | m + 1, d, h => by
    by_cases e : d = m + 1
    · rw [e]; exact ⟨[], rfl, by simp⟩
    · obtain ⟨l, h1, h2⟩ := tab_tail ws t m d (by omega)
      refine ⟨_ :: l, congrArg (List.cons _) h1, ?_⟩
      rw [List.length_cons, h2]; omega
theorem cat_tab (ws : List Wd) (t : Wd) {d : Nat} (h : d ≤ t.length) (j : Nat) : cat ws t (t.length - d + j) = (tab ws t d).getD j 0 := by
  obtain ⟨l, h1, h2⟩ := tab_tail ws t t.length d h
  unfold cat cnt
  rw [h1, List.getD_eq_getElem?_getD, List.getD_eq_getElem?_getD, List.getElem?_append_right (by omega), h2]
  congr 2
  omega
theorem cat_end (ws : List Wd) (t : Wd) : cat ws t t.length = 1 := by
  have := cat_tab ws t (d := 0) (Nat.zero_le _) 0
  rw [Nat.sub_zero, Nat.add_zero] at this
  rw [this]; rfl
/-- the sum of the counts behind some words that fit -/
def sumC (ws : List Wd) (t : Wd) (p : Nat) (xs : List Wd) : Int := (xs.map fun w => cat ws t (p + w.length)).sum
theorem cat_step {ws : List Wd} {t : Wd} (c : ∀ w ∈ ws, w ≠ []) {p : Nat} (h : p < t.length) : cat ws t p = sumC ws t p (ws.filter (fits t p)) := by
  have e := cat_tab ws t (d := t.length - p) (by omega) 0
  rw [show t.length - (t.length - p) + 0 = p by omega] at e
  obtain ⟨d, hd⟩ : ∃ d, t.length - p = d + 1 := ⟨t.length - p - 1, by omega⟩
  rw [e, hd]
  show ((ws.filter (fits t (t.length - (d + 1)))).map fun w => (tab ws t d).getD (w.length - 1) 0).sum = _
  rw [show t.length - (d + 1) = p by omega]
  unfold sumC
  congr 1
  refine List.map_congr_left fun w hw => ?_
  have hw1 := List.length_pos_iff.mpr (c w (List.mem_filter.mp hw).1)
  have := cat_tab ws t (d := d) (by omega) (w.length - 1)
  rw [← this]
  congr 1
  omega
theorem cat_pos {ws : List Wd} {t : Wd} (c : ∀ w ∈ ws, w ≠ []) : ∀ (d p : Nat), t.length - p ≤ d → 0 ≤ cat ws t p
  | 0, p, h => by
    by_cases e : p = t.length
    · rw [e, cat_end]; decide
    · unfold cat
      rw [List.getD_eq_getElem?_getD, List.getElem?_eq_none (by rw [show (cnt ws t).length = t.length + 1 from tab_len ws t _]; omega)]
      decide
  | d + 1, p, h => by
    by_cases e : p < t.length
    · rw [cat_step c e]
      unfold sumC
      have key : ∀ xs : List Wd, (∀ w ∈ xs, w ∈ ws) → 0 ≤ (xs.map fun w => cat ws t (p + w.length)).sum := by
        intro xs
        induction xs with
        | nil => intro _; exact Int.le_refl _
        | cons x xs ih =>
          intro h2
          have h3 := List.length_pos_iff.mpr (c x (h2 x List.mem_cons_self))
          have h4 := cat_pos (t := t) c d (p + x.length) (by omega)
          have h5 := ih fun w hw => h2 w (List.mem_cons_of_mem _ hw)
          rw [List.map_cons, List.sum_cons]
          omega
      exact key _ fun w hw => (List.mem_filter.mp hw).1
    · exact cat_pos c 0 p (by omega)
theorem cat_nn {ws : List Wd} {t : Wd} (c : ∀ w ∈ ws, w ≠ []) (p : Nat) : 0 ≤ cat ws t p := cat_pos c _ p (Nat.le_refl _)
theorem sumC_app (ws : List Wd) (t : Wd) (p : Nat) (xs ys : List Wd) : sumC ws t p (xs ++ ys) = sumC ws t p xs + sumC ws t p ys := by
  unfold sumC
  rw [List.map_append, List.sum_append]
theorem sumC_one (ws : List Wd) (t : Wd) (p : Nat) (x : Wd) : sumC ws t p [x] = cat ws t (p + x.length) := by
  unfold sumC
  simp
theorem sumC_perm (ws : List Wd) (t : Wd) (p : Nat) {xs ys : List Wd} (h : xs.Perm ys) : sumC ws t p xs = sumC ws t p ys := by
  unfold sumC
  exact perm_sum (h.map _)
/-- the partings ahead that have a shorter word at a place -/
def ahd (ws : List Wd) (t : Wd) (p : Nat) (w : Wd) : Int := sumC ws t p ((ws.filter (fits t p)).filter fun o => decide (o.length < w.length))
theorem sumC_sub {ws : List Wd} {t : Wd} (c : ∀ w ∈ ws, w ≠ []) (p : Nat) {q1 q2 : Wd → Bool} : ∀ {xs : List Wd} {w : Wd}, (∀ x ∈ xs, q1 x = true → q2 x = true) → w ∈ xs → q1 w = false → q2 w = true → sumC ws t p (xs.filter q1) + cat ws t (p + w.length) ≤ sumC ws t p (xs.filter q2) := by
  have mono : ∀ {xs : List Wd}, (∀ x ∈ xs, q1 x = true → q2 x = true) → sumC ws t p (xs.filter q1) ≤ sumC ws t p (xs.filter q2) := by
    intro xs
    induction xs with
    | nil => intro _; exact Int.le_refl _
    | cons x xs ih =>
      intro h
      have ih := ih fun y hy => h y (List.mem_cons_of_mem _ hy)
      have hn := cat_nn (t := t) c (p + x.length)
      rw [List.filter_cons, List.filter_cons]
      cases e1 : q1 x with
      | true =>
        rw [if_pos rfl, if_pos (h x List.mem_cons_self e1)]
        have a1 := sumC_app ws t p [x] (xs.filter q1)
        have a2 := sumC_app ws t p [x] (xs.filter q2)
        rw [List.singleton_append] at a1 a2
        omega
      | false =>
        rw [if_neg (by decide)]
        cases e2 : q2 x with
        | true =>
          rw [if_pos rfl]
          have a2 := sumC_app ws t p [x] (xs.filter q2)
          rw [List.singleton_append, sumC_one] at a2
          omega
        | false => rw [if_neg (by decide)]; exact ih
  intro xs
  induction xs with
  | nil => intro w _ h; cases h
  | cons x xs ih =>
    intro w h hw w1 w2
    have hn := cat_nn (t := t) c (p + x.length)
    have h' : ∀ y ∈ xs, q1 y = true → q2 y = true := fun y hy => h y (List.mem_cons_of_mem _ hy)
    rw [List.filter_cons, List.filter_cons]
    have a1 := sumC_app ws t p [x] (xs.filter q1)
    have a2 := sumC_app ws t p [x] (xs.filter q2)
    rw [List.singleton_append, sumC_one] at a1 a2
    rcases List.mem_cons.mp hw with rfl | hw
    · rw [if_neg (by rw [w1]; decide), if_pos w2]
      have := mono h'
      omega
    · have ih := ih h' hw w1 w2
      cases e1 : q1 x with
      | true =>
        rw [if_pos rfl, if_pos (h x List.mem_cons_self e1)]
        omega
      | false =>
        rw [if_neg (by decide)]
        cases e2 : q2 x with
        | true => rw [if_pos rfl]; omega
        | false => rw [if_neg (by decide)]; exact ih
theorem fits_len {t : Wd} {p : Nat} {w : Wd} (h : fits t p w = true) (hp : p ≤ t.length) : p + w.length ≤ t.length := by
  have := congrArg List.length (of_decide_eq_true h)
  rw [List.length_take, List.length_drop] at this
  omega
theorem fits_eq {t : Wd} {p : Nat} {u w : Wd} (h1 : fits t p u = true) (h2 : fits t p w = true) (e : u.length = w.length) : u = w := by
  have a := of_decide_eq_true h1
  have b := of_decide_eq_true h2
  rw [← a, ← b, e]
theorem ahd_mono {ws : List Wd} {t : Wd} (c : ∀ w ∈ ws, w ≠ []) {p : Nat} {u w : Wd} (hu : u ∈ ws) (fu : fits t p u = true) (lt : u.length < w.length) : ahd ws t p u + cat ws t (p + u.length) ≤ ahd ws t p w := by
  unfold ahd
  refine sumC_sub c p (fun x _ h => ?_) (List.mem_filter.mpr ⟨hu, fu⟩) (decide_eq_false (by omega)) (decide_eq_true lt)
  have := of_decide_eq_true h
  exact decide_eq_true (by omega)
/-- R is the parting, from p on, of the number k -/
inductive IsPart (ws : List Wd) (t : Wd) : Nat → Int → List Wd → Prop
  | done : IsPart ws t t.length 0 []
  | step {p : Nat} {k : Int} {w : Wd} {r : List Wd} : w ∈ ws → fits t p w = true → p < t.length → ahd ws t p w ≤ k → k < ahd ws t p w + cat ws t (p + w.length) → IsPart ws t (p + w.length) (k - ahd ws t p w) r → IsPart ws t p k (w :: r)
theorem IsPart.uniq {ws : List Wd} {t : Wd} (c : ∀ w ∈ ws, w ≠ []) {p : Nat} {k : Int} {r s : List Wd} (a : IsPart ws t p k r) (b : IsPart ws t p k s) : r = s := by
  induction a generalizing s with
  | done =>
    cases b with
    | done => rfl
    | step _ _ h => exact absurd h (Nat.lt_irrefl _)
  | @step p k w r h1 h2 h3 h4 h5 h6 ih =>
    cases b with
    | done => exact absurd h3 (Nat.lt_irrefl _)
    | @step _ _ u s g1 g2 g3 g4 g5 g6 =>
      have e : w = u := by
        rcases Nat.lt_trichotomy w.length u.length with l | l | l
        · have := ahd_mono c h1 h2 l
          omega
        · exact fits_eq h2 g2 l
        · have := ahd_mono c g1 g2 l
          omega
      subst e
      rw [ih g6]
theorem IsPart.sub {ws : List Wd} {t : Wd} {p : Nat} {k : Int} {r : List Wd} (a : IsPart ws t p k r) : ∀ w ∈ r, w ∈ ws := by
  induction a with
  | done => exact fun _ h => nomatch h
  | step h1 _ _ _ _ _ ih => exact fun x hx => (List.mem_cons.mp hx).elim (fun e => e ▸ h1) (ih x)
theorem IsPart.flat {ws : List Wd} {t : Wd} {p : Nat} {k : Int} {r : List Wd} (a : IsPart ws t p k r) : r.flatten = t.drop p := by
  induction a with
  | done => simp
  | @step p k w r h1 h2 h3 h4 h5 h6 ih =>
    rw [List.flatten_cons, ih]
    have := of_decide_eq_true h2
    conv => lhs; rw [← this]
    rw [← List.drop_drop, this]
    have e := List.take_append_drop w.length (t.drop p)
    rw [this] at e
    exact e
theorem IsPart.len {ws : List Wd} {t : Wd} (c : ∀ w ∈ ws, w ≠ []) {p : Nat} {k : Int} {r : List Wd} (a : IsPart ws t p k r) : r.length + p ≤ t.length := by
  induction a with
  | done => exact Nat.le_of_eq (Nat.zero_add _)
  | step h1 _ _ _ _ _ ih =>
    have := List.length_pos_iff.mpr (c _ h1)
    rw [List.length_cons]
    omega
/-- the law's own count of what stands ahead of a row -/
def ahead (ws : List Wd) (t : Wd) : Nat → List Wd → Int
  | _, [] => 0
  | p, w :: r => ahd ws t p w + ahead ws t (p + w.length) r
theorem IsPart.ahead {ws : List Wd} {t : Wd} {p : Nat} {k : Int} {r : List Wd} (a : IsPart ws t p k r) : One.ahead ws t p r = k := by
  induction a with
  | done => rfl
  | step _ _ _ _ _ _ ih =>
    show ahd ws t _ _ + One.ahead ws t _ _ = _
    rw [ih]; omega
/-- in the order of lengths the words ahead of w are just those that are shorter -/
theorem ahd_pre {ws : List Wd} {t : Wd} {p : Nat} {zs pre post : List Wd} {w : Wd} (nd : ws.Nodup) (pz : zs.Perm (ws.filter (fits t p))) (pw : zs.Pairwise fun x y => x.length ≤ y.length) (ex : zs = pre ++ w :: post) : sumC ws t p pre = ahd ws t p w := by
  have ndz : zs.Nodup := pz.nodup_iff.mpr (nd.filter _)
  have hz : ∀ x ∈ zs, fits t p x = true := fun x hx => (List.mem_filter.mp (pz.mem_iff.mp hx)).2
  have e : zs.filter (fun o => decide (o.length < w.length)) = pre := by
    rw [ex] at pw ndz hz ⊢
    obtain ⟨_, p2, p3⟩ := List.pairwise_append.mp pw
    obtain ⟨_, _, n3⟩ := List.nodup_append.mp ndz
    have e1 : pre.filter (fun o => decide (o.length < w.length)) = pre := List.filter_eq_self.mpr fun x hx => by
      have := p3 x hx w List.mem_cons_self
      exact decide_eq_true (Nat.lt_of_le_of_ne this fun z => n3 x hx w List.mem_cons_self (fits_eq (hz x (List.mem_append_left _ hx)) (hz w (List.mem_append_right _ List.mem_cons_self)) z))
    have e2 : (w :: post).filter (fun o => decide (o.length < w.length)) = [] := List.filter_eq_nil_iff.mpr fun x hx => by
      rcases List.mem_cons.mp hx with rfl | hx
      · simp
      · have := (List.pairwise_cons.mp p2).1 x hx
        simp only [decide_eq_true_eq]; omega
    rw [List.filter_append, e1, e2, List.append_nil]
  unfold ahd
  rw [← sumC_perm ws t p (pz.filter _), e]
theorem tab_permN {zs ws : List Wd} (h : zs.Perm ws) (t : Wd) : ∀ d, tab zs t d = tab ws t d
  | 0 => rfl
  | d + 1 => by
    show part t _ (tab zs t d) zs :: tab zs t d = part t _ (tab ws t d) ws :: tab ws t d
    rw [tab_permN h t d]
    exact congrArg (· :: _) (perm_part (h.filter _))
theorem cat_perm {zs ws : List Wd} (h : zs.Perm ws) (t : Wd) (p : Nat) : cat zs t p = cat ws t p := by
  unfold cat cnt
  rw [tab_permN h]
theorem ahd_perm {zs ws : List Wd} (h : zs.Perm ws) (t : Wd) (p : Nat) (w : Wd) : ahd zs t p w = ahd ws t p w := by
  unfold ahd
  rw [← sumC_perm ws t p ((h.filter _).filter _)]
  unfold sumC
  congr 1
  exact List.map_congr_left fun o _ => cat_perm h t _
theorem IsPart.perm {zs ws : List Wd} (h : zs.Perm ws) {t : Wd} {p : Nat} {k : Int} {r : List Wd} (a : IsPart zs t p k r) : IsPart ws t p k r := by
  induction a with
  | done => exact .done
  | step h1 h2 h3 h4 h5 _ ih =>
    rw [ahd_perm h] at h4 h5 ih
    rw [cat_perm h] at h5
    exact .step (h.mem_iff.mp h1) h2 h3 h4 h5 ih

/-- what a script hands as a number -/
inductive Num : V → Prop
  | int (k : Int) : Num (.int k)
  | bl (b : Bool) : Num (.bl b)
  | non : Num .non
  | str (a : Wd) : Num (sv a)
abbrev s_parted : Stmt := top 23
theorem sc_parted : FnScope ["words", "text", "counts", "number", "row", "place", "word", "many"] ["words", "text", "counts", "number"] (defScope s_parted) := ⟨rfl, rfl, rfl, by decide +kernel, rfl, by decide +kernel, by decide +kernel⟩
def sp_parted : Sp := fun vs H Q _ => ∃ (p : Addr) (t : Wd) (l : Addr) (k : Int), vs = [.ref p, sv t, .ref l, .int k] ∧ ∃ ws : List Wd, H p = some (.lst (ws.map sv)) ∧ H l = some (.lst ((cnt ws t).map V.int)) ∧ Code ws ∧ t.length ≤ 1000 ∧ 0 ≤ k ∧ k < cat ws t 0 ∧ ∀ R : List Wd, IsPart ws t 0 k R → RetL H Q (R.map sv)
theorem ok_parted (B : Bi mg) (D : Def K mg "parted" s_parted) (c_fitting : Cal P w K mg base CX0 "fitting" 1 ["words", "text", "place"] sp_fitting) : Cal P w K mg base CX0 "parted" 2 ["words", "text", "counts", "number"] sp_parted := by
  have nd := sc_parted.nd
  refine D.cal sc_parted (fun _ _ _ _ _ _ us hl => match us, hl with | [_, _, _, _], _ => rfl) (fun vs H Q E h => ?_) (fun f cdv A outer s H vs Q E hr h => ?_)
  · obtain ⟨_, _, _, _, rfl, _⟩ := h
    rfl
  · obtain ⟨p, t, l, k, rfl, ws, hp, hl, c, tl, k0, k1, q⟩ := h
    refine ⟨_, PSs.nox (pss_cons (ps_set (i := 4) nd rfl (.inl rfl) (pe_lst pa_nil))
      (pss_cons (ps_set (i := 5) nd rfl (.inl rfl) pe_int)
      (pss_cons (ps_while PassesOwn.never (pt_cmpR op_lt (pv 5) (pe_callB call_lenw (by rfl) B.len PySem.boot_len (pa_cons (pv 1) pa_nil)) (nomark _))
        (pss_cons (ps_for PassesOwn.never rfl (pi_list (pe_cal c_fitting hr (pa_cons (pv 0) (pa_cons (pv 1) (pa_cons (pv 5) pa_nil))))) (pg_name (i := 6) nd rfl (.inl rfl))
          (pss_cons (ps_set (i := 7) nd rfl (.inl rfl) (pe_ix (r := rIxLn K) ix_l (pv 2) (pe_op op_add (pv 5) (pe_callB call_lenw (by rfl) B.len PySem.boot_len (pa_cons (pv 6) pa_nil))) (fun _ _ => rfl)))
          (pss_cons (ps_if (pt_cmpR op_lt (pv 3) (pv 7) (nomark _))
            (pss_cons (ps_expr (pe_bm PySem.F.plainAttrs_list PySem.F.slot_list_append PySem.F.type_list_append mt_app (pv 4) (pa_cons (pv 6) pa_nil)))
            (pss_one ps_break))
            pss_nil)
          (pss_one (ps_set (i := 3) nd rfl (.inl rfl) (pe_op op_sub (pv 3) (pv 7)))))))
        (pss_one (ps_set (i := 5) nd rfl (.inl rfl) (pe_op op_add (pv 5) (pe_callB call_lenw (by rfl) B.len PySem.boot_len (pa_cons (pe_ix (r := rIxLm K) ix_lm (pv 4) (pe_un un_neg pe_int) (fun _ _ => rfl)) pa_nil)))))))
      (pss_one (ps_ret (pv 4)))))), ?_⟩
    try dsimp only [cxOf, Cx.nox, Cx.wish]
    fail "gi"
    rename_i pr nr
    have ne : ∀ w ∈ ws, w ≠ [] := fun w hw => List.length_pos_iff.mp (c.wd w hw).1
    have cl : (cnt ws t).length = t.length + 1 := tab_len ws t _
    have hlm : ((cnt ws t).map V.int).length = t.length + 1 := by rw [List.length_map, cl]
    have lr : l ≠ pr := (ne_free nr hl).symm
    have pp : p ≠ pr := (ne_free nr hp).symm
    have nnc := fun p => cat_nn (t := t) ne p
    refine ⟨fun m σ' H' => ∃ (pos : Nat) (k2 : Int) (R : List Wd) (y z : Option V), σ' = [some (.ref p), some (sv t), some (.ref l), some (.int k2), some (.ref pr), some (.int pos), y, z] ∧ m = t.length - pos ∧ Same H H' ∧ H' pr = some (.lst (R.map sv)) ∧ pos ≤ t.length ∧ 0 ≤ k2 ∧ k2 < cat ws t pos ∧ R.length ≤ pos ∧ ∀ r, IsPart ws t pos k2 r → IsPart ws t 0 k (R ++ r),
      ⟨_, 0, k, [], none, none, rfl, rfl, new nr, L2.upd_same, Nat.zero_le _, k0, k1, Nat.zero_le _, fun r h => h⟩, ?_⟩
    rintro m σ' H' ⟨pos, k2, R, y, z, rfl, rfl, a1, a2, a3, a4, a5, a6, a7⟩
    have hp1 := a1 _ _ hp
    have hl1 := a1 _ _ hl
    fail "gi"
    refine itd (fun lt => ?_) fun nlt => ?_
    · have lt' : pos < t.length := by omega
      refine ⟨fun σ' H' => ∃ m', m' < t.length - pos ∧ ∃ (pos : Nat) (k2 : Int) (R : List Wd) (y z : Option V), σ' = [some (.ref p), some (sv t), some (.ref l), some (.int k2), some (.ref pr), some (.int pos), y, z] ∧ m' = t.length - pos ∧ Same H H' ∧ H' pr = some (.lst (R.map sv)) ∧ pos ≤ t.length ∧ 0 ≤ k2 ∧ k2 < cat ws t pos ∧ R.length ≤ pos ∧ ∀ r, IsPart ws t pos k2 r → IsPart ws t 0 k (R ++ r), fun _ _ h => h, ?_⟩
      fail "gi"
      intro zs pz pw
      fail "gi"
      rename_i pf H2 s2 npf hpf
      have b1 := a1.trans s2
      have hl2 := s2 _ _ hl1
      have hr2 := s2 _ _ a2
      have cs : cat ws t pos = sumC ws t pos zs := (cat_step ne lt').trans (sumC_perm ws t pos pz).symm
      refine for_wl (xs := zs) (j := 6) (fun pre σ' H' => ∃ (y z : Option V), σ' = [some (.ref p), some (sv t), some (.ref l), some (.int (k2 - sumC ws t pos pre)), some (.ref pr), some (.int pos), y, z] ∧ H' = H2 ∧ sumC ws t pos pre ≤ k2)
        ⟨y, z, by rw [show k2 - sumC ws t pos [] = k2 by unfold sumC; simp], rfl, a4⟩ ?_ ?_ ?_
      · rintro pre σ' H' ⟨y, z, rfl, rfl, d1⟩
        exact SqL.of hpf
      · rintro pre w post σ' H' ex ⟨y, z, rfl, rfl, d1⟩
        have hw := List.mem_filter.mp (pz.mem_iff.mp (by rw [ex]; exact List.mem_append_right _ List.mem_cons_self : w ∈ zs))
        have fw := hw.2
        have fl := fits_len fw a3
        have w1 := (c.wd w hw.1).1
        have w2 := c.len hw.1
        have sn : sumC ws t pos (pre ++ [w]) = sumC ws t pos pre + cat ws t (pos + w.length) := by rw [sumC_app, sumC_one]
        have ha := ahd_pre c.nd pz pw ex
        have g1 : ((cnt ws t).map V.int)[((pos : Int) + (w.length : Int)).toNat]? = some (.int (cat ws t (pos + w.length))) := by
          rw [show ((pos : Int) + (w.length : Int)).toNat = pos + w.length by omega, List.getElem?_map]
          unfold cat
          rw [List.getD_eq_getElem?_getD, List.getElem?_eq_getElem (by omega)]; rfl
        have rl : (R.map sv).length < 16000000 := by rw [List.length_map]; omega
        fail "gi"
        have g2 : (R.map sv ++ [sv w]).getLast? = some (sv w) := by simp
        refine (show if decide (k2 - sumC ws t pos pre < cat ws t (pos + w.length)) = true then _ else _ from ?_)
        refine itd (fun lt2 => ?_) fun nlt2 => ?_
        · have e1 : L2.upd H' pr (.lst (R.map sv ++ [sv w])) pr = some (.lst (R.map sv ++ [sv w])) := L2.upd_same
          have e2 : Same H (L2.upd H' pr (.lst (R.map sv ++ [sv w]))) := mutd b1 nr
          fail "gi"
          generalize L2.upd H' pr (.lst (R.map sv ++ [sv w])) = H5 at *
          fail "gi"
          refine ⟨t.length - (pos + w.length), by omega, pos + w.length, k2 - sumC ws t pos pre, R ++ [w], _, _, rfl, rfl, e2, by rw [e1, List.map_append]; rfl, fl, by omega, lt2, by rw [List.length_append, List.length_singleton]; omega, fun r hr => ?_⟩
          have := a7 (w :: r) (.step hw.1 fw lt' (by omega) (by omega) (by rw [← ha]; exact hr))
          rw [List.append_assoc]; exact this
        · fail "gi"
          refine ⟨some (sv w), some (.int (cat ws t (pos + w.length))), ?_, rfl, by rw [sn]; omega⟩
          rw [sn, ← Int.sub_sub]; rfl
      · rintro σ' H' ⟨y, z, rfl, rfl, d1⟩
        rw [← cs] at d1
        omega
    · obtain rfl : pos = t.length := by omega
      rw [cat_end] at a5
      obtain rfl : k2 = 0 := by omega
      have := a7 [] .done
      rw [List.append_nil] at this
      fail "gi"
      exact q R this _ _ a1 nr a2
/-! ### how many partings there are, and a shortest double -/
theorem fits_drop (t : Wd) (i : Nat) : fits (t.drop i) 0 = fits t i := by
  funext w
  unfold fits
  rw [List.drop_zero]
theorem tab_suf (ws : List Wd) : ∀ (d : Nat) (t : Wd), d ≤ t.length → tab ws t d = cnt ws (t.drop (t.length - d))
  | 0, t, _ => by
    rw [Nat.sub_zero, List.drop_length]; rfl
  | d + 1, t, h => by
    have l1 : (t.drop (t.length - (d + 1))).length = d + 1 := by rw [List.length_drop]; omega
    have e0 := tab_suf ws d t (by omega)
    have e1 := tab_suf ws d (t.drop (t.length - (d + 1))) (by omega)
    rw [l1, List.drop_drop, show t.length - (d + 1) + (d + 1 - d) = t.length - d by omega, ← e0] at e1
    unfold cnt
    rw [l1]
    show _ :: _ = _ :: _
    rw [e1, l1, Nat.sub_self, fits_drop]
def ways (ws : List Wd) (t : Wd) : Int := (cnt ws t).getD 0 0
theorem tab_at (ws : List Wd) (t : Wd) : ∀ (d j : Nat), d ≤ t.length → j ≤ d → (tab ws t d).getD j 0 = ways ws (t.drop (t.length - d + j))
  | d, 0, h, _ => by
    rw [tab_suf ws d t h]; rfl
  | d + 1, j + 1, h, hj => by
    show (tab ws t d).getD j 0 = _
    rw [tab_at ws t d j (by omega) (by omega), show t.length - (d + 1) + (j + 1) = t.length - d + j by omega]
theorem ways_nil (ws : List Wd) : ways ws [] = 1 := rfl
theorem ways_cons {ws : List Wd} (c : Code ws) {t : Wd} (h : t ≠ []) : ways ws t = ((ws.filter (fits t 0)).map fun w => ways ws (t.drop w.length)).sum := by
  obtain ⟨n, hn⟩ : ∃ n, t.length = n + 1 := ⟨t.length - 1, by have := List.length_pos_iff.mpr h; omega⟩
  unfold ways cnt
  rw [hn]
  show ((ws.filter (fits t (t.length - (n + 1)))).map fun w => (tab ws t n).getD (w.length - 1) 0).sum = _
  rw [hn, Nat.sub_self]
  refine congrArg List.sum (List.map_congr_left fun w hw => ?_)
  obtain ⟨h1, h2⟩ := List.mem_filter.mp hw
  have h3 := of_decide_eq_true h2
  have h4 := (c.wd w h1).1
  have h5 : w.length ≤ n + 1 := by
    have := congrArg List.length h3
    rw [List.length_take, List.length_drop] at this
    omega
  rw [tab_at ws t n (w.length - 1) (by omega) (by omega), show t.length - n + (w.length - 1) = w.length by omega]
  rfl
theorem isum_mem {f : Wd → Int} : ∀ {l : List Wd}, (∀ w ∈ l, 0 ≤ f w) → 0 ≤ (l.map f).sum ∧ ∀ a ∈ l, f a ≤ (l.map f).sum
  | [], _ => ⟨Int.le_refl _, fun _ h => nomatch h⟩
  | x :: l, h => by
    obtain ⟨h1, h2⟩ := isum_mem fun w hw => h w (List.mem_cons_of_mem _ hw)
    have h0 := h x List.mem_cons_self
    rw [List.map_cons, List.sum_cons]
    refine ⟨by omega, fun a ha => ?_⟩
    rcases List.mem_cons.mp ha with rfl | ha
    · omega
    · have := h2 a ha; omega
theorem isum_two {f : Wd → Int} : ∀ {l : List Wd}, (∀ w ∈ l, 0 ≤ f w) → ∀ a ∈ l, ∀ b ∈ l, a ≠ b → f a + f b ≤ (l.map f).sum
  | [], _, _, h, _, _, _ => nomatch h
  | x :: l, h, a, ha, b, hb, n => by
    obtain ⟨_, h2⟩ := isum_mem fun w hw => h w (List.mem_cons_of_mem _ hw)
    have h0 := h x List.mem_cons_self
    rw [List.map_cons, List.sum_cons]
    rcases List.mem_cons.mp ha with rfl | ha
    · rcases List.mem_cons.mp hb with rfl | hb
      · exact absurd rfl n
      · have := h2 b hb; omega
    · rcases List.mem_cons.mp hb with hb | hb
      · have := h2 a ha
        rw [hb]; omega
      · have := isum_two (fun w hw => h w (List.mem_cons_of_mem _ hw)) a ha b hb n
        omega
theorem isum_one {f : Wd → Int} : ∀ {l : List Wd}, 1 ≤ (l.map f).sum → ∃ w ∈ l, 1 ≤ f w
  | [], h => by simp at h
  | x :: l, h => by
    rw [List.map_cons, List.sum_cons] at h
    by_cases k : 1 ≤ f x
    · exact ⟨x, List.mem_cons_self, k⟩
    · obtain ⟨w, h1, h2⟩ := isum_one (f := f) (l := l) (by omega)
      exact ⟨w, List.mem_cons_of_mem _ h1, h2⟩
theorem isum_pair {f : Wd → Int} : ∀ {l : List Wd}, l.Nodup → 2 ≤ (l.map f).sum → (∃ w ∈ l, 2 ≤ f w) ∨ ∃ a ∈ l, ∃ b ∈ l, a ≠ b ∧ 1 ≤ f a ∧ 1 ≤ f b
  | [], _, h => by simp at h
  | x :: l, nd, h => by
    have nd' := List.nodup_cons.mp nd
    rw [List.map_cons, List.sum_cons] at h
    by_cases k : 2 ≤ f x
    · exact .inl ⟨x, List.mem_cons_self, k⟩
    · by_cases k1 : 1 ≤ f x
      · obtain ⟨w, h1, h2⟩ := isum_one (f := f) (l := l) (by omega)
        exact .inr ⟨x, List.mem_cons_self, w, List.mem_cons_of_mem _ h1, fun z => nd'.1 (by rw [z]; exact h1), k1, h2⟩
      · rcases isum_pair nd'.2 (f := f) (by omega) with ⟨w, h1, h2⟩ | ⟨a, h1, b, h2, h3⟩
        · exact .inl ⟨w, List.mem_cons_of_mem _ h1, h2⟩
        · exact .inr ⟨a, List.mem_cons_of_mem _ h1, b, List.mem_cons_of_mem _ h2, h3⟩
theorem ways_nn {ws : List Wd} (c : Code ws) : ∀ (n : Nat) (t : Wd), t.length ≤ n → 0 ≤ ways ws t
  | n, [], _ => by rw [ways_nil]; decide
  | 0, a :: t, h => by simp at h
  | n + 1, a :: t, h => by
    rw [ways_cons c (List.cons_ne_nil a t)]
    refine (isum_mem fun w hw => ways_nn c n _ ?_).1
    have h4 := (c.wd w (List.mem_filter.mp hw).1).1
    rw [List.length_drop]
    omega
def Parting (ws : List Wd) (t : Wd) (A : List Wd) : Prop := (∀ w ∈ A, w ∈ ws) ∧ A.flatten = t
theorem fits_pre {t w r : Wd} (h : t = w ++ r) : fits t 0 w = true := by
  unfold fits
  rw [h, List.drop_zero, List.take_left]
  exact decide_eq_true rfl
theorem fits_of {t w : Wd} (h : fits t 0 w = true) : t = w ++ t.drop w.length := by
  have := of_decide_eq_true h
  rw [List.drop_zero] at this
  calc t = t.take w.length ++ t.drop w.length := (List.take_append_drop _ _).symm
    _ = _ := by rw [this]
theorem Parting.nil {ws : List Wd} (c : Code ws) {A : List Wd} (h : Parting ws [] A) : A = [] := by
  cases A with
  | nil => rfl
  | cons a A =>
    have := h.2
    rw [List.flatten_cons] at this
    exact absurd (List.append_eq_nil_iff.mp this).1 (c.ne (h.1 a List.mem_cons_self))
theorem ways_le {ws : List Wd} (c : Code ws) {t w r : Wd} (hw : w ∈ ws) (h : t = w ++ r) : ways ws r ≤ ways ws t := by
  have n : t ≠ [] := fun z => c.ne hw (List.append_eq_nil_iff.mp (h.symm.trans z)).1
  rw [ways_cons c n]
  have := (isum_mem (f := fun w => ways ws (t.drop w.length)) (l := ws.filter (fits t 0)) fun w _ => ways_nn c _ _ (Nat.le_refl _)).2 w (List.mem_filter.mpr ⟨hw, fits_pre h⟩)
  rwa [show t.drop w.length = r by rw [h, List.drop_left]] at this
theorem ways_one {ws : List Wd} (c : Code ws) : ∀ {A : List Wd} {t : Wd}, Parting ws t A → 1 ≤ ways ws t
  | [], t, h => by
    obtain rfl : [] = t := h.2
    rw [ways_nil]; decide
  | a :: A, t, h => by
    have h2 := ways_one c (A := A) ⟨fun w hw => h.1 w (List.mem_cons_of_mem _ hw), rfl⟩
    have h3 := ways_le c (h.1 a List.mem_cons_self) (h.2.symm.trans List.flatten_cons)
    omega
theorem ways_two {ws : List Wd} (c : Code ws) : ∀ {A B : List Wd} {t : Wd}, Parting ws t A → Parting ws t B → A ≠ B → 2 ≤ ways ws t
  | [], B, t, h, k, n => by
    obtain rfl : [] = t := h.2
    exact absurd (k.nil c).symm n
  | a :: A, [], t, h, k, n => by
    obtain rfl : [] = t := k.2
    exact absurd (h.nil c) n
  | a :: A, b :: B, t, h, k, n => by
    have ha := h.1 a List.mem_cons_self
    have hb := k.1 b List.mem_cons_self
    have ea : t = a ++ A.flatten := h.2.symm.trans List.flatten_cons
    have eb : t = b ++ B.flatten := k.2.symm.trans List.flatten_cons
    have pa : Parting ws A.flatten A := ⟨fun w hw => h.1 w (List.mem_cons_of_mem _ hw), rfl⟩
    have pb : Parting ws B.flatten B := ⟨fun w hw => k.1 w (List.mem_cons_of_mem _ hw), rfl⟩
    by_cases e : a = b
    · subst e
      have e2 : A.flatten = B.flatten := List.append_cancel_left (ea.symm.trans eb)
      have := ways_two c pa (by rw [e2]; exact pb) fun z => n (by rw [z])
      have := ways_le c ha ea
      omega
    · have nt : t ≠ [] := fun z => c.ne ha (List.append_eq_nil_iff.mp (ea.symm.trans z)).1
      rw [ways_cons c nt]
      have := isum_two (f := fun w => ways ws (t.drop w.length)) (l := ws.filter (fits t 0)) (fun w _ => ways_nn c _ _ (Nat.le_refl _)) a (List.mem_filter.mpr ⟨ha, fits_pre ea⟩) b (List.mem_filter.mpr ⟨hb, fits_pre eb⟩) e
      rw [show t.drop a.length = A.flatten by rw [ea, List.drop_left], show t.drop b.length = B.flatten by rw [eb, List.drop_left]] at this
      have := ways_one c pa
      have := ways_one c pb
      omega
theorem exists_one {ws : List Wd} (c : Code ws) : ∀ (n : Nat) (t : Wd), t.length ≤ n → 1 ≤ ways ws t → ∃ A, Parting ws t A
  | n, [], _, _ => ⟨[], (fun _ h => by cases h), rfl⟩
  | 0, a :: t, h, _ => by simp at h
  | n + 1, a :: t, h, k => by
    rw [ways_cons c (List.cons_ne_nil a t)] at k
    obtain ⟨w, hw, h2⟩ := isum_one k
    obtain ⟨h3, h4⟩ := List.mem_filter.mp hw
    have h5 := (c.wd w h3).1
    obtain ⟨A, h6, h7⟩ := exists_one c n _ (by rw [List.length_drop]; omega) h2
    refine ⟨w :: A, fun x hx => ?_, by rw [List.flatten_cons, h7]; exact (fits_of h4).symm⟩
    rcases List.mem_cons.mp hx with rfl | hx
    · exact h3
    · exact h6 x hx
theorem exists_two {ws : List Wd} (c : Code ws) : ∀ (n : Nat) (t : Wd), t.length ≤ n → 2 ≤ ways ws t → ∃ A B, Parting ws t A ∧ Parting ws t B ∧ A ≠ B
  | n, [], _, k => by rw [ways_nil] at k; omega
  | 0, a :: t, h, _ => by simp at h
  | n + 1, a :: t, h, k => by
    rw [ways_cons c (List.cons_ne_nil a t)] at k
    have put : ∀ w ∈ ws.filter (fits (a :: t) 0), ∀ A, Parting ws ((a :: t).drop w.length) A → Parting ws (a :: t) (w :: A) := fun w hw A p => by
      obtain ⟨h3, h4⟩ := List.mem_filter.mp hw
      refine ⟨fun x hx => ?_, by rw [List.flatten_cons, p.2]; exact (fits_of h4).symm⟩
      rcases List.mem_cons.mp hx with rfl | hx
      · exact h3
      · exact p.1 x hx
    have small : ∀ w ∈ ws.filter (fits (a :: t) 0), ((a :: t).drop w.length).length ≤ n := fun w hw => by
      have h5 := (c.wd w (List.mem_filter.mp hw).1).1
      rw [List.length_drop]; omega
    rcases isum_pair (c.nd.filter _) k with ⟨w, hw, h2⟩ | ⟨x, hx, y, hy, ne, h2, h3⟩
    · obtain ⟨A, B, p1, p2, p3⟩ := exists_two c n _ (small w hw) h2
      exact ⟨w :: A, w :: B, put w hw A p1, put w hw B p2, fun z => p3 (List.cons.inj z).2⟩
    · obtain ⟨A, p1⟩ := exists_one c n _ (small x hx) h2
      obtain ⟨B, p2⟩ := exists_one c n _ (small y hy) h3
      exact ⟨x :: A, y :: B, put x hx A p1, put y hy B p2, fun z => ne (List.cons.inj z).1⟩

theorem rch_perm {zs ws : List Wd} (h : zs.Perm ws) {t : Wd} {i : Nat} (r : Rch zs t i) : Rch ws t i := by
  induction r with
  | zero => exact .zero
  | step i w _ b c d ih => exact .step i w ih b (h.mem_iff.mp c) d
theorem beg_perm {zs ws : List Wd} (h : zs.Perm ws) {t : Wd} : Beg zs t ↔ Beg ws t := by
  have one : ∀ {zs ws : List Wd}, zs.Perm ws → Beg zs t → Beg ws t := fun h k => by
    rcases k with ⟨i, a, b, w, c, d⟩ | k
    · exact .inl ⟨i, a, rch_perm h b, w, h.mem_iff.mp c, d⟩
    · exact .inr (rch_perm h k)
  exact ⟨one h, one h.symm⟩

/-! ### what two texts share, and the wait -/
theorem shr_np : ∀ {r w : Wd} (x y : Wd), (¬ ∃ s, r = w ++ s) → (¬ ∃ s, w = r ++ s) → shr (r ++ x) (w ++ y) = shr r w
  | [], w, x, y, _, h => absurd ⟨w, rfl⟩ h
  | a :: r, [], x, y, h, _ => absurd ⟨a :: r, rfl⟩ h
  | a :: r, b :: w, x, y, h1, h2 => by
    show shr (a :: (r ++ x)) (b :: (w ++ y)) = _
    rw [shr_cons, shr_cons]
    by_cases e : a = b
    · rw [if_pos e, if_pos e, shr_np x y (fun ⟨s, z⟩ => h1 ⟨s, by rw [e, z]; rfl⟩) (fun ⟨s, z⟩ => h2 ⟨s, by rw [e, z]; rfl⟩)]
    · rw [if_neg e, if_neg e]
theorem Hts.shared {ws R P : List Wd} {h : Wd → Nat} (a : Hts ws R P h) (cl : ∀ r ∈ R, ∀ w ∈ ws, ∀ s, tgt r w = some s → s ∈ R) {r : Wd} (g : Hgt ws r) : r ∈ R → ∀ (x : Wd) (A B : List Wd), (∀ w ∈ A, w ∈ ws) → (∀ w ∈ B, w ∈ ws) → shr (r ++ A.flatten) B.flatten ≤ h r := by
  induction g with
  | @mk r hs ih =>
    intro hr _ A B hA hB
    have hv := a.val r ((a.iff r).mpr ⟨hr, .mk hs⟩)
    have up : ∀ w ∈ ws, wval h r w ≤ h r := fun w hw => by rw [hv]; exact most_le _ (List.mem_map.mpr ⟨w, hw, rfl⟩)
    cases B with
    | nil => rw [List.flatten_nil, shr_nil]; exact Nat.zero_le _
    | cons w B =>
      have hw := hB w List.mem_cons_self
      have hB' := fun x hx => hB x (List.mem_cons_of_mem _ hx)
      have u := up w hw
      rw [List.flatten_cons]
      unfold wval at u
      cases e : step r w with
      | none =>
        rw [e] at u
        have n1 : ¬ ∃ s, r = w ++ s := fun ⟨s, z⟩ => by rw [step_eq.mpr (.inl ⟨rfl, z⟩)] at e; cases e
        have n2 : ¬ ∃ s, w = r ++ s := fun ⟨s, z⟩ => by
          by_cases y : s = []
          · exact n1 ⟨[], by rw [z, y]; simp⟩
          · rw [step_eq.mpr (.inr ⟨rfl, z, y⟩)] at e; cases e
        rw [shr_np _ _ n1 n2]; exact u
      | some p =>
        obtain ⟨s, k⟩ := p
        rw [e] at u
        have ts : tgt r w = some s := by unfold tgt; rw [e]; rfl
        have ih' := ih w hw s ts (cl r hr w hw s ts) []
        rcases step_eq.mp e with ⟨rfl, z⟩ | ⟨rfl, z, _⟩
        · rw [z, List.append_assoc, shr_pre]
          have := ih' A B hA hB'
          have u : w.length + h s ≤ h r := u
          rw [z] at u
          omega
        · rw [z, List.append_assoc, shr_pre, shr_comm]
          have := ih' B A hB' hA
          have u : r.length + h s ≤ h r := u
          omega
/-- two rows of unlike first words share at most n -/
def Waits (ws : List Wd) (n : Nat) : Prop := ∀ (a b : Wd) (A B : List Wd), a ∈ ws → b ∈ ws → (∀ w ∈ A, w ∈ ws) → (∀ w ∈ B, w ∈ ws) → a ≠ b → shr (a ++ A.flatten) (b ++ B.flatten) ≤ n
theorem WaitIs.waits {ws : List Wd} {E : Tb} {P : List Wd} {h : Wd → Nat} {n : Nat} {b : Option (Wd × Wd)} (t : Lst ws E) (a : Hts ws (keysT E) P h) (w : WaitIs ws P h (some n) b) : Waits ws n := by
  have key : ∀ q, IsPair ws q → ∃ m, pw P h q = some m ∧ m ≤ n := by
    cases w with
    | nil no => exact fun q hq => absurd hq (no q)
    | «at» _ _ k => exact k
  intro x y A B hx hy hA hB ne
  have pre : ∀ {x y r : Wd} {A B : List Wd}, x ∈ ws → y ∈ ws → (∀ w ∈ A, w ∈ ws) → (∀ w ∈ B, w ∈ ws) → x ≠ y → left x y = some r → shr (x ++ A.flatten) (y ++ B.flatten) ≤ n := fun {x y r A B} hx hy hA hB ne e => by
    obtain ⟨m, e1, l⟩ := key (x, y) ⟨hx, hy, .inl ⟨ne, r, e⟩⟩
    unfold pw at e1
    dsimp only at e1
    rw [e] at e1
    have e1 : (if r ∈ P then some (y.length + h r) else none) = some m := e1
    by_cases rp : r ∈ P
    · rw [if_pos rp] at e1
      obtain ⟨rR, g⟩ := (a.iff r).mp rp
      have s := a.shared t.tgt g rR [] A B hA hB
      have z := left_eq.mp e
      rw [z, List.append_assoc, shr_pre]
      have := Option.some.inj e1
      omega
    · rw [if_neg rp] at e1; cases e1
  cases e : left x y with
  | some r => exact pre hx hy hA hB ne e
  | none =>
    cases e2 : left y x with
    | some r => rw [shr_comm]; exact pre hy hx hB hA ne.symm e2
    | none =>
      rw [shr_np _ _ (left_none.mp e) (left_none.mp e2)]
      have one : ∀ {x y : Wd}, x ∈ ws → y ∈ ws → x < y → left x y = none → left y x = none → shr x y ≤ n := fun {x y} hx hy l e e2 => by
        obtain ⟨m, e1, l'⟩ := key (x, y) ⟨hx, hy, .inr ⟨l, e, e2⟩⟩
        unfold pw at e1
        dsimp only at e1
        rw [e] at e1
        have := Option.some.inj e1
        omega
      by_cases l1 : x < y
      · exact one hx hy l1 e e2
      · by_cases l2 : y < x
        · rw [shr_comm]; exact one hy hx l2 e2 e
        · exact absurd (List.le_antisymm l2 l1) ne
theorem Waits.perm {ws zs : List Wd} {n : Nat} (m : ∀ w, w ∈ zs → w ∈ ws) (a : Waits ws n) : Waits zs n := fun x y A B hx hy hA hB ne => a x y A B (m x hx) (m y hy) (fun w h => m w (hA w h)) (fun w h => m w (hB w h)) ne
theorem shr_ge : ∀ (k x y : Wd), k.length ≤ shr (k ++ x) (k ++ y) := fun k x y => by rw [shr_pre]; omega
/-- one reading alone -/
theorem Waits.one {ws : List Wd} {n : Nat} (a : Waits ws n) (c : Code ws) : ∀ {A B : List Wd} {t : Wd}, Parting ws t A → Parting ws t B → A = B := by
  have rep : ∀ (A : List Wd) (m : Nat), (List.replicate m A).flatten.flatten = (List.replicate m A.flatten).flatten := fun A m => by
    induction m with
    | zero => rfl
    | succ m ih => rw [List.replicate_succ, List.replicate_succ, List.flatten_cons, List.flatten_append, ih, List.flatten_cons]
  have mem : ∀ {A : List Wd} (m : Nat), (∀ w ∈ A, w ∈ ws) → ∀ w ∈ (List.replicate m A).flatten, w ∈ ws := fun {A} m h w hw => by
    obtain ⟨B, hB, hw⟩ := List.mem_flatten.mp hw
    rw [(List.mem_replicate.mp hB).2] at hw
    exact h w hw
  intro A B t hA hB
  induction A generalizing B t with
  | nil => exact (Parting.nil c (by rw [← hA.2] at hB; exact hB)).symm
  | cons x A ih =>
    cases B with
    | nil => exact Parting.nil c (by rw [← hB.2] at hA; exact hA)
    | cons y B =>
      have hx := hA.1 x List.mem_cons_self
      have hy := hB.1 y List.mem_cons_self
      have hA' := fun w h => hA.1 w (List.mem_cons_of_mem _ h)
      have hB' := fun w h => hB.1 w (List.mem_cons_of_mem _ h)
      by_cases e : x = y
      · subst e
        have h1 := hA.2.trans hB.2.symm
        rw [List.flatten_cons, List.flatten_cons] at h1
        rw [ih ⟨hA', rfl⟩ ⟨hB', (List.append_cancel_left h1).symm⟩]
      · exfalso
        have tp : 1 ≤ t.length := by
          rw [← hA.2, List.flatten_cons, List.length_append]
          have := (c.wd x hx).1
          omega
        have big := a x y (A ++ (List.replicate n (x :: A)).flatten) (B ++ (List.replicate n (y :: B)).flatten) hx hy (fun w h => (List.mem_append.mp h).elim (hA' w) (mem n hA.1 w)) (fun w h => (List.mem_append.mp h).elim (hB' w) (mem n hB.1 w)) e
        have eA : x ++ (A ++ (List.replicate n (x :: A)).flatten).flatten = t ++ (List.replicate n t).flatten := by
          rw [List.flatten_append, rep, hA.2, ← List.append_assoc]
          exact congrArg (· ++ _) hA.2
        have eB : y ++ (B ++ (List.replicate n (y :: B)).flatten).flatten = t ++ (List.replicate n t).flatten := by
          rw [List.flatten_append, rep, hB.2, ← List.append_assoc]
          exact congrArg (· ++ _) hB.2
        rw [eA, eB] at big
        have lr : (List.replicate n t).flatten.length = n * t.length := by simp
        have := shr_ge (t ++ (List.replicate n t).flatten) [] []
        rw [List.append_nil, List.length_append, lr] at this
        have m1 : n * 1 ≤ n * t.length := Nat.mul_le_mul_left _ tp
        omega
/-! ### texts that begin so -/
theorem Rch.row {ws : List Wd} {t : Wd} {i : Nat} (r : Rch ws t i) : i ≤ t.length ∧ ∃ A : List Wd, (∀ w ∈ A, w ∈ ws) ∧ A.flatten = t.take i := by
  induction r with
  | zero => exact ⟨Nat.zero_le _, [], (fun _ h => nomatch h), by simp⟩
  | step i w _ h1 h2 h3 ih =>
    obtain ⟨l, A, hA, eA⟩ := ih
    have lw : i + w.length ≤ t.length := by
      have := congrArg List.length h3
      rw [List.length_take, List.length_drop] at this
      omega
    refine ⟨lw, A ++ [w], fun x hx => (List.mem_append.mp hx).elim (hA x) fun z => by rw [List.mem_singleton.mp z]; exact h2, ?_⟩
    rw [List.flatten_append, eA, List.take_add, h3]; simp
theorem beg_row {ws : List Wd} {t : Wd} (b : Beg ws t) : ∃ (A : List Wd) (y : Wd), (∀ w ∈ A, w ∈ ws) ∧ A.flatten = t ++ y := by
  rcases b with ⟨i, hi, r, w, hw, e⟩ | r
  · obtain ⟨_, A, hA, eA⟩ := r.row
    refine ⟨A ++ [w], w.drop (t.length - i), fun x hx => (List.mem_append.mp hx).elim (hA x) fun z => by rw [List.mem_singleton.mp z]; exact hw, ?_⟩
    rw [List.flatten_append, eA]
    have h1 : w = t.drop i ++ w.drop (t.length - i) := by rw [← e, List.take_append_drop]
    have h2 : [w].flatten = w := by simp
    rw [h2]
    conv => lhs; rhs; rw [h1]
    rw [← List.append_assoc, List.take_append_drop]
  · obtain ⟨_, A, hA, eA⟩ := r.row
    exact ⟨A, [], hA, by rw [eA, List.take_length, List.append_nil]⟩
theorem row_beg {ws : List Wd} (ne : ∀ w ∈ ws, w ≠ []) {t : Wd} : ∀ {A : List Wd} {i : Nat} {y : Wd}, Rch ws t i → i ≤ t.length → (∀ w ∈ A, w ∈ ws) → A.flatten = t.drop i ++ y → Beg ws t
  | [], i, y, r, l, _, e => by
    have h : t.drop i = [] := (List.append_eq_nil_iff.mp e.symm).1
    have := congrArg List.length h
    rw [List.length_drop] at this
    have h0 : ([] : Wd).length = 0 := rfl
    exact .inr (by rw [show t.length = i by omega]; exact r)
  | w :: A, i, y, r, l, hA, e => by
    rw [List.flatten_cons] at e
    have hw := hA w List.mem_cons_self
    by_cases z : i = t.length
    · exact .inr (by rw [← z]; exact r)
    · have li : i < t.length := by omega
      by_cases lw : w.length ≤ t.length - i
      · have h1 : (t.drop i).take w.length = w := by
          have := congrArg (List.take w.length) e
          rw [List.take_left, List.take_append_of_le_length (by rw [List.length_drop]; exact lw)] at this
          exact this.symm
        refine row_beg ne (A := A) (y := y) (.step i w r li hw h1) (by omega) (fun x hx => hA x (List.mem_cons_of_mem _ hx)) ?_
        have h2 := congrArg (List.drop w.length) e
        rw [List.drop_left, List.drop_append_of_le_length (by rw [List.length_drop]; exact lw), List.drop_drop] at h2
        exact h2
      · refine .inl ⟨i, li, r, w, hw, ?_⟩
        have h1 := congrArg (List.take (t.length - i)) e
        rw [List.take_append_of_le_length (by omega)] at h1
        rw [h1, List.take_append_of_le_length (by rw [List.length_drop]; omega), List.take_of_length_le (by rw [List.length_drop]; omega)]
theorem beg_iff {ws : List Wd} (ne : ∀ w ∈ ws, w ≠ []) {t : Wd} : Beg ws t ↔ ∃ (A : List Wd) (y : Wd), (∀ w ∈ A, w ∈ ws) ∧ A.flatten = t ++ y :=
  ⟨beg_row, fun ⟨_, _, hA, e⟩ => row_beg ne .zero (Nat.zero_le _) hA (by rw [List.drop_zero]; exact e)⟩
/-! ### a reader -/
/-- the word with which texts begin that begin with k -/
def Fst (ws : List Wd) (k w : Wd) : Prop := (∃ x, w = k ++ x) ∨ ∃ x, k = w ++ x ∧ Beg ws x
theorem Fst.row {ws : List Wd} {k w : Wd} (f : Fst ws k w) : ∃ (A : List Wd) (y : Wd), (∀ w ∈ A, w ∈ ws) ∧ w ++ A.flatten = k ++ y := by
  rcases f with ⟨x, e⟩ | ⟨x, e, b⟩
  · exact ⟨[], x, (fun _ h => nomatch h), by rw [e]; simp⟩
  · obtain ⟨A, y, hA, eA⟩ := beg_row b
    exact ⟨A, y, hA, by rw [eA, e, List.append_assoc]⟩
theorem Fst.uniq {ws : List Wd} {n : Nat} (a : Waits ws n) {k w o : Wd} (l : n < k.length) (hw : w ∈ ws) (ho : o ∈ ws) (f : Fst ws k w) (g : Fst ws k o) : w = o := by
  obtain ⟨A, y, hA, eA⟩ := f.row
  obtain ⟨B, z, hB, eB⟩ := g.row
  refine Classical.byContradiction fun ne => ?_
  have := a w o A B hw ho hA hB ne
  rw [eA, eB] at this
  have := shr_ge k y z
  omega
theorem Fst.of_row {ws : List Wd} (ne : ∀ w ∈ ws, w ≠ []) {k w y : Wd} {A : List Wd} (hA : ∀ w ∈ A, w ∈ ws) (e : w ++ A.flatten = k ++ y) : Fst ws k w := by
  by_cases l : k.length ≤ w.length
  · refine .inl ⟨w.drop k.length, ?_⟩
    have := congrArg (List.take k.length) e
    rw [List.take_left, List.take_append_of_le_length l] at this
    conv => lhs; rw [← List.take_append_drop k.length w, this]
  · refine .inr ⟨k.drop w.length, ?_, (beg_iff ne).mpr ⟨A, y, hA, ?_⟩⟩
    · have := congrArg (List.take w.length) e
      rw [List.take_left, List.take_append_of_le_length (by omega)] at this
      conv => lhs; rw [← List.take_append_drop w.length k, ← this]
    · have := congrArg (List.drop w.length) e
      rw [List.drop_left, List.drop_append_of_le_length (by omega)] at this
      exact this
theorem Fst.perm {ws zs : List Wd} (p : zs.Perm ws) {k w : Wd} (f : Fst zs k w) : Fst ws k w := by
  rcases f with f | ⟨x, e, b⟩
  · exact .inl f
  · exact .inr ⟨x, e, (beg_perm p).mp b⟩
theorem Fst.pre {ws : List Wd} {k w : Wd} (f : Fst ws k w) (l : w.length ≤ k.length) : k = w ++ k.drop w.length := by
  rcases f with ⟨x, e⟩ | ⟨x, e, _⟩
  · have := congrArg List.length e
    rw [List.length_append] at this
    obtain rfl : x = [] := List.eq_nil_of_length_eq_zero (by omega)
    rw [List.append_nil] at e
    rw [e]; simp
  · rw [e, List.drop_left]
/-- what is told of k, and what is kept then; none: it is refused -/
inductive Tkn (ws : List Wd) (n : Nat) : Wd → Option (List Wd × Wd) → Prop
  | stop {k : Wd} : k.length ≤ n → Tkn ws n k (some ([], k))
  | no {k : Wd} : n < k.length → (∀ w ∈ ws, ¬ Fst ws k w) → Tkn ws n k none
  | wait {k w : Wd} : n < k.length → w ∈ ws → Fst ws k w → k.length < w.length → Tkn ws n k (some ([], k))
  | go {k w k' : Wd} {L : List Wd} : n < k.length → w ∈ ws → Fst ws k w → w.length ≤ k.length → Tkn ws n (k.drop w.length) (some (L, k')) → Tkn ws n k (some (w :: L, k'))
  | goNo {k w : Wd} : n < k.length → w ∈ ws → Fst ws k w → w.length ≤ k.length → Tkn ws n (k.drop w.length) none → Tkn ws n k none
theorem Tkn.perm {ws zs : List Wd} (p : zs.Perm ws) {n : Nat} {k : Wd} {r : Option (List Wd × Wd)} (a : Tkn zs n k r) : Tkn ws n k r := by
  induction a with
  | stop h => exact .stop h
  | no h f => exact .no h fun w hw g => f w (p.mem_iff.mpr hw) (g.perm p.symm)
  | wait h hw f l => exact .wait h (p.mem_iff.mp hw) (f.perm p) l
  | go h hw f l _ ih => exact .go h (p.mem_iff.mp hw) (f.perm p) l ih
  | goNo h hw f l _ ih => exact .goNo h (p.mem_iff.mp hw) (f.perm p) l ih
theorem Tkn.ex {ws : List Wd} (ne : ∀ w ∈ ws, w ≠ []) (n : Nat) : ∀ (m : Nat) (k : Wd), k.length ≤ m → ∃ r, Tkn ws n k r
  | m, k, hm => by
    by_cases l : k.length ≤ n
    · exact ⟨_, .stop l⟩
    · have l : n < k.length := by omega
      by_cases f : ∃ w ∈ ws, Fst ws k w
      · obtain ⟨w, hw, g⟩ := f
        by_cases lw : k.length < w.length
        · exact ⟨_, .wait l hw g lw⟩
        · have w1 := List.length_pos_iff.mpr (ne w hw)
          cases m with
          | zero => omega
          | succ m =>
            obtain ⟨r, hr⟩ := Tkn.ex ne n m (k.drop w.length) (by rw [List.length_drop]; omega)
            cases r with
            | none => exact ⟨_, .goNo l hw g (by omega) hr⟩
            | some p => exact ⟨_, .go l hw g (by omega) hr⟩
      · exact ⟨_, .no l fun w hw g => f ⟨w, hw, g⟩⟩
theorem Tkn.uniq {ws : List Wd} {n : Nat} (a : Waits ws n) {k : Wd} {r s : Option (List Wd × Wd)} (x : Tkn ws n k r) (y : Tkn ws n k s) : r = s := by
  induction x generalizing s with
  | stop h =>
    cases y with
    | stop => rfl
    | no g _ => omega
    | wait g _ _ _ => omega
    | go g _ _ _ _ => omega
    | goNo g _ _ _ _ => omega
  | no h f =>
    cases y with
    | stop g => omega
    | no => rfl
    | wait _ hw g _ => exact absurd g (f _ hw)
    | go _ hw g _ _ => exact absurd g (f _ hw)
    | goNo _ _ _ _ _ => rfl
  | wait h hw f l =>
    cases y with
    | stop g => omega
    | no _ g => exact absurd f (g _ hw)
    | wait => rfl
    | go _ hw' g l' _ => obtain rfl := f.uniq a h hw hw' g; omega
    | goNo _ hw' g l' _ => obtain rfl := f.uniq a h hw hw' g; omega
  | go h hw f l _ ih =>
    cases y with
    | stop g => omega
    | no _ g => exact absurd f (g _ hw)
    | wait _ hw' g l' => obtain rfl := f.uniq a h hw hw' g; omega
    | go _ hw' g l' t => obtain rfl := f.uniq a h hw hw' g; have := ih t; cases this; rfl
    | goNo _ hw' g l' t => obtain rfl := f.uniq a h hw hw' g; have := ih t; cases this
  | goNo h hw f l _ ih =>
    cases y with
    | stop g => omega
    | no _ g => rfl
    | wait _ hw' g l' => obtain rfl := f.uniq a h hw hw' g; omega
    | go _ hw' g l' t => obtain rfl := f.uniq a h hw hw' g; have := ih t; cases this
    | goNo _ hw' g l' t => rfl
theorem Tkn.len {ws : List Wd} {n : Nat} {k : Wd} {r : Option (List Wd × Wd)} (x : Tkn ws n k r) : ∀ L k', r = some (L, k') → k'.length + L.flatten.length ≤ k.length ∧ ∀ w ∈ L, w ∈ ws := by
  induction x with
  | stop h => intro L k' e; cases e; exact ⟨Nat.le_refl _, fun _ h => nomatch h⟩
  | no _ _ => intro L k' e; cases e
  | wait _ _ _ _ => intro L k' e; cases e; exact ⟨Nat.le_refl _, fun _ h => nomatch h⟩
  | go h hw f l _ ih =>
    intro L k' e
    cases e
    obtain ⟨h1, h2⟩ := ih _ _ rfl
    rw [List.length_drop] at h1
    refine ⟨by rw [List.flatten_cons, List.length_append]; omega, fun w hw' => (List.mem_cons.mp hw').elim (fun z => z ▸ hw) (h2 w)⟩
  | goNo _ _ _ _ _ _ => intro L k' e; cases e
theorem Tkn.short {ws : List Wd} {n : Nat} {k : Wd} {r : Option (List Wd × Wd)} (x : Tkn ws n k r) : ∀ L k', r = some (L, k') → k'.length ≤ n ∨ ∃ w ∈ ws, k'.length < w.length := by
  induction x with
  | stop h => intro L k' e; cases e; exact .inl h
  | no _ _ => intro L k' e; cases e
  | wait _ hw _ l => intro L k' e; cases e; exact .inr ⟨_, hw, l⟩
  | go _ _ _ _ _ ih => intro L k' e; cases e; exact ih _ _ rfl
  | goNo _ _ _ _ _ _ => intro L k' e; cases e
/-- of a text of the code it is never refused, and told are its words -/
theorem Tkn.row {ws : List Wd} {n : Nat} (a : Waits ws n) (ne : ∀ w ∈ ws, w ≠ []) {k : Wd} {r : Option (List Wd × Wd)} (x : Tkn ws n k r) : ∀ {R : List Wd} {y : Wd}, (∀ w ∈ R, w ∈ ws) → R.flatten = k ++ y → ∃ L k' R', r = some (L, k') ∧ R = L ++ R' ∧ R'.flatten = k' ++ y := by
  have first : ∀ {k : Wd} {R : List Wd} {y : Wd}, n < k.length → (∀ w ∈ R, w ∈ ws) → R.flatten = k ++ y → ∃ w R', R = w :: R' ∧ Fst ws k w := fun {k R y} l hR e => by
    cases R with
    | nil =>
      have := congrArg List.length e
      rw [List.length_append] at this
      have h0 : ([] : List Wd).flatten.length = 0 := rfl
      omega
    | cons w R => exact ⟨w, R, rfl, Fst.of_row ne (fun x hx => hR x (List.mem_cons_of_mem _ hx)) (by rw [List.flatten_cons] at e; exact e)⟩
  induction x with
  | @stop k h => exact fun {R y} hR e => ⟨[], k, R, rfl, rfl, e⟩
  | no h f =>
    intro R y hR e
    obtain ⟨w, R', rfl, g⟩ := first h hR e
    exact absurd g (f w (hR w List.mem_cons_self))
  | @wait k w h hw f l => exact fun {R y} hR e => ⟨[], k, R, rfl, rfl, e⟩
  | @go k w k' L h hw f l _ ih =>
    intro R y hR e
    obtain ⟨w', R', rfl, g⟩ := first h hR e
    obtain rfl := f.uniq a h hw (hR w' List.mem_cons_self) g
    have e2 := f.pre l
    rw [List.flatten_cons, e2, List.append_assoc] at e
    obtain ⟨L', k2, R2, e3, e4, e5⟩ := ih (fun x hx => hR x (List.mem_cons_of_mem _ hx)) (List.append_cancel_left e)
    cases e3
    exact ⟨_, _, R2, rfl, by rw [e4]; rfl, e5⟩
  | @goNo k w h hw f l _ ih =>
    intro R y hR e
    obtain ⟨w', R', rfl, g⟩ := first h hR e
    obtain rfl := f.uniq a h hw (hR w' List.mem_cons_self) g
    have e2 := f.pre l
    rw [List.flatten_cons, e2, List.append_assoc] at e
    obtain ⟨L', k2, R2, e3, e4, e5⟩ := ih (fun x hx => hR x (List.mem_cons_of_mem _ hx)) (List.append_cancel_left e)
    cases e3
/-- letter by letter: from k0, the letters t, the words L told, k kept -/
inductive Fed (ws : List Wd) (n : Nat) (k0 : Wd) : Wd → List Wd → Wd → Prop
  | nil : Fed ws n k0 [] [] k0
  | no {t k : Wd} {L : List Wd} {x : Nat} : Fed ws n k0 t L k → Tkn ws n (k ++ [x]) none → Fed ws n k0 (t ++ [x]) L k
  | tell {t k k' : Wd} {L L' : List Wd} {x : Nat} : Fed ws n k0 t L k → Tkn ws n (k ++ [x]) (some (L', k')) → Fed ws n k0 (t ++ [x]) (L ++ L') k'
theorem Fed.len {ws : List Wd} {n : Nat} {k0 t k : Wd} {L : List Wd} (f : Fed ws n k0 t L k) : k.length + L.flatten.length ≤ k0.length + t.length ∧ ∀ w ∈ L, w ∈ ws := by
  induction f with
  | nil => exact ⟨Nat.le_refl _, fun _ h => nomatch h⟩
  | no _ _ ih => exact ⟨by rw [List.length_append]; have := ih.1; omega, ih.2⟩
  | @tell t k k' L L' x _ h ih =>
    obtain ⟨h1, h2⟩ := h.len _ _ rfl
    rw [List.length_append] at h1
    have h0 : ([x] : Wd).length = 1 := rfl
    refine ⟨by rw [List.flatten_append, List.length_append, List.length_append]; have := ih.1; omega, fun w hw => (List.mem_append.mp hw).elim (ih.2 w) (h2 w)⟩
theorem Fed.row {ws : List Wd} {n : Nat} (a : Waits ws n) (ne : ∀ w ∈ ws, w ≠ []) {t k : Wd} {L : List Wd} (f : Fed ws n [] t L k) : ∀ {R : List Wd} {y : Wd}, (∀ w ∈ R, w ∈ ws) → R.flatten = t ++ y → ∃ R', R = L ++ R' ∧ R'.flatten = k ++ y := by
  induction f with
  | nil => exact fun {R y} _ e => ⟨R, rfl, e⟩
  | @no t k L x _ h ih =>
    intro R y hR e
    obtain ⟨R', rfl, e2⟩ := ih (y := [x] ++ y) hR (by rw [e, List.append_assoc])
    obtain ⟨_, _, _, z, _⟩ := h.row a ne (R := R') (y := y) (fun w hw => hR w (List.mem_append_right _ hw)) (by rw [e2, List.append_assoc])
    cases z
  | @tell t k k' L L' x _ h ih =>
    intro R y hR e
    obtain ⟨R', rfl, e2⟩ := ih (y := [x] ++ y) hR (by rw [e, List.append_assoc])
    obtain ⟨_, _, R3, z, e3, e4⟩ := h.row a ne (R := R') (y := y) (fun w hw => hR w (List.mem_append_right _ hw)) (by rw [e2, List.append_assoc])
    cases z
    exact ⟨R3, by rw [e3, List.append_assoc], e4⟩
theorem Fed.short {ws : List Wd} {n : Nat} {k0 t k : Wd} {L : List Wd} (f : Fed ws n k0 t L k) (h : k0.length ≤ n ∨ ∃ w ∈ ws, k0.length < w.length) : k.length ≤ n ∨ ∃ w ∈ ws, k.length < w.length := by
  induction f with
  | nil => exact h
  | no _ _ ih => exact ih
  | tell _ t _ => exact t.short _ _ rfl

/-- a thing that stands in H -/
def ThingAt (H : Hp) (v : V) : Prop := (∃ t, TyW H v t) ∧ ∀ a, v = sv a → a.length ≤ 100000
theorem TyW.same {H H' : Hp} {v : V} {t : Ty} (h : TyW H v t) (s : Same H H') : TyW H' v t := by
  cases h with
  | non => exact .non
  | bl b => exact .bl b
  | int i => exact .int i
  | str x => exact .str x
  | lst h => exact .lst (s _ _ h)
  | tup h => exact .tup (s _ _ h)
  | dict h => exact .dict (s _ _ h)
theorem ThingAt.same {H H' : Hp} {v : V} (h : ThingAt H v) (s : Same H H') : ThingAt H' v := ⟨let ⟨t, z⟩ := h.1; ⟨t, z.same s⟩, h.2⟩

abbrev s_is_sign : Stmt := top 15
theorem sc_is_sign : FnScope ["thing"] ["thing"] (defScope s_is_sign) := ⟨rfl, rfl, rfl, by decide +kernel, rfl, by decide +kernel, by decide +kernel⟩
def signV : V → Bool
  | .str z => decide (z.cps.toList.length = 1 ∧ ∀ c ∈ z.cps.toList, c ∈ ABC)
  | _ => false
theorem signV_sv (a : Wd) : signV (sv a) = decide (a.length = 1 ∧ ∀ c ∈ a, c ∈ ABC) := rfl
theorem signV_ex {v : V} (h : signV v = true) : ∃ x, v = sv [x] ∧ x ∈ ABC := by
  cases v with
  | str z =>
    obtain ⟨h1, h2⟩ := of_decide_eq_true h
    obtain ⟨a, rfl⟩ := S_ex z
    have h1 : a.length = 1 := h1
    match a, h1 with
    | [x], _ => exact ⟨x, rfl, h2 x List.mem_cons_self⟩
  | _ => cases h
theorem signV_one {x : Nat} (h : x ∈ ABC) : signV (sv [x]) = true := by
  rw [signV_sv]
  exact decide_eq_true ⟨rfl, fun c hc => by rw [List.mem_singleton.mp hc]; exact h⟩
def sp_is_sign : Sp := fun vs H Q _ => ∃ v, vs = [v] ∧ ThingAt H v ∧ Q (.bl (signV v)) H
theorem ok_is_sign (B : Bi mg) (G_SIGNS : ∃ t, mg "SIGNS" = some (.str "abcdefghijklmnopqrstuvwxyz" t)) (D : Def K mg "is_sign" s_is_sign) : Cal P w K mg base CX0 "is_sign" 1 ["thing"] sp_is_sign := by
  have nd := sc_is_sign.nd
  refine D.cal sc_is_sign (fun _ _ _ _ _ _ us hl => match us, hl with | [_], _ => rfl) (fun vs H Q E h => ?_) (fun f cdv A outer s H vs Q E hr h => ?_)
  · obtain ⟨_, rfl, _⟩ := h
    rfl
  · obtain ⟨v, rfl, ⟨⟨t, ty⟩, lt⟩, q⟩ := h
    refine ⟨_, PSs.nox (pss_one (ps_ret (pe_and (pe_callB (call_is .str) (by rfl) B.isinstance (by decide +kernel) (pa_cons (pv 0) (pa_cons (pe_ty .str (by rfl) B.str (by decide +kernel)) pa_nil))) (pe_and (pe_cmpR op_eqn (pe_callB call_lenw (by rfl) B.len PySem.boot_len (pa_cons (pv 0) pa_nil)) pe_int (nomark _)) (pe_one (pe_cmpR op_ing (pv 0) (pe_globw ABC rfl G_SIGNS rfl) (by rfl))))))), ?_⟩
    try dsimp only [cxOf, Cx.nox, Cx.wish]
    cases ty with
    | str z =>
      obtain ⟨a, rfl⟩ := S_ex z
      have ha := lt a rfl
      rw [signV_sv] at q
      fail "gi"
      refine itd (fun e => ?_) fun e => ?_
      · obtain ⟨x, rfl⟩ : ∃ x, a = [x] := by
          match a, e with
          | [x], _ => exact ⟨x, rfl⟩
          | [], e => cases e
          | x :: y :: r, e => rw [List.length_cons, List.length_cons] at e; omega
        fail "gi"
        refine (show Q (.bl (decide (x ∈ ABC))) H from ?_)
        rw [show decide (x ∈ ABC) = decide (([x] : Wd).length = 1 ∧ ∀ c ∈ [x], c ∈ ABC) from decide_eq_decide.mpr ⟨fun h => ⟨rfl, fun c hc => by rw [List.mem_singleton.mp hc]; exact h⟩, fun h => h.2 x List.mem_cons_self⟩]
        exact q
      · rw [decide_eq_false (fun z => e (by have := z.1; omega))] at q
        fail "gi"
        exact q
    | non => fail "gi"; exact q
    | bl b => fail "gi"; exact q
    | int i => fail "gi"; exact q
    | lst hh => fail "gi"; exact q
    | tup hh => fail "gi"; exact q
    | dict hh => fail "gi"; exact q
/-! ### the reader's own -/
structure ReaderC (K : PySem.W.Frag) (C : Addr) : Prop where
  cl : Cls K C
  n1 : NoAttr K C "own"
  n2 : NoAttr K C "most"
  n3 : NoAttr K C "kept"
  is : InstC K C ∧ Cls K C
def Beh (pl : Addr) (G G' : Hp) : Prop := ∀ b u, b ≠ pl → G b = some u → G' b = some u
theorem Beh.refl (pl : Addr) (G : Hp) : Beh pl G G := fun _ _ _ h => h
theorem Beh.trans {pl : Addr} {G G' G'' : Hp} (a : Beh pl G G') (b : Beh pl G' G'') : Beh pl G G'' := fun x u n h => b x u n (a x u n h)
theorem Beh.same {pl : Addr} {G G' : Hp} (s : Same G G') : Beh pl G G' := fun b u _ h => s b u h
theorem Beh.upd {po : Addr} {G G1 : Hp} {u : HO} (b : Beh po G G1) : Beh po G (L2.upd G1 po u) := fun x v n e => by rw [upd_ne n]; exact b x v n e
def rdF (o : Addr) (n : Nat) (k : Wd) : List (Str × V) := [("own", .ref o), ("most", .int (n : Nat)), ("kept", sv k)]
abbrev s_Reader___init__ : Stmt := inClass (top 38) 0
theorem sc_Reader___init__ : FnScope ["self", "words"] ["self", "words"] (defScope s_Reader___init__) := ⟨rfl, rfl, rfl, by decide +kernel, rfl, by decide +kernel, by decide +kernel⟩
def sp_Reader___init__ (CRd : Addr) (K : PySem.W.Frag) : Sp := fun vs H Q X => ∃ x p : Addr, vs = [.ref x, .ref p] ∧ ∃ (dx : Addr) (ws : List Wd), H x = some (.ins CRd dx []) ∧ H p = some (.lst (ws.map sv)) ∧ Code ws ∧ ∀ (zs : List Wd) (E : Tb) (P : List Wd) (h : Wd → Nat) (a : Option Nat) (b : Option (Wd × Wd)), zs.Perm ws → Lst ws E → Hts ws (keysT E) P h → WaitIs ws P h a b →
  (a = none → ∀ H', Beh x H H' → X (.ref (He.ga K "NoWait")) none H') ∧ ∀ n, a = some n → ∀ o H', Beh x H H' → H o = none → H' o = some (.lst (zs.map sv)) → H' x = some (.ins CRd dx (rdF o n [])) → Q .non H'
theorem ok_Reader___init__ (B : Bi mg) (T_Reader : ReaderC K CRd) (Er : Errs K mg) (D : DefI K mg CRd "Reader" "Reader.__init__" s_Reader___init__) (c_checked : Cal P w K mg base CX0 "checked" 2 ["words"] sp_checked) (c_wait : Cal P w K mg base CX0 "wait" 7 ["words"] sp_wait) : CalI P w K mg base (L2N.CX P w) CRd "Reader" 8 ["self", "words"] (sp_Reader___init__ CRd K) := by
  have nd := sc_Reader___init__.nd
  obtain ⟨R_cl, R_n1, R_n2, R_n3, R_is⟩ := T_Reader
  refine D.cal sc_Reader___init__ (fun _ _ _ _ _ _ us hl => match us, hl with | [_, _], _ => rfl) (fun vs H Q E h => ?_) (fun f cdv A outer s H vs Q E hr h => ?_)
  · obtain ⟨_, _, rfl, _⟩ := h
    rfl
  · obtain ⟨x, p, rfl, dx, ws, hx, hp, c, q⟩ := h
    refine ⟨_, (pss_cons (ps_fld (pv 0) (pe_cal c_checked hr (pa_cons (pv 1) pa_nil)) rfl)
      (pss_cons (ps_fld (pv 0) (pe_cal c_wait hr (pa_cons (pe_fld (pv 0) rfl) pa_nil)) rfl)
      (pss_cons (ps_if (pt_cmpR op_isN (pe_fld (pv 0) rfl) pe_non (nomark _))
        (pss_one (ps_refuse Er (by decide +kernel) rfl (L2N.takes_of rfl rfl rfl rfl) rfl))
        pss_nil)
      (pss_one (ps_fld (pv 0) (pe_w [] rfl) rfl))))), ?_⟩
    try dsimp only [cxOf, Cx.nox, Cx.wish]
    fail "gi"
    intro zs pz
    fail "gi"
    rename_i o H1 s1 no ho
    have hx1 := s1 _ _ hx
    have cz := Code.perm pz c
    have ox : o ≠ x := ne_free no hx
    fail "gi"
    intro E0 P h a b tl ht wi
    have q := q zs E0 P h a b pz (tl.perm fun w => pz.mem_iff) (ht.perm pz) (wi.perm fun w => pz.mem_iff)
    have b1 : Beh x H (L2.upd H1 x (.ins CRd dx (putF "own" (.ref o) []))) := (Beh.same s1).upd
    have hx2 : L2.upd H1 x (.ins CRd dx (putF "own" (.ref o) [])) x = some (.ins CRd dx [("own", .ref o)]) := L2.upd_same
    have ho2 : L2.upd H1 x (.ins CRd dx (putF "own" (.ref o) [])) o = some (.lst (zs.map sv)) := by rw [upd_ne ox]; exact ho
    generalize L2.upd H1 x (.ins CRd dx (putF "own" (.ref o) [])) = H2 at *
    intro H3 s3
    have hx3 := s3 _ _ hx2
    have ho3 := s3 _ _ ho2
    cases a with
    | none =>
      fail "gi"
      exact q.1 rfl _ (b1.trans (.same s3)).upd
    | some n =>
      fail "gi"
      exact q.2 n rfl o _ (b1.trans (.same s3)).upd.upd no (by rw [upd_ne ox, upd_ne ox]; exact ho3) L2.upd_same
abbrev s_Reader_first_word : Stmt := inClass (top 38) 1
theorem sc_Reader_first_word : FnScope ["self", "kept", "word", "rest"] ["self", "kept"] (defScope s_Reader_first_word) := ⟨rfl, rfl, rfl, by decide +kernel, rfl, by decide +kernel, by decide +kernel⟩
def sp_Reader_first_word (CRd : Addr) (K : PySem.W.Frag) : Sp := fun vs H Q E => ∃ (c : Addr) (k : Wd), vs = [.ref c, sv k] ∧ ∃ (dx o : Addr) (n : Nat) (k0 : Wd) (ws : List Wd), H c = some (.ins CRd dx (rdF o n k0)) ∧ H o = some (.lst (ws.map sv)) ∧ Code ws ∧ k.length ≤ 1000 ∧
  (∀ w ∈ ws, Fst ws k w → Ret H Q (sv w)) ∧ ((∀ w ∈ ws, ¬ Fst ws k w) → ∀ H', Same H H' → E (.ref (He.ga K "NoReading")) none H')
theorem ok_Reader_first_word (B : Bi mg) (T_Reader : ReaderC K CRd) (Er : Errs K mg) (D : DefM K CRd "first_word" "Reader.first_word" s_Reader_first_word) (c_left_of : Cal P w K mg base CX0 "left_of" 1 ["text", "other"] sp_left_of) (c_begins : Cal P w K mg base CX0 "begins" 2 ["words", "text"] sp_law_begins) : CalM P w K mg base (L2N.CX P w) CRd "first_word" 4 ["self", "kept"] (sp_Reader_first_word CRd K) := by
  have nd := sc_Reader_first_word.nd
  obtain ⟨R_cl, R_n1, R_n2, R_n3, R_is⟩ := T_Reader
  refine D.cal sc_Reader_first_word (fun _ _ _ _ _ _ us hl => match us, hl with | [_, _], _ => rfl) (fun vs H Q E h => ?_) (fun f cdv A outer s H vs Q E hr h => ?_)
  · obtain ⟨_, _, rfl, _⟩ := h
    rfl
  · obtain ⟨c, k, rfl, dx, o, n, k0, ws, hc, ho, cw, kl, q1, q0⟩ := h
    refine ⟨_, (pss_cons (ps_for (passes_of rfl) rfl (pi_list (pe_fld (pv 0) rfl)) (pg_name (i := 2) nd rfl (.inl rfl))
        (pss_cons (ps_set (i := 3) nd rfl (.inl rfl) (pe_cal c_left_of hr (pa_cons (pv 1) (pa_cons (pv 2) pa_nil))))
        (pss_one (ps_if (PW.pt (pw_or (pt_cmpR op_notN (pe_cal c_left_of hr (pa_cons (pv 2) (pa_cons (pv 1) pa_nil))) pe_non (nomark _)) (pw_or1 (PW.pt (pw_and (pt_cmpR op_notN (pv 3) pe_non (nomark _)) (pw_and1 (pt_val (pe_cal c_begins hr (pa_cons (pe_fld (pv 0) rfl) (pa_cons (pv 3) pa_nil))))))))))
          (pss_one (ps_ret (pv 2)))
          pss_nil))))
      (pss_one (ps_refuse Er (by decide +kernel) rfl (L2N.takes_of rfl rfl rfl rfl) rfl))), ?_⟩
    try dsimp only [cxOf, Cx.nox, Cx.wish]
    unfold rdF at hc
    have kl2 : k.length ≤ 100000 := by omega
    fail "gi"
    refine for_wl (xs := ws) (j := 2) (fun pre σ' H' => ∃ (y z : Option V), σ' = [some (.ref c), some (sv k), y, z] ∧ Same H H' ∧ ∀ w ∈ pre, ¬ Fst ws k w) ⟨none, none, rfl, Same.refl _, (fun _ h => nomatch h)⟩ ?_ ?_ ?_
    · rintro pre σ' H' ⟨y, z, rfl, b1, b2⟩
      exact SqL.of (b1 _ _ ho)
    · rintro pre w' post σ' H' ex ⟨y, z, rfl, b1, b2⟩
      have hw : w' ∈ ws := by rw [ex]; exact List.mem_append_right _ List.mem_cons_self
      have wl : w'.length ≤ 100000 := by have := cw.ten hw; omega
      have hc1 := b1 _ _ hc
      have ho1 := b1 _ _ ho
      have stay : ¬ Fst ws k w' → ∀ w ∈ pre ++ [w'], ¬ Fst ws k w := fun n w h => (List.mem_append.mp h).elim (b2 w) fun z => by rw [List.mem_singleton.mp z]; exact n
      cases e1 : left w' k with
      | some r =>
        fail "gi"
        rw [e1]
        fail "gi"
        exact q1 w' hw (.inl ⟨r, left_eq.mp e1⟩) _ b1
      | none =>
        have n1 : ¬ ∃ x, w' = k ++ x := left_none.mp e1
        cases e2 : left k w' with
        | some r =>
          have rl := left_len e2
          fail "gi"
          rw [e1]
          fail "gi"
          rw [e2]
          fail "gi"
          intro b hb H2 s2
          have b12 := b1.trans s2
          fail "gi"
          refine itb (fun e => ?_) fun e => ?_
          · fail "gi"
            exact q1 w' hw (.inr ⟨r, left_eq.mp e2, hb.mp e⟩) _ b12
          · fail "gi"
            exact stay fun f => f.elim n1 fun ⟨x, ex, g⟩ => by
              obtain rfl : r = x := Option.some.inj (e2.symm.trans (left_eq.mpr ex))
              rw [hb.mpr g] at e; cases e
        | none =>
          have n2 : ¬ ∃ x, k = w' ++ x := left_none.mp e2
          fail "gi"
          rw [e1]
          fail "gi"
          rw [e2]
          fail "gi"
          exact stay fun f => f.elim n1 fun ⟨x, e, _⟩ => n2 ⟨x, e⟩
    · rintro σ' H' ⟨y, z, rfl, b1, b2⟩
      exact q0 b2 _ b1
abbrev s_Reader_put : Stmt := inClass (top 38) 2
theorem sc_Reader_put : FnScope ["self", "sign", "kept", "told", "word"] ["self", "sign"] (defScope s_Reader_put) := ⟨rfl, rfl, rfl, by decide +kernel, rfl, by decide +kernel, by decide +kernel⟩
def sp_Reader_put (CRd : Addr) (K : PySem.W.Frag) : Sp := fun vs H Q E => ∃ (c : Addr) (v : V), vs = [.ref c, v] ∧ ∃ (dx o : Addr) (n : Nat) (k : Wd) (ws : List Wd), H c = some (.ins CRd dx (rdF o n k)) ∧ H o = some (.lst (ws.map sv)) ∧ Code ws ∧ k.length ≤ 900 ∧ ThingAt H v ∧
  (signV v = false → E (.ref (He.ga K "BadSign")) none H) ∧ ∀ x, v = sv [x] → x ∈ ABC → ∀ r, Tkn ws n (k ++ [x]) r →
    (r = none → ∀ H', Same H H' → E (.ref (He.ga K "NoReading")) none H') ∧ ∀ L k', r = some (L, k') → ∀ p H', Beh c H H' → H p = none → H' p = some (.lst (L.map sv)) → H' c = some (.ins CRd dx (rdF o n k')) → Q (.ref p) H'
theorem ok_Reader_put (B : Bi mg) (T_Reader : ReaderC K CRd) (Er : Errs K mg) (D : DefM K CRd "put" "Reader.put" s_Reader_put) (c_is_sign : Cal P w K mg base CX0 "is_sign" 1 ["thing"] sp_is_sign) (c_Reader_first_word : CalM P w K mg base (L2N.CX P w) CRd "first_word" 4 ["self", "kept"] (sp_Reader_first_word CRd K)) : CalM P w K mg base (L2N.CX P w) CRd "put" 5 ["self", "sign"] (sp_Reader_put CRd K) := by
  have nd := sc_Reader_put.nd
  obtain ⟨R_cl, R_n1, R_n2, R_n3, R_is⟩ := T_Reader
  refine D.cal sc_Reader_put (fun _ _ _ _ _ _ us hl => match us, hl with | [_, _], _ => rfl) (fun vs H Q E h => ?_) (fun f cdv A outer s H vs Q E hr h => ?_)
  · obtain ⟨_, _, rfl, _⟩ := h
    rfl
  · obtain ⟨c, v, rfl, dx, o, n, k, ws, hc, ho, cw, kl, tv, q0, q1⟩ := h
    refine ⟨_, (pss_cons (ps_if (pt_not (pt_val (pe_cal c_is_sign hr (pa_cons (pv 1) pa_nil))))
        (pss_one (ps_refuse Er (by decide +kernel) rfl (L2N.takes_of rfl rfl rfl rfl) rfl))
        pss_nil)
      (pss_cons (ps_set (i := 2) nd rfl (.inl rfl) (pe_op op_addw (pe_fld (pv 0) rfl) (pv 1)))
      (pss_cons (ps_set (i := 3) nd rfl (.inl rfl) (pe_lst pa_nil))
      (pss_cons (ps_while (passes_of rfl) (pt_cmpR op_gt (pe_callB call_lenw (by rfl) B.len PySem.boot_len (pa_cons (pv 2) pa_nil)) (pe_fld (pv 0) rfl) (nomark _))
        (pss_cons (ps_set (i := 4) nd rfl (.inl rfl) (pe_calME c_Reader_first_word R_cl hr (L2N.passes_call (L2N.takes_of rfl rfl rfl rfl) (fun _ _ _ _ h => h)) (pv 0) (pa_cons (pv 2) pa_nil)))
        (pss_cons (ps_if (pt_cmpR op_gt (pe_callB call_lenw (by rfl) B.len PySem.boot_len (pa_cons (pv 4) pa_nil)) (pe_callB call_lenw (by rfl) B.len PySem.boot_len (pa_cons (pv 2) pa_nil)) (nomark _))
          (pss_one ps_break)
          pss_nil)
        (pss_cons (ps_expr (pe_bm PySem.F.plainAttrs_list PySem.F.slot_list_append PySem.F.type_list_append mt_app (pv 3) (pa_cons (pv 4) pa_nil)))
        (pss_one (ps_set (i := 2) nd rfl (.inl rfl) (pe_slice (r := rSlW) sl_w (pv 2) (po_some (pe_callB call_lenw (by rfl) B.len PySem.boot_len (pa_cons (pv 4) pa_nil))) po_none)))))))
      (pss_cons (ps_fld (pv 0) (pv 2) rfl)
      (pss_one (ps_ret (pv 3)))))))), ?_⟩
    try dsimp only [cxOf, Cx.nox, Cx.wish]
    unfold rdF at hc
    fail "gi"
    refine itnb (fun e => q0 e) fun e => ?_
    obtain ⟨x, rfl, hx⟩ := signV_ex e
    have lk : k.length + ([x] : Wd).length ≤ 100000 := by show _ + 1 ≤ _; omega
    have q1 := q1 x rfl hx
    fail "gi"
    rename_i pl npl
    have plc : pl ≠ c := ne_free npl hc
    have fin : ∀ (L1 : List Wd) (k1 : Wd) (H2 : Hp), Tkn ws n (k ++ [x]) (some (L1, k1)) → Same H H2 → H2 pl = some (.lst (L1.map sv)) → Q (.ref pl) (L2.upd H2 c (.ins CRd dx (rdF o n k1))) := fun L1 k1 H2 ht s h =>
      (q1 _ ht).2 L1 k1 rfl pl _ (Beh.same s).upd npl (by rw [upd_ne plc]; exact h) L2.upd_same
    refine ⟨fun m σ' H' => ∃ (k1 : Wd) (L : List Wd) (y : Option V), σ' = [some (.ref c), some (sv [x]), some (sv k1), some (.ref pl), y] ∧ m = k1.length ∧ Same H H' ∧ H' pl = some (.lst (L.map sv)) ∧ k1.length + L.length ≤ k.length + 1 ∧ ∀ r, Tkn ws n k1 r → Tkn ws n (k ++ [x]) (r.map fun p => (L ++ p.1, p.2)),
      ⟨_, k ++ [x], [], none, rfl, rfl, new npl, L2.upd_same, by rw [List.length_append]; exact Nat.le_refl _, fun r h => by cases r <;> exact h⟩, ?_⟩
    rintro m σ' H' ⟨k1, L, y, rfl, rfl, b1, b2, b3, b4⟩
    have hc1 := b1 _ _ hc
    have ho1 := b1 _ _ ho
    have k1l : k1.length ≤ 100000 := by omega
    have k1m : k1.length ≤ 1000 := by omega
    have cpl : c ≠ pl := (ne_free npl hc).symm
    fail "gi"
    refine itd (fun lt => ?_) fun nlt => ?_
    · have lt' : n < k1.length := by omega
      refine ⟨fun σ' H' => ∃ m', m' < k1.length ∧ ∃ (k1 : Wd) (L : List Wd) (y : Option V), σ' = [some (.ref c), some (sv [x]), some (sv k1), some (.ref pl), y] ∧ m' = k1.length ∧ Same H H' ∧ H' pl = some (.lst (L.map sv)) ∧ k1.length + L.length ≤ k.length + 1 ∧ ∀ r, Tkn ws n k1 r → Tkn ws n (k ++ [x]) (r.map fun p => (L ++ p.1, p.2)), fun _ _ h => h, ?_⟩
      fail "gi"
      refine ⟨dx, o, n, k, ws, hc1, ho1, cw, k1m, fun w hw f H2 s2 => ?_, fun no H2 s2 => ?_⟩
      · have b12 := b1.trans s2
        have wl : w.length ≤ 100000 := by have := cw.ten hw; omega
        have hpl2 := s2 _ _ b2
        have hc2 := s2 _ _ hc1
        have Ll : (L.map sv).length < 16000000 := by rw [List.length_map]; omega
        fail "gi"
        refine itd (fun lw => ?_) fun nlw => ?_
        · fail "gi"
          have := fin (L ++ []) k1 H2 (b4 _ (.wait lt' hw f (by omega))) b12 (by rw [List.append_nil]; exact hpl2)
          exact this
        · have w1 := (cw.wd w hw).1
          fail "gi"
          rw [cutW_from]
          refine ⟨(k1.drop w.length).length, by rw [List.length_drop]; omega, k1.drop w.length, L ++ [w], _, rfl, rfl, mutd b12 npl, by rw [L2.upd_same, List.map_append]; rfl, by rw [List.length_drop, List.length_append, List.length_singleton]; omega, fun r hr => ?_⟩
          cases r with
          | none => exact b4 _ (.goNo lt' hw f (by omega) hr)
          | some p =>
            have := b4 _ (.go lt' hw f (by omega) hr)
            show Tkn ws n (k ++ [x]) (some (L ++ [w] ++ p.1, p.2))
            rw [List.append_assoc]
            exact this
      · exact (q1 _ (b4 _ (.no lt' no))).1 rfl _ (b1.trans s2)
    · fail "gi"
      have := fin (L ++ []) k1 H' (b4 _ (.stop (by omega))) b1 (by rw [List.append_nil]; exact b2)
      exact this
abbrev s_Reader_end : Stmt := inClass (top 38) 3
theorem sc_Reader_end : FnScope ["self", "counts", "told"] ["self"] (defScope s_Reader_end) := ⟨rfl, rfl, rfl, by decide +kernel, rfl, by decide +kernel, by decide +kernel⟩
def sp_Reader_end (CRd : Addr) (K : PySem.W.Frag) : Sp := fun vs H Q E => ∃ c : Addr, vs = [.ref c] ∧ ∃ (dx o : Addr) (n : Nat) (k : Wd) (ws : List Wd), H c = some (.ins CRd dx (rdF o n k)) ∧ H o = some (.lst (ws.map sv)) ∧ Code ws ∧ k.length ≤ 1000 ∧
  ((∀ A, ¬ Parting ws k A) → ∀ H', Same H H' → E (.ref (He.ga K "NoReading")) none H') ∧ ∀ A, Parting ws k A → ∀ p H', Beh c H H' → H p = none → H' p = some (.lst (A.map sv)) → H' c = some (.ins CRd dx (rdF o n [])) → Q (.ref p) H'
theorem ok_Reader_end (B : Bi mg) (T_Reader : ReaderC K CRd) (Er : Errs K mg) (D : DefM K CRd "end" "Reader.end" s_Reader_end) (c_counts_of : Cal P w K mg base CX0 "counts_of" 2 ["words", "text"] sp_counts_of) (c_parted : Cal P w K mg base CX0 "parted" 2 ["words", "text", "counts", "number"] sp_parted) : CalM P w K mg base (L2N.CX P w) CRd "end" 4 ["self"] (sp_Reader_end CRd K) := by
  have nd := sc_Reader_end.nd
  obtain ⟨R_cl, R_n1, R_n2, R_n3, R_is⟩ := T_Reader
  refine D.cal sc_Reader_end (fun _ _ _ _ _ _ us hl => match us, hl with | [_], _ => rfl) (fun vs H Q E h => ?_) (fun f cdv A outer s H vs Q E hr h => ?_)
  · obtain ⟨_, rfl, _⟩ := h
    rfl
  · obtain ⟨c, rfl, dx, o, n, k, ws, hc, ho, cw, kl, q0, q1⟩ := h
    refine ⟨_, (pss_cons (ps_set (i := 1) nd rfl (.inl rfl) (pe_cal c_counts_of hr (pa_cons (pe_fld (pv 0) rfl) (pa_cons (pe_fld (pv 0) rfl) pa_nil))))
      (pss_cons (ps_if (pt_cmpR op_eqn (pe_ix (r := rIxLn K) ix_l (pv 1) pe_int (fun _ _ => rfl)) pe_int (nomark _))
        (pss_one (ps_refuse Er (by decide +kernel) rfl (L2N.takes_of rfl rfl rfl rfl) rfl))
        pss_nil)
      (pss_cons (ps_set (i := 2) nd rfl (.inl rfl) (pe_cal c_parted hr (pa_cons (pe_fld (pv 0) rfl) (pa_cons (pe_fld (pv 0) rfl) (pa_cons (pv 1) (pa_cons pe_int pa_nil))))))
      (pss_cons (ps_fld (pv 0) (pe_w [] rfl) rfl)
      (pss_one (ps_ret (pv 2))))))), ?_⟩
    try dsimp only [cxOf, Cx.nox, Cx.wish]
    unfold rdF at hc
    fail "gi"
    rename_i pc H1 s1 nc hpc
    have ne : ∀ w ∈ ws, w ≠ [] := fun w hw => List.length_pos_iff.mp (cw.wd w hw).1
    have e0 : ((cnt ws k).map V.int)[Int.toNat 0]? = some (.int (cat ws k 0)) := by
      rw [List.getElem?_map]
      unfold cat
      have : 0 < (cnt ws k).length := by unfold cnt; rw [tab_len]; omega
      rw [List.getD_eq_getElem?_getD]
      show Option.map V.int (cnt ws k)[0]? = _
      rw [List.getElem?_eq_getElem this]; rfl
    refine ⟨_, e0, ?_⟩
    have hc1 := s1 _ _ hc
    have ho1 := s1 _ _ ho
    fail "gi"
    refine itd (fun e => ?_) fun e => ?_
    · refine q0 (fun A hA => ?_) _ s1
      have := ways_one cw hA
      have e : ways ws k = 0 := e
      omega
    · have nn : 0 ≤ cat ws k 0 := cat_nn ne 0
      have lt : 0 < cat ws k 0 := by omega
      fail "gi"
      intro R hR
      fail "gi"
      rename_i p H2 s2 np hp
      have hc2 := s2 _ _ hc1
      have pc' : p ≠ c := ne_free np hc1
      fail "gi"
      exact q1 R ⟨hR.sub, by have := hR.flat; rwa [List.drop_zero] at this⟩ p _ (Beh.same (s1.trans s2)).upd (s1.free np) (by rw [upd_ne pc']; exact hp) L2.upd_same
abbrev s_Reader_many : Stmt := inClass (top 38) 4
theorem sc_Reader_many : FnScope ["self"] ["self"] (defScope s_Reader_many) := ⟨rfl, rfl, rfl, by decide +kernel, rfl, by decide +kernel, by decide +kernel⟩
def sp_Reader_many (CRd : Addr) : Sp := fun vs H Q _ => ∃ c : Addr, vs = [.ref c] ∧ ∃ (dx o : Addr) (n : Nat) (k : Wd), H c = some (.ins CRd dx (rdF o n k)) ∧ k.length ≤ 100000 ∧ Q (.int (k.length : Nat)) H
theorem ok_Reader_many (B : Bi mg) (T_Reader : ReaderC K CRd) (D : DefM K CRd "many" "Reader.many" s_Reader_many) : CalM P w K mg base CX0 CRd "many" 1 ["self"] (sp_Reader_many CRd) := by
  have nd := sc_Reader_many.nd
  obtain ⟨R_cl, R_n1, R_n2, R_n3, R_is⟩ := T_Reader
  refine D.cal sc_Reader_many (fun _ _ _ _ _ _ us hl => match us, hl with | [_], _ => rfl) (fun vs H Q E h => ?_) (fun f cdv A outer s H vs Q E hr h => ?_)
  · obtain ⟨_, rfl, _⟩ := h
    rfl
  · obtain ⟨c, rfl, dx, o, n, k, hc, kl, q⟩ := h
    refine ⟨_, PSs.nox (pss_one (ps_ret (pe_callB call_lenw (by rfl) B.len PySem.boot_len (pa_cons (pe_fld (pv 0) rfl) pa_nil)))), ?_⟩
    try dsimp only [cxOf, Cx.nox, Cx.wish]
    unfold rdF at hc
    fail "gi"
    exact q

/-! ### the law's own side of a reader -/
def toldW : Wd := [116, 111, 108, 100]
def refusedW : Wd := [114, 101, 102, 117, 115, 101, 100]
/-- the law's own word for a refusal -/
def labelO : Option Str → Wd
  | none => []
  | some e => ((labelOf e).head?).getD []
theorem label_one : ∀ e ∈ errNames, labelOf e = [labelO (some e)] := by decide +kernel
theorem lab_wait : labelOf "NoWait" = [[119, 97, 105, 116]] := by decide +kernel
theorem lab_sign : labelOf "BadSign" = [[115, 105, 103, 110]] := by decide +kernel
theorem lab_reading : labelOf "NoReading" = [[114, 101, 97, 100, 105, 110, 103]] := by decide +kernel
theorem ThingAt.str {H : Hp} {a : Wd} (h : a.length ≤ 100000) : ThingAt H (sv a) := ⟨⟨_, .str _⟩, fun b e => by rw [← sv_inj.mp e]; exact h⟩
theorem ThingAt.non {H : Hp} : ThingAt H .non := ⟨⟨_, .non⟩, fun b e => nomatch e⟩
theorem ThingAt.int {H : Hp} {i : Int} : ThingAt H (.int i) := ⟨⟨_, .int _⟩, fun b e => nomatch e⟩
theorem ThingAt.bl {H : Hp} {b : Bool} : ThingAt H (.bl b) := ⟨⟨_, .bl _⟩, fun b e => nomatch e⟩
theorem ThingAt.lst {H : Hp} {p : Addr} {xs : List V} (h : H p = some (.lst xs)) : ThingAt H (.ref p) := ⟨⟨_, .lst h⟩, fun b e => nomatch e⟩
theorem ThingAt.tup {H : Hp} {p : Addr} {xs : List V} (h : H p = some (.tup xs)) : ThingAt H (.ref p) := ⟨⟨_, .tup h⟩, fun b e => nomatch e⟩
theorem ac {P : V → Prop} {v : V} {vs : List V} (h : P v) (t : ∀ x ∈ vs, P x) : ∀ x ∈ v :: vs, P x := fun x hx => (List.mem_cons.mp hx).elim (fun e => e ▸ h) (t x)
theorem an {P : V → Prop} : ∀ x ∈ ([] : List V), P x := fun _ h => nomatch h
theorem take_pre {w k : Wd} : w.take k.length = k ↔ ∃ x, w = k ++ x := by
  constructor
  · intro h
    exact ⟨w.drop k.length, by conv => lhs; rw [← List.take_append_drop k.length w, h]⟩
  · rintro ⟨x, rfl⟩
    exact List.take_left
abbrev s_law_firsts : Stmt := top 54
theorem sc_law_firsts : FnScope ["_law_words_here", "_law_kept", "_law_some", "_law_word_here"] ["_law_words_here", "_law_kept"] (defScope s_law_firsts) := ⟨rfl, rfl, rfl, by decide +kernel, rfl, by decide +kernel, by decide +kernel⟩
def sp_law_firsts : Sp := fun vs H Q _ => ∃ (p : Addr) (k : Wd), vs = [.ref p, sv k] ∧ ∃ ws : List Wd, H p = some (.lst (ws.map sv)) ∧ Code ws ∧ k.length ≤ 1000 ∧ ∀ zs : List Wd, zs.Nodup → (∀ w, w ∈ zs ↔ w ∈ ws ∧ Fst ws k w) → RetL H Q (zs.map sv)
theorem ok_law_firsts (B : Bi mg) (D : Def K mg "_law_firsts" s_law_firsts) (c_law_begins : Cal P w K mg base CX0 "_law_begins" 2 ["_law_words_here", "_law_text_here"] sp_law_begins) : Cal P w K mg base CX0 "_law_firsts" 3 ["_law_words_here", "_law_kept"] sp_law_firsts := by
  have nd := sc_law_firsts.nd
  refine D.cal sc_law_firsts (fun _ _ _ _ _ _ us hl => match us, hl with | [_, _], _ => rfl) (fun vs H Q E h => ?_) (fun f cdv A outer s H vs Q E hr h => ?_)
  · obtain ⟨_, _, rfl, _⟩ := h
    rfl
  · obtain ⟨p, k, rfl, ws, hp, cw, kl, q⟩ := h
    refine ⟨_, PSs.nox (pss_cons (ps_setLc (i := 2) (own := [("_law_word_here", 3)]) (g := gName 3) rfl nd rfl rfl (sw_true rfl rfl rfl (by decide +kernel)) (pi_list (pv 0)) (blkOk_by (own := [("_law_word_here", 3)]) (N := ["_law_words_here", "_law_kept", "_law_some", "_law_word_here"]) (sc := defScope s_law_firsts) (by decide +kernel)) (fun _ _ _ _ _ => (pg_name (i := 3) nd rfl (.inl rfl))) (fun _ _ _ _ _ => (pts_one (pt_cmpR op_eqw (pe_slice (r := rSlW) sl_w (pv 3) po_none (po_some (pe_callB call_lenw (by rfl) B.len PySem.boot_len (pa_cons (pv 1) pa_nil)))) (pv 1) (nomark _)))) (fun _ _ _ _ _ => (pv 3)))
      (pss_cons (ps_for PassesOwn.never rfl (pi_list (pv 0)) (pg_name (i := 3) nd rfl (.inl rfl))
        (pss_one (ps_if (PW.pt (pw_and (pt_cmpR (r := rInW K true) op_niw (pv 3) (pv 2) (by rfl)) (pw_and (pt_cmpR op_eqw (pe_slice (r := rSlW) sl_w (pv 1) po_none (po_some (pe_callB call_lenw (by rfl) B.len PySem.boot_len (pa_cons (pv 3) pa_nil)))) (pv 3) (nomark _)) (pw_and1 (pt_val (pe_cal c_law_begins hr (pa_cons (pv 0) (pa_cons (pe_slice (r := rSlW) sl_w (pv 1) (po_some (pe_callB call_lenw (by rfl) B.len PySem.boot_len (pa_cons (pv 3) pa_nil))) po_none) pa_nil))))))))
          (pss_one (ps_expr (pe_bm PySem.F.plainAttrs_list PySem.F.slot_list_append PySem.F.type_list_append mt_app (pv 2) (pa_cons (pv 3) pa_nil))))
          pss_nil)))
      (pss_one (ps_ret (pv 2))))), ?_⟩
    try dsimp only [cxOf, Cx.nox, Cx.wish]
    fail "gi"
    rename_i D hD
    refine lc_w (xs := ws) (j := 3) (fun w => decide (w.take k.length = k)) sv hD (by fail "seq") (by have := cw.le; omega) (fun x hx H1 e1 Q1 q1 => ?_) (fun x hx hc H1 e1 Q1 q1 => ?_) (fun H1 e1 h1 => ?_)
    · have xl : x.length ≤ 100000 := by have := cw.ten hx; omega
      have kl' : k.length ≤ 100000 := by omega
      fail "gi"
      rw [cutW_to]
      exact q1 _ (Same.refl _)
    · fail "gi"
      exact q1 _ (Same.refl _)
    · have hp1 := e1 _ _ hp
      have pD : p ≠ D := (ne_free hD hp).symm
      have lw := cw.le
      fail "gi"
      refine for_wl (xs := ws) (j := 3) (fun pre σ' H' => ∃ (zs : List Wd) (y : Option V), σ' = [some (.ref p), some (sv k), some (.ref D), y] ∧ Same H H' ∧ H' D = some (.lst (zs.map sv)) ∧ zs.Nodup ∧ ∀ w, w ∈ zs ↔ w ∈ ws ∧ ((∃ x, w = k ++ x) ∨ (w ∈ pre ∧ Fst ws k w)))
        ⟨ws.filter (fun w => decide (w.take k.length = k)), none, rfl, e1, h1, cw.nd.filter _, fun w => by
          rw [List.mem_filter, decide_eq_true_iff, take_pre]
          exact ⟨fun ⟨a, b⟩ => ⟨a, .inl b⟩, fun ⟨a, b⟩ => ⟨a, b.elim id fun z => nomatch z.1⟩⟩⟩ ?_ ?_ ?_
      · rintro pre σ' H' ⟨zs, y, rfl, b1, b2, b3, b4⟩
        exact SqL.of (b1 _ _ hp)
      · rintro pre x post σ' H' ex ⟨zs, y, rfl, b1, b2, b3, b4⟩
        have hx : x ∈ ws := by rw [ex]; exact List.mem_append_right _ List.mem_cons_self
        have xl : x.length ≤ 100000 := by have := cw.ten hx; omega
        have kl' : k.length ≤ 100000 := by omega
        have hp2 := b1 _ _ hp
        have zl : zs.length ≤ 12 := Nat.le_trans (nd_len b3 fun w hw => ((b4 w).mp hw).1) lw
        have zl' : (zs.map sv).length < 16000000 := by rw [List.length_map]; omega
        have keep : ((∃ z, x = k ++ z) ∨ ¬ Fst ws k x ∨ x ∈ zs) → ∀ w, w ∈ zs ↔ w ∈ ws ∧ ((∃ x, w = k ++ x) ∨ (w ∈ pre ++ [x] ∧ Fst ws k w)) := fun h w => by
          rw [b4]
          refine ⟨fun ⟨a, b⟩ => ⟨a, b.imp id fun z => ⟨List.mem_append_left _ z.1, z.2⟩⟩, fun ⟨a, b⟩ => ⟨a, ?_⟩⟩
          rcases b with b | ⟨b, g⟩
          · exact .inl b
          · rcases List.mem_append.mp b with b | b
            · exact .inr ⟨b, g⟩
            · obtain rfl := List.mem_singleton.mp b
              rcases h with h | h | h
              · exact .inl h
              · exact absurd g h
              · exact ((b4 w).mp h).2
        fail "gi"
        refine (show if (!decide (x ∈ zs)) = true then _ else _ from ?_)
        refine itn (fun nm => ?_) fun m => ?_
        · fail "gi"
          rw [cutW_to]
          refine itd (fun e2 => ?_) fun e2 => ?_
          · have dl : (k.drop x.length).length ≤ 1000 := by rw [List.length_drop]; omega
            have kx : k = x ++ k.drop x.length := by
              have := List.take_append_drop x.length k
              rw [e2] at this
              exact this.symm
            fail "gi"
            rw [cutW_from]
            fail "gi"
            intro b hb H2 s2
            have b12 := b1.trans s2
            have hD2 := s2 _ _ b2
            fail "gi"
            refine itb (fun e3 => ?_) fun e3 => ?_
            · fail "gi"
              have g : Fst ws k x := .inr ⟨_, kx, hb.mp e3⟩
              refine ⟨zs ++ [x], _, rfl, mutd b12 hD, by rw [L2.upd_same, List.map_append]; rfl, List.nodup_append.mpr ⟨b3, by simp, fun a ha b hb => by rw [List.mem_singleton.mp hb]; exact fun z => nm (z ▸ ha)⟩, fun w => ?_⟩
              rw [List.mem_append, b4, List.mem_singleton]
              constructor
              · rintro (⟨a, b⟩ | rfl)
                · exact ⟨a, b.imp id fun z => ⟨List.mem_append_left _ z.1, z.2⟩⟩
                · exact ⟨hx, .inr ⟨List.mem_append_right _ List.mem_cons_self, g⟩⟩
              · rintro ⟨a, b | ⟨b, c⟩⟩
                · exact .inl ⟨a, .inl b⟩
                · rcases List.mem_append.mp b with b | b
                  · exact .inl ⟨a, .inr ⟨b, c⟩⟩
                  · exact .inr (List.mem_singleton.mp b)
            · have ng : ¬ Fst ws k x := fun g => by
                rcases g with ⟨z, ez⟩ | ⟨z, ez, g⟩
                · exact nm ((b4 x).mpr ⟨hx, .inl ⟨z, ez⟩⟩)
                · have : k.drop x.length = z := by rw [ez, List.drop_left]
                  rw [this] at hb
                  rw [hb.mpr g] at e3; cases e3
              fail "gi"
              exact ⟨zs, _, rfl, b12, hD2, b3, keep (.inr (.inl ng))⟩
          · have ng : ¬ Fst ws k x := fun g => by
              rcases g with ⟨z, ez⟩ | ⟨z, ez, g⟩
              · exact nm ((b4 x).mpr ⟨hx, .inl ⟨z, ez⟩⟩)
              · exact e2 (by rw [ez, List.take_left])
            fail "gi"
            exact ⟨zs, _, rfl, b1, b2, b3, keep (.inr (.inl ng))⟩
        · fail "gi"
          exact ⟨zs, _, rfl, b1, b2, b3, keep (.inr (.inr m))⟩
      · rintro σ' H' ⟨zs, y, rfl, b1, b2, b3, b4⟩
        fail "gi"
        exact q zs b3 (fun w => (b4 w).trans ⟨fun ⟨a, b⟩ => ⟨a, b.elim .inl And.right⟩, fun ⟨a, b⟩ => ⟨a, .inr ⟨a, b⟩⟩⟩) D _ b1 hD b2
abbrev s_law_taken : Stmt := top 55
theorem sc_law_taken : FnScope ["_law_words_here", "_law_most", "_law_kept", "_law_told", "_law_some"] ["_law_words_here", "_law_most", "_law_kept"] (defScope s_law_taken) := ⟨rfl, rfl, rfl, by decide +kernel, rfl, by decide +kernel, by decide +kernel⟩
def sp_law_taken : Sp := fun vs H Q _ => ∃ (p : Addr) (n : Nat) (k : Wd), vs = [.ref p, .int n, sv k] ∧ ∃ ws : List Wd, H p = some (.lst (ws.map sv)) ∧ Code ws ∧ k.length ≤ 1000 ∧ Waits ws n ∧ ∀ r, Tkn ws n k r →
  (∀ L k', r = some (L, k') → ∀ l t H', Same H H' → H l = none → H t = none → H' l = some (.lst (L.map sv)) → H' t = some (.tup [.ref l, sv k']) → Q (.ref t) H') ∧
  (r = none → ∀ l t H', Same H H' → H l = none → H t = none → H' l = some (.lst []) → H' t = some (.tup [.ref l, .non]) → Q (.ref t) H')
theorem ok_law_taken (B : Bi mg) (D : Def K mg "_law_taken" s_law_taken) (c_law_firsts : Cal P w K mg base CX0 "_law_firsts" 3 ["_law_words_here", "_law_kept"] sp_law_firsts) : Cal P w K mg base CX0 "_law_taken" 4 ["_law_words_here", "_law_most", "_law_kept"] sp_law_taken := by
  have nd := sc_law_taken.nd
  refine D.cal sc_law_taken (fun _ _ _ _ _ _ us hl => match us, hl with | [_, _, _], _ => rfl) (fun vs H Q E h => ?_) (fun f cdv A outer s H vs Q E hr h => ?_)
  · obtain ⟨_, _, _, rfl, _⟩ := h
    rfl
  · obtain ⟨p, n, k, rfl, ws, hp, cw, kl, wt, q⟩ := h
    refine ⟨_, PSs.nox (pss_cons (ps_set (i := 3) nd rfl (.inl rfl) (pe_lst pa_nil))
      (pss_cons (ps_while PassesOwn.never (pt_cmpR op_gt (pe_callB call_lenw (by rfl) B.len PySem.boot_len (pa_cons (pv 2) pa_nil)) (pv 1) (nomark _))
        (pss_cons (ps_set (i := 4) nd rfl (.inl rfl) (pe_cal c_law_firsts hr (pa_cons (pv 0) (pa_cons (pv 2) pa_nil))))
        (pss_cons (ps_if (pt_cmpR op_nen (pe_callB (r := rLenL K) call_lenl (by rfl) B.len PySem.boot_len (pa_cons (pv 4) pa_nil)) pe_int (nomark _))
          (pss_one (ps_ret (pe_tup (pa_cons (pv 4) (pa_cons pe_non pa_nil)))))
          pss_nil)
        (pss_cons (ps_if (pt_cmpR op_gt (pe_callB call_lenw (by rfl) B.len PySem.boot_len (pa_cons (pe_ix (r := rIxLn K) ix_l (pv 4) pe_int (fun _ _ => rfl)) pa_nil)) (pe_callB call_lenw (by rfl) B.len PySem.boot_len (pa_cons (pv 2) pa_nil)) (nomark _))
          (pss_one (ps_ret (pe_tup (pa_cons (pv 3) (pa_cons (pv 2) pa_nil)))))
          pss_nil)
        (pss_cons (ps_expr (pe_bm PySem.F.plainAttrs_list PySem.F.slot_list_append PySem.F.type_list_append mt_app (pv 3) (pa_cons (pe_ix (r := rIxLn K) ix_l (pv 4) pe_int (fun _ _ => rfl)) pa_nil)))
        (pss_one (ps_set (i := 2) nd rfl (.inl rfl) (pe_slice (r := rSlW) sl_w (pv 2) (po_some (pe_callB call_lenw (by rfl) B.len PySem.boot_len (pa_cons (pe_ix (r := rIxLn K) ix_l (pv 4) pe_int (fun _ _ => rfl)) pa_nil))) po_none))))))))
      (pss_one (ps_ret (pe_tup (pa_cons (pv 3) (pa_cons (pv 2) pa_nil))))))), ?_⟩
    try dsimp only [cxOf, Cx.nox, Cx.wish]
    fail "gi"
    rename_i pl npl
    refine ⟨fun m σ' H' => ∃ (k1 : Wd) (L : List Wd) (y : Option V), σ' = [some (.ref p), some (.int (n : Nat)), some (sv k1), some (.ref pl), y] ∧ m = k1.length ∧ Same H H' ∧ H' pl = some (.lst (L.map sv)) ∧ k1.length + L.length ≤ k.length ∧ ∀ r, Tkn ws n k1 r → Tkn ws n k (r.map fun p => (L ++ p.1, p.2)),
      ⟨_, k, [], none, rfl, rfl, new npl, L2.upd_same, Nat.le_refl _, fun r h => by cases r <;> exact h⟩, ?_⟩
    rintro m σ' H' ⟨k1, L, y, rfl, rfl, b1, b2, b3, b4⟩
    have k1l : k1.length ≤ 100000 := by omega
    have k1m : k1.length ≤ 1000 := by omega
    have Ll : (L.map sv).length < 16000000 := by rw [List.length_map]; omega
    have hp1 := b1 _ _ hp
    have ppl : p ≠ pl := (ne_free npl hp).symm
    fail "gi"
    refine itd (fun lt => ?_) fun nlt => ?_
    · have lt' : n < k1.length := by omega
      refine ⟨fun σ' H' => ∃ m', m' < k1.length ∧ ∃ (k1 : Wd) (L : List Wd) (y : Option V), σ' = [some (.ref p), some (.int (n : Nat)), some (sv k1), some (.ref pl), y] ∧ m' = k1.length ∧ Same H H' ∧ H' pl = some (.lst (L.map sv)) ∧ k1.length + L.length ≤ k.length ∧ ∀ r, Tkn ws n k1 r → Tkn ws n k (r.map fun p => (L ++ p.1, p.2)), fun _ _ h => h, ?_⟩
      fail "gi"
      intro zs ndz hz
      fail "gi"
      rename_i p4 H2 s2 np4 hp4
      have b12 := b1.trans s2
      have hpl2 := s2 _ _ b2
      have plp4 : p4 ≠ pl := ne_free np4 b2
      match zs, ndz, hz, hp4 with
      | [], ndz, hz, hp4 =>
        fail "gi"
        rename_i t nt
        exact (q _ (b4 _ (.no lt' fun w hw f => nomatch (hz w).mpr ⟨hw, f⟩))).2 rfl p4 t _ (b12.trans (new nt)) (b1.free np4) (b12.free nt) (new nt _ _ hp4) L2.upd_same
      | w :: o :: r, ndz, hz, hp4 =>
        exfalso
        have h1 := (hz w).mp List.mem_cons_self
        have h2 := (hz o).mp (List.mem_cons_of_mem _ List.mem_cons_self)
        have := h1.2.uniq wt lt' h1.1 h2.1 h2.2
        rw [this] at ndz
        exact (List.nodup_cons.mp ndz).1 List.mem_cons_self
      | [w], ndz, hz, hp4 =>
        obtain ⟨hw, f⟩ := (hz w).mp List.mem_cons_self
        have wl : w.length ≤ 100000 := by have := cw.ten hw; omega
        have w1 := (cw.wd w hw).1
        have hp4' : H2 p4 = some (.lst [sv w]) := hp4
        fail "gi"
        refine itd (fun lw => ?_) fun nlw => ?_
        · fail "gi"
          rename_i t nt
          have := (q _ (b4 _ (.wait lt' hw f (by omega)))).1 (L ++ []) k1 rfl pl t _ (b12.trans (new nt)) npl (b12.free nt) (new nt _ _ (by rw [List.append_nil]; exact hpl2)) L2.upd_same
          exact this
        · fail "gi"
          rw [cutW_from]
          refine ⟨(k1.drop w.length).length, by rw [List.length_drop]; omega, k1.drop w.length, L ++ [w], _, rfl, rfl, mutd b12 npl, by rw [L2.upd_same, List.map_append]; rfl, by rw [List.length_drop, List.length_append, List.length_singleton]; omega, fun r hr => ?_⟩
          cases r with
          | none => exact b4 _ (.goNo lt' hw f (by omega) hr)
          | some pr =>
            have := b4 _ (.go lt' hw f (by omega) hr)
            show Tkn ws n k (some (L ++ [w] ++ pr.1, pr.2))
            rw [List.append_assoc]
            exact this
    · fail "gi"
      rename_i t nt
      have := (q _ (b4 _ (.stop (by omega)))).1 (L ++ []) k1 rfl pl t _ (b1.trans (new nt)) npl (b1.free nt) (new nt _ _ (by rw [List.append_nil]; exact b2)) L2.upd_same
      exact this
abbrev s_law_odd : Stmt := top 58
theorem sc_law_odd : FnScope ["_law_cell"] ["_law_cell"] (defScope s_law_odd) := ⟨rfl, rfl, rfl, by decide +kernel, rfl, by decide +kernel, by decide +kernel⟩
def sp_law_odd : Sp := fun vs H Q _ => ∃ c : Int, vs = [.int c] ∧ ∀ v H', Same H H' → ThingAt H' v → signV v = false → Q v H'
theorem ok_law_odd (B : Bi mg) (D : Def K mg "_law_odd" s_law_odd) : Cal P w K mg base CX0 "_law_odd" 1 ["_law_cell"] sp_law_odd := by
  have nd := sc_law_odd.nd
  refine D.cal sc_law_odd (fun _ _ _ _ _ _ us hl => match us, hl with | [_], _ => rfl) (fun vs H Q E h => ?_) (fun f cdv A outer s H vs Q E hr h => ?_)
  · obtain ⟨_, rfl, _⟩ := h
    rfl
  · obtain ⟨c, rfl, q⟩ := h
    refine ⟨_, PSs.nox (pss_one (ps_ret (pe_ix (r := rIxLn K) ix_l (pe_lst (pa_cons (pe_w [65] rfl) (pa_cons (pe_w [97, 98] rfl) (pa_cons (pe_w [] rfl) (pa_cons pe_int (pa_cons pe_non (pa_cons (pe_lst (pa_cons (pe_w [97] rfl) pa_nil)) (pa_cons pe_bl (pa_cons (pe_w [32] rfl) (pa_cons (pe_w [123] rfl) (pa_cons (pe_tup (pa_cons (pe_w [97] rfl) pa_nil)) pa_nil))))))))))) (pe_op op_mod (pv 0) pe_int) (fun _ _ => rfl)))), ?_⟩
    try dsimp only [cxOf, Cx.nox, Cx.wish]
    fail "gi"
    rename_i p3 n3 p2 n2 p1 n1
    obtain ⟨v, hv, ev⟩ := pickm [sv [65], sv [97, 98], sv [], .int 5, .non, .ref p3, .bl true, sv [32], sv [123], .ref p2] c (fun z => nomatch z)
    refine ⟨v, ev, q v _ (by fail "same") ?_ ?_⟩
    · exact ac (P := fun v => ThingAt _ v) (.str (by decide)) (ac (.str (by decide)) (ac (.str (by decide)) (ac .int (ac .non (ac (.lst (by fail "look")) (ac .bl (ac (.str (by decide)) (ac (.str (by decide)) (ac (.tup (by fail "look")) an))))))))) v hv
    · exact ac (P := fun v => signV v = false) (by decide +kernel) (ac (by decide +kernel) (ac (by decide +kernel) (ac rfl (ac rfl (ac rfl (ac rfl (ac (by decide +kernel) (ac (by decide +kernel) (ac rfl an))))))))) v hv
abbrev s_law_said : Stmt := top 56
theorem sc_law_said : FnScope ["_law_reader", "_law_sign", "_law_way", "_law_e"] ["_law_reader", "_law_sign", "_law_way"] (defScope s_law_said) := ⟨rfl, rfl, rfl, by decide +kernel, rfl, by decide +kernel, by decide +kernel⟩
def sp_law_said (CRd : Addr) : Sp := fun vs H Q _ => ∃ (c : Addr) (v : V) (way : Int), vs = [.ref c, v, .int way] ∧ ∃ (dx o : Addr) (n : Nat) (k : Wd) (ws : List Wd), H c = some (.ins CRd dx (rdF o n k)) ∧ H o = some (.lst (ws.map sv)) ∧ Code ws ∧ k.length ≤ 900 ∧ ThingAt H v ∧
  (way = 0 → signV v = false → ∀ p t H', Same H H' → H p = none → H t = none → H' p = some (.lst [sv [115, 105, 103, 110]]) → H' t = some (.tup [sv refusedW, .ref p]) → Q (.ref t) H') ∧
  (way = 0 → ∀ x, v = sv [x] → x ∈ ABC → ∀ r, Tkn ws n (k ++ [x]) r →
    (r = none → ∀ p t H', Same H H' → H p = none → H t = none → H' p = some (.lst [sv [114, 101, 97, 100, 105, 110, 103]]) → H' t = some (.tup [sv refusedW, .ref p]) → Q (.ref t) H') ∧
    ∀ L k', r = some (L, k') → ∀ p t H', Beh c H H' → H p = none → H t = none → H' p = some (.lst (L.map sv)) → H' t = some (.tup [sv toldW, .ref p]) → H' c = some (.ins CRd dx (rdF o n k')) → Q (.ref t) H') ∧
  (way ≠ 0 → ((∀ A, ¬ Parting ws k A) → ∀ p t H', Same H H' → H p = none → H t = none → H' p = some (.lst [sv [114, 101, 97, 100, 105, 110, 103]]) → H' t = some (.tup [sv refusedW, .ref p]) → Q (.ref t) H') ∧
    ∀ A, Parting ws k A → ∀ p t H', Beh c H H' → H p = none → H t = none → H' p = some (.lst (A.map sv)) → H' t = some (.tup [sv toldW, .ref p]) → H' c = some (.ins CRd dx (rdF o n [])) → Q (.ref t) H')
theorem ok_law_said (B : Bi mg) (T_Reader : ReaderC K CRd) (Er : Errs K mg) (D : Def K mg "_law_said" s_law_said) (c_Reader_put : CalM P w K mg base (L2N.CX P w) CRd "put" 5 ["self", "sign"] (sp_Reader_put CRd K)) (c_Reader_end : CalM P w K mg base (L2N.CX P w) CRd "end" 4 ["self"] (sp_Reader_end CRd K)) (c_law_words_of : CalX P w K mg base "_law_words_of" 1 (sp_law_words_of K)) : Cal P w K mg base CX0 "_law_said" 6 ["_law_reader", "_law_sign", "_law_way"] (sp_law_said CRd) := by
  have nd := sc_law_said.nd
  obtain ⟨R_cl, R_n1, R_n2, R_n3, R_is⟩ := T_Reader
  refine D.cal sc_law_said (fun _ _ _ _ _ _ us hl => match us, hl with | [_, _, _], _ => rfl) (fun vs H Q E h => ?_) (fun f cdv A outer s H vs Q E hr h => ?_)
  · obtain ⟨_, _, _, rfl, _⟩ := h
    rfl
  · obtain ⟨c, v, way, rfl, dx, o, n, k, ws, hc, ho, cw, kl, tv, q1, q2, q3⟩ := h
    refine ⟨_, PSs.nox (pss_one (L2N.ps_try_as (i := 3) rfl rfl nd rfl rfl ⟨rfl, by decide, .inl (Er.gl "CodeError" (by decide +kernel))⟩ takes0N
        (fun W pn xe tk po => (pss_cons (ps_if (pt_cmpR op_eqn (pv 2) pe_int (nomark _))
          (pss_one (ps_ret (pe_tup (pa_cons (pe_w [116, 111, 108, 100] rfl) (pa_cons (pe_calMS c_Reader_put R_cl hr tk (pv 0) (pa_cons (pv 1) pa_nil)) pa_nil)))))
          pss_nil)
        (pss_one (ps_ret (pe_tup (pa_cons (pe_w [116, 111, 108, 100] rfl) (pa_cons (pe_calM0S c_Reader_end R_cl hr tk (pv 0)) pa_nil)))))))
        (fun a oe cls d pn hz hf => (pss_one (ps_ret (pe_tup (pa_cons (pe_w [114, 101, 102, 117, 115, 101, 100] rfl) (pa_cons (pe_calX c_law_words_of hr hz hf (pa_cons (pv 3) pa_nil)) pa_nil)))))))), ?_⟩
    try dsimp only [cxOf, Cx.nox, Cx.wish]
    have hc0 := hc
    unfold rdF at hc0
    have m1 : ("BadSign" : Str) ∈ errNames := by decide +kernel
    have m2 : ("NoReading" : Str) ∈ errNames := by decide +kernel
    fail "gi"
    refine itd (fun w0 => ?_) fun w0 => ?_
    · fail "gi"
      refine ⟨dx, o, n, k, ws, hc, ho, cw, kl, tv, fun z => ?_, fun x ex hx r hr => ⟨fun er H1 s1 => ?_, fun L k' er p H1 b1 np hp hc1 => ?_⟩⟩
      · refine met Er m1 fun x nx => ?_
        fail "gi"
        refine ⟨_, m1, rfl, ?_⟩
        rw [lab_sign]
        fail "gi"
        rename_i p H2 s2 np hp t nt
        exact q1 w0 z p t _ (s2.trans (new nt)) np (s2.free nt) (new nt _ _ hp) L2.upd_same
      · refine met Er m2 fun xx nx => ?_
        fail "gi"
        refine ⟨_, m2, rfl, ?_⟩
        rw [lab_reading]
        fail "gi"
        rename_i p H2 s2 np hp t nt
        exact (q2 w0 x ex hx r hr).1 er p t _ (s1.trans (s2.trans (new nt))) (s1.free np) ((s1.trans s2).free nt) (new nt _ _ hp) L2.upd_same
      · fail "gi"
        rename_i t nt
        have nt0 : H t = none := by
          cases e : H t with
          | none => rfl
          | some u =>
            by_cases z : t = c
            · rw [z, hc1] at nt; cases nt
            · rw [b1 _ _ z e] at nt; cases nt
        exact (q2 w0 x ex hx r hr).2 L k' er p t _ (b1.trans (.same (new nt))) np nt0 (new nt _ _ hp) L2.upd_same (new nt _ _ hc1)
    · fail "gi"
      refine ⟨dx, o, n, k, ws, hc, ho, cw, by omega, fun no H1 s1 => ?_, fun A hA p H1 b1 np hp hc1 => ?_⟩
      · refine met Er m2 fun x nx => ?_
        fail "gi"
        refine ⟨_, m2, rfl, ?_⟩
        rw [lab_reading]
        fail "gi"
        rename_i p H2 s2 np hp t nt
        exact (q3 w0).1 no p t _ (s1.trans (s2.trans (new nt))) (s1.free np) ((s1.trans s2).free nt) (new nt _ _ hp) L2.upd_same
      · fail "gi"
        rename_i t nt
        have nt0 : H t = none := by
          cases e : H t with
          | none => rfl
          | some u =>
            by_cases z : t = c
            · rw [z, hc1] at nt; cases nt
            · rw [b1 _ _ z e] at nt; cases nt
        exact (q3 w0).2 A hA p t _ (b1.trans (.same (new nt))) np nt0 (new nt _ _ hp) L2.upd_same (new nt _ _ hc1)
abbrev s_law_made : Stmt := top 57
theorem sc_law_made : FnScope ["_law_words_here", "_law_e"] ["_law_words_here"] (defScope s_law_made) := ⟨rfl, rfl, rfl, by decide +kernel, rfl, by decide +kernel, by decide +kernel⟩
def sp_law_made (CRd : Addr) : Sp := fun vs H Q _ => ∃ p : Addr, vs = [.ref p] ∧ ∃ ws : List Wd, H p = some (.lst (ws.map sv)) ∧ Code ws ∧ ∀ (zs : List Wd) (E : Tb) (P : List Wd) (h : Wd → Nat) (a : Option Nat) (b : Option (Wd × Wd)), zs.Perm ws → Lst ws E → Hts ws (keysT E) P h → WaitIs ws P h a b →
  (a = none → ∀ l H', Same H H' → H' l = some (.lst [sv [119, 97, 105, 116]]) → Q (.ref l) H') ∧ ∀ n, a = some n → ∀ c dx o H', Same H H' → H c = none → H o = none → H' o = some (.lst (zs.map sv)) → H' c = some (.ins CRd dx (rdF o n [])) → Q (.ref c) H'
theorem ok_law_made (B : Bi mg) (T_Reader : ReaderC K CRd) (Er : Errs K mg) (D : Def K mg "_law_made" s_law_made) (c_Reader___init__ : CalI P w K mg base (L2N.CX P w) CRd "Reader" 8 ["self", "words"] (sp_Reader___init__ CRd K)) (c_law_words_of : CalX P w K mg base "_law_words_of" 1 (sp_law_words_of K)) : Cal P w K mg base CX0 "_law_made" 10 ["_law_words_here"] (sp_law_made CRd) := by
  have nd := sc_law_made.nd
  obtain ⟨R_cl, R_n1, R_n2, R_n3, R_is⟩ := T_Reader
  refine D.cal sc_law_made (fun _ _ _ _ _ _ us hl => match us, hl with | [_], _ => rfl) (fun vs H Q E h => ?_) (fun f cdv A outer s H vs Q E hr h => ?_)
  · obtain ⟨_, rfl, _⟩ := h
    rfl
  · obtain ⟨p, rfl, ws, hp, cw, q⟩ := h
    refine ⟨_, PSs.nox (pss_one (L2N.ps_try_as (i := 1) rfl rfl nd rfl rfl ⟨rfl, by decide, .inl (Er.gl "CodeError" (by decide +kernel))⟩ takes0N
        (fun W pn xe tk po => (pss_one (ps_ret (pe_calIS c_Reader___init__ hr tk (pa_cons (pv 0) pa_nil)))))
        (fun a oe cls d pn hz hf => (pss_one (ps_ret (pe_calX c_law_words_of hr hz hf (pa_cons (pv 1) pa_nil))))))), ?_⟩
    try dsimp only [cxOf, Cx.nox, Cx.wish]
    fail "gi"
    have m1 : ("NoWait" : Str) ∈ errNames := by decide +kernel
    refine (show ∀ _ _, _ from fun x dx nx ndx ne => ?_)
    have grow : ∀ {H1 : Hp}, Beh x (L2.upd (L2.upd H dx (.own x)) x (.ins CRd dx [])) H1 → Same H H1 := fun {H1} b u v e => by
      have n1 : u ≠ x := fun z => by rw [z, nx] at e; cases e
      exact b u v n1 (by rw [upd_ne n1]; exact new ndx _ _ e)
    refine ⟨x, p, rfl, dx, ws, L2.upd_same, by rw [upd_ne (fun z => by rw [z, nx] at hp; cases hp)]; exact new ndx _ _ hp, cw, fun zs E P h a b pz t1 t2 t3 => ⟨fun ea H1 b1 => ?_, fun n ea o H1 b1 no ho hx => ⟨rfl, ?_⟩⟩⟩
    · have s1 := grow b1
      refine met Er m1 fun xx nxx => ?_
      fail "gi"
      refine ⟨_, m1, rfl, ?_⟩
      rw [lab_wait]
      fail "gi"
      rename_i p' H2 s2 np hp'
      exact (q zs E P h a b pz t1 t2 t3).1 ea p' H2 (s1.trans s2) hp'
    · have no' : H o = none := by
        cases e : H o with
        | none => rfl
        | some u =>
          have : L2.upd (L2.upd H dx (.own x)) x (.ins CRd dx []) o = some u := by rw [upd_ne (fun z => by rw [z, nx] at e; cases e)]; exact new ndx _ _ e
          rw [this] at no; cases no
      exact (q zs E P h a b pz t1 t2 t3).2 n ea x dx o H1 (grow b1) nx no' ho hx

theorem cat_ways (ws : List Wd) (t : Wd) (p : Nat) (h : p ≤ t.length) : cat ws t p = ways ws (t.drop p) := by
  unfold cat cnt
  have := tab_at ws t t.length p (Nat.le_refl _) h
  rw [Nat.sub_self, Nat.zero_add] at this
  exact this
theorem cat_part {ws : List Wd} (c : Code ws) {t : Wd} {p : Nat} (h : p ≤ t.length) : 0 < cat ws t p ↔ ∃ A, Parting ws (t.drop p) A := by
  rw [cat_ways ws t p h]
  constructor
  · intro z
    exact exists_one c _ _ (Nat.le_refl _) (by omega)
  · rintro ⟨A, hA⟩
    have := ways_one c hA
    omega
/-- the words by which the only parting goes on -/
def goesOn (ws : List Wd) (t : Wd) (p : Nat) (w : Wd) : Bool := fits t p w && decide (0 < cat ws t (p + w.length))
theorem goes_iff {ws : List Wd} (c : Code ws) {t : Wd} {p : Nat} (h : p ≤ t.length) {w : Wd} (hw : w ∈ ws) : goesOn ws t p w = true ↔ ∃ A, Parting ws (t.drop p) (w :: A) := by
  unfold goesOn
  rw [Bool.and_eq_true, decide_eq_true_iff]
  constructor
  · rintro ⟨f, z⟩
    have fl := fits_len f h
    obtain ⟨A, hA⟩ := (cat_part c fl).mp z
    refine ⟨A, fun x hx => (List.mem_cons.mp hx).elim (fun e => e ▸ hw) (hA.1 x), ?_⟩
    rw [List.flatten_cons, hA.2, ← List.drop_drop]
    have := of_decide_eq_true f
    conv => rhs; rw [← List.take_append_drop w.length (t.drop p), this]
  · rintro ⟨A, hA⟩
    have e := hA.2
    rw [List.flatten_cons] at e
    have f : fits t p w = true := decide_eq_true (by rw [← e, List.take_left])
    refine ⟨f, (cat_part c (fits_len f h)).mpr ⟨A, fun x hx => hA.1 x (List.mem_cons_of_mem _ hx), ?_⟩⟩
    rw [← List.drop_drop, ← e, List.drop_left]
theorem Beh.free {c t : Addr} {H H' : Hp} {u : HO} (b : Beh c H H') (hc : H' c = some u) (nt : H' t = none) : H t = none := by
  cases e : H t with
  | none => rfl
  | some u =>
    by_cases z : t = c
    · rw [z, hc] at nt; cases nt
    · rw [b _ _ z e] at nt; cases nt
abbrev s_law_only_row : Stmt := top 59
theorem sc_law_only_row : FnScope ["_law_words_here", "_law_kept", "_law_row_here", "_law_counts_here", "_law_place", "_law_word_here"] ["_law_words_here", "_law_kept"] (defScope s_law_only_row) := ⟨rfl, rfl, rfl, by decide +kernel, rfl, by decide +kernel, by decide +kernel⟩
def sp_law_only_row : Sp := fun vs H Q _ => ∃ (p : Addr) (k : Wd), vs = [.ref p, sv k] ∧ ∃ (ws : List Wd) (n : Nat), H p = some (.lst (ws.map sv)) ∧ Code ws ∧ k.length ≤ 1000 ∧ Waits ws n ∧ ∃ A, Parting ws k A ∧ RetL H Q (A.map sv)
theorem ok_law_only_row (B : Bi mg) (D : Def K mg "_law_only_row" s_law_only_row) (c_law_counts : Cal P w K mg base CX0 "_law_counts" 2 ["_law_words_here", "_law_text_here"] sp_law_counts) : Cal P w K mg base CX0 "_law_only_row" 3 ["_law_words_here", "_law_kept"] sp_law_only_row := by
  have nd := sc_law_only_row.nd
  refine D.cal sc_law_only_row (fun _ _ _ _ _ _ us hl => match us, hl with | [_, _], _ => rfl) (fun vs H Q E h => ?_) (fun f cdv A outer s H vs Q E hr h => ?_)
  · obtain ⟨_, _, rfl, _⟩ := h
    rfl
  · obtain ⟨p, k, rfl, ws, n, hp, cw, kl, wt, A0, hA0, q⟩ := h
    refine ⟨_, PSs.nox (pss_cons (ps_set (i := 2) nd rfl (.inl rfl) (pe_lst pa_nil))
      (pss_cons (ps_set (i := 3) nd rfl (.inl rfl) (pe_cal c_law_counts hr (pa_cons (pv 0) (pa_cons (pv 1) pa_nil))))
      (pss_cons (ps_set (i := 4) nd rfl (.inl rfl) pe_int)
      (pss_cons (ps_while PassesOwn.never (pt_cmpR op_lt (pv 4) (pe_callB call_lenw (by rfl) B.len PySem.boot_len (pa_cons (pv 1) pa_nil)) (nomark _))
        (pss_cons (ps_for PassesOwn.never rfl (pi_list (pv 0)) (pg_name (i := 5) nd rfl (.inl rfl))
          (pss_one (ps_if (PW.pt (pw_and (pt_cmpR op_eqw (pe_slice (r := rSlW) sl_w (pv 1) (po_some (pv 4)) (po_some (pe_op op_add (pv 4) (pe_callB call_lenw (by rfl) B.len PySem.boot_len (pa_cons (pv 5) pa_nil))))) (pv 5) (nomark _)) (pw_and1 (pt_cmpR op_gt (pe_ix (r := rIxLn K) ix_l (pv 3) (pe_op op_add (pv 4) (pe_callB call_lenw (by rfl) B.len PySem.boot_len (pa_cons (pv 5) pa_nil))) (fun _ _ => rfl)) pe_int (nomark _)))))
            (pss_one (ps_expr (pe_bm PySem.F.plainAttrs_list PySem.F.slot_list_append PySem.F.type_list_append mt_app (pv 2) (pa_cons (pv 5) pa_nil))))
            pss_nil)))
        (pss_one (ps_set (i := 4) nd rfl (.inl rfl) (pe_callB call_lenw (by rfl) B.len PySem.boot_len (pa_cons (pe_m1 (r := rJoW K) PySem.F.slot_str_join PySem.F.type_str_join mt_jow (pe_w [] rfl) (pv 2)) pa_nil))))))
      (pss_one (ps_ret (pv 2))))))), ?_⟩
    try dsimp only [cxOf, Cx.nox, Cx.wish]
    fail "gi"
    rename_i pr npr pc H2 s2 npc hpc
    have ne : ∀ w ∈ ws, w ≠ [] := fun w hw => List.length_pos_iff.mp (cw.wd w hw).1
    have s02 : Same H H2 := (new npr).trans s2
    have hpr2 := s2 _ _ (L2.upd_same : L2.upd H pr (.lst []) pr = _)
    have ppr : p ≠ pr := (ne_free npr hp).symm
    have pcr : pc ≠ pr := fun z => by rw [z, L2.upd_same] at npc; cases npc
    have clen : (cnt ws k).length = k.length + 1 := tab_len ws k _
    have cix : ∀ i, i ≤ k.length → ((cnt ws k).map V.int)[i]? = some (.int (cat ws k i)) := fun i hi => by
      rw [List.getElem?_map]
      unfold cat
      rw [List.getD_eq_getElem?_getD, List.getElem?_eq_getElem (by omega)]; rfl
    show tSeq _ _ _ [some (.ref p), some (sv k), some (.ref pr), some (.ref pc), none, none] _
    fail "gi"
    refine ⟨fun m σ' H' => ∃ (R : List Wd) (y : Option V), σ' = [some (.ref p), some (sv k), some (.ref pr), some (.ref pc), some (.int (R.flatten.length : Nat)), y] ∧ m = k.length - R.flatten.length ∧ Same H H' ∧ H' pr = some (.lst (R.map sv)) ∧ H' pc = some (.lst ((cnt ws k).map V.int)) ∧ ∃ A, Parting ws k (R ++ A),
      ⟨_, [], none, rfl, rfl, s02, hpr2, hpc, A0, hA0⟩, ?_⟩
    rintro m σ' H' ⟨R, y, rfl, rfl, b1, b2, b3, A, hA⟩
    have fl : R.flatten.length + A.flatten.length = k.length := by rw [← List.length_append, ← List.flatten_append, hA.2]
    have kl' : k.length ≤ 100000 := by omega
    have hp1 := b1 _ _ hp
    have dr : Parting ws (k.drop R.flatten.length) A := ⟨fun w h => hA.1 w (List.mem_append_right _ h), by rw [← hA.2, List.flatten_append, List.drop_left]⟩
    fail "gi"
    refine itd (fun lt => ?_) fun nlt => ?_
    · obtain ⟨w, A', rfl⟩ : ∃ w A', A = w :: A' := by
        cases A with
        | nil =>
          have h0 : ([] : List Wd).flatten.length = 0 := rfl
          omega
        | cons w A' => exact ⟨w, A', rfl⟩
      have hw := dr.1 w List.mem_cons_self
      have one : ws.filter (goesOn ws k R.flatten.length) = [w] := by
        refine List.perm_singleton.mp ((List.perm_ext_iff_of_nodup (cw.nd.filter _) (by simp)).mpr fun x => ?_)
        rw [List.mem_filter, List.mem_singleton]
        constructor
        · rintro ⟨hx, g⟩
          obtain ⟨B, hB⟩ := (goes_iff cw (by omega) hx).mp g
          exact (List.cons.inj (wt.one cw hB dr)).1
        · rintro rfl
          exact ⟨hw, (goes_iff cw (by omega) hw).mpr ⟨A', dr⟩⟩
      refine ⟨fun σ' H' => ∃ m', m' < k.length - R.flatten.length ∧ ∃ (R : List Wd) (y : Option V), σ' = [some (.ref p), some (sv k), some (.ref pr), some (.ref pc), some (.int (R.flatten.length : Nat)), y] ∧ m' = k.length - R.flatten.length ∧ Same H H' ∧ H' pr = some (.lst (R.map sv)) ∧ H' pc = some (.lst ((cnt ws k).map V.int)) ∧ ∃ A, Parting ws k (R ++ A), fun _ _ h => h, ?_⟩
      fail "gi"
      refine for_wl (xs := ws) (j := 5) (fun pre σ' H' => ∃ (y : Option V), σ' = [some (.ref p), some (sv k), some (.ref pr), some (.ref pc), some (.int (R.flatten.length : Nat)), y] ∧ Same H H' ∧ H' pr = some (.lst ((R ++ pre.filter (goesOn ws k R.flatten.length)).map sv)) ∧ H' pc = some (.lst ((cnt ws k).map V.int)))
        ⟨y, rfl, b1, by rw [List.filter_nil, List.append_nil]; exact b2, b3⟩ ?_ ?_ ?_
      · rintro pre σ' H' ⟨y, rfl, c1, c2, c3⟩
        exact SqL.of (c1 _ _ hp)
      · rintro pre x post σ' H' ex ⟨y, rfl, c1, c2, c3⟩
        have hx : x ∈ ws := by rw [ex]; exact List.mem_append_right _ List.mem_cons_self
        have xl : x.length ≤ 100000 := by have := cw.ten hx; omega
        have e1 : (pre ++ [x]).filter (goesOn ws k R.flatten.length) = pre.filter (goesOn ws k R.flatten.length) ++ if goesOn ws k R.flatten.length x = true then [x] else [] := by
          rw [List.filter_append, List.filter_cons]; rfl
        have rlen : ((R ++ pre.filter (goesOn ws k R.flatten.length)).map sv).length < 16000000 := by
          rw [List.length_map, List.length_append]
          have h1 := List.length_filter_le (goesOn ws k R.flatten.length) pre
          have h2 := congrArg List.length ex
          rw [List.length_append] at h2
          have h3 := cw.le
          have h4 := flat_ne fun w h => ne w (hA.1 w (List.mem_append_left _ h))
          omega
        fail "gi"
        rw [cutW_mid]
        refine itd (fun e2 => ?_) fun e2 => ?_
        · have f : fits k R.flatten.length x = true := decide_eq_true e2
          have fx := fits_len f (by omega)
          have ci := cix _ fx
          have tn : ((R.flatten.length : Int) + (x.length : Int)).toNat = R.flatten.length + x.length := by omega
          rw [← tn] at ci
          fail "gi"
          refine (show if decide ((0 : Int) < cat ws k (((R.flatten.length : Int) + (x.length : Int)).toNat)) = true then _ else _ from ?_)
          rw [tn]
          refine itd (fun e3 => ?_) fun e3 => ?_
          · have g : goesOn ws k R.flatten.length x = true := by unfold goesOn; rw [f, decide_eq_true e3]; rfl
            rw [if_pos g] at e1
            fail "gi"
            exact ⟨mutd c1 npr, by rw [L2.upd_same, e1, ← List.append_assoc, List.map_append (l₁ := R ++ _)]; rfl, by first | exact c3 | (rw [upd_ne pcr]; exact c3)⟩
          · have g : ¬ goesOn ws k R.flatten.length x = true := by unfold goesOn; rw [f, decide_eq_false e3]; exact Bool.false_ne_true
            rw [if_neg g, List.append_nil] at e1
            fail "gi"
            exact ⟨by rw [e1]; exact c2, c3⟩
        · have g : ¬ goesOn ws k R.flatten.length x = true := by unfold goesOn fits; rw [decide_eq_false e2, Bool.false_and]; exact Bool.false_ne_true
          rw [if_neg g, List.append_nil] at e1
          fail "gi"
          exact ⟨by rw [e1]; exact c2, c3⟩
      · rintro σ' H' ⟨y, rfl, c1, c2, c3⟩
        rw [one] at c2
        have fl2 : (R ++ [w]).flatten.length ≤ 100000 := by
          rw [List.flatten_append, List.length_append]
          have : A'.flatten.length + w.length = (w :: A').flatten.length := by rw [List.flatten_cons, List.length_append]; omega
          have h1 : [w].flatten = w := by simp
          rw [h1]; omega
        fail "gi"
        have lw := (cw.wd w hw).1
        have flw : (R ++ [w]).flatten.length = R.flatten.length + w.length := by rw [List.flatten_append, List.length_append]; simp
        refine ⟨k.length - (R ++ [w]).flatten.length, by omega, R ++ [w], _, rfl, rfl, c1, c2, c3, A', by rw [List.append_assoc]; exact hA⟩
    · have : A.flatten = [] := List.eq_nil_of_length_eq_zero (by omega)
      have dA := dr
      rw [List.drop_of_length_le (by omega)] at dA
      obtain rfl : A = [] := Parting.nil cw dA
      rw [List.append_nil] at hA
      obtain rfl := wt.one cw hA hA0
      fail "gi"
      exact q pr _ b1 npr b2
set_option hygiene false in
local macro_rules | `(tactic| fail "nx") => `(tactic| (
  fail "gi"
  rename_i pz npz
  refine ⟨rs.reverse, SqL.of (by rw [L2.upd_same, List.map_reverse]), fl', last _ (e1.trans (by fail "same"))⟩))
abbrev s_law_next_text : Stmt := top 63
theorem sc_law_next_text : FnScope ["_law_words_here", "_law_kept", "_law_row_here", "_law_turn", "_law_some", "_law_word_here"] ["_law_words_here", "_law_kept", "_law_row_here", "_law_turn"] (defScope s_law_next_text) := ⟨rfl, rfl, rfl, by decide +kernel, rfl, by decide +kernel, by decide +kernel⟩
def sp_law_next_text : Sp := fun vs H Q _ => ∃ (p : Addr) (k : Wd) (pr : Addr) (m : Int), vs = [.ref p, sv k, .ref pr, .int m] ∧ ∃ ws rs : List Wd, H p = some (.lst (ws.map sv)) ∧ Code ws ∧ H pr = some (.lst (rs.map sv)) ∧ (∀ r ∈ rs, r ∈ ws) ∧ rs.length ≤ 5 ∧ k.length ≤ 1000 ∧ ∀ t : Wd, t.length ≤ 50 → Abc t → Ret H Q (sv t)
theorem ok_law_next_text (B : Bi mg) (D : Def K mg "_law_next_text" s_law_next_text) : Cal P w K mg base CX0 "_law_next_text" 1 ["_law_words_here", "_law_kept", "_law_row_here", "_law_turn"] sp_law_next_text := by
  have nd := sc_law_next_text.nd
  refine D.cal sc_law_next_text (fun _ _ _ _ _ _ us hl => match us, hl with | [_, _, _, _], _ => rfl) (fun vs H Q E h => ?_) (fun f cdv A outer s H vs Q E hr h => ?_)
  · obtain ⟨_, _, _, _, rfl, _⟩ := h
    rfl
  · obtain ⟨p, k, pr, m, rfl, ws, rs, hp, cw, hR, hrs, rl, kl, q⟩ := h
    refine ⟨_, PSs.nox (pss_cons (ps_setLc (i := 4) (own := [("_law_word_here", 5)]) (g := gName 5) rfl nd rfl rfl (sw_true rfl rfl rfl (by decide +kernel)) (pi_list (pv 0)) (blkOk_by (own := [("_law_word_here", 5)]) (N := ["_law_words_here", "_law_kept", "_law_row_here", "_law_turn", "_law_some", "_law_word_here"]) (sc := defScope s_law_next_text) (by decide +kernel)) (fun _ _ _ _ _ => (pg_name (i := 5) nd rfl (.inl rfl))) (fun _ _ _ _ _ => (pts_one (PW.pt (pw_and (pt_cmpR op_eqw (pe_slice (r := rSlW) sl_w (pv 5) po_none (po_some (pe_callB call_lenw (by rfl) B.len PySem.boot_len (pa_cons (pv 1) pa_nil)))) (pv 1) (nomark _)) (pw_and1 (pt_cmpR op_gt (pe_callB call_lenw (by rfl) B.len PySem.boot_len (pa_cons (pv 5) pa_nil)) (pe_callB call_lenw (by rfl) B.len PySem.boot_len (pa_cons (pv 1) pa_nil)) (nomark _))))))) (fun _ _ _ _ _ => (pe_slice (r := rSlW) sl_w (pv 5) (po_some (pe_callB call_lenw (by rfl) B.len PySem.boot_len (pa_cons (pv 1) pa_nil))) po_none)))
      (pss_cons (ps_if (PW.pt (pw_and (pt_cmpR op_new (pv 1) (pe_w [] rfl) (nomark _)) (pw_and (pt_cmpR op_eqn (pe_op op_mod (pv 3) pe_int) pe_int (nomark _)) (pw_and1 (pt_cmpR (r := rNeP K) (op_nep hr.units) (pv 4) (pe_lst pa_nil) (nomark _))))))
        (pss_one (ps_ret (pe_ix (r := rIxLn K) ix_l (pv 4) pe_int (fun _ _ => rfl))))
        pss_nil)
      (pss_one (ps_ret (pe_m1 (r := rJoW K) PySem.F.slot_str_join PySem.F.type_str_join mt_jow (pe_w [] rfl) (pe_rev (pv 2) (pe_un un_neg pe_int))))))), ?_⟩
    try dsimp only [cxOf, Cx.nox, Cx.wish]
    have kl' : k.length ≤ 100000 := by omega
    fail "gi"
    rename_i D hD
    refine lc_w (xs := ws) (j := 5) (fun w => decide (w.take k.length = k) && decide (k.length < w.length)) (fun w => sv (w.drop k.length)) hD (by fail "seq") (by have := cw.le; omega) (fun x hx H1 e1 Q1 q1 => ?_) (fun x hx hc H1 e1 Q1 q1 => ?_) (fun H1 e1 h1 => ?_)
    · have xl : x.length ≤ 100000 := by have := cw.ten hx; omega
      fail "gi"
      rw [cutW_to]
      refine itd (fun a => ?_) fun a => ?_
      · rw [decide_eq_true a, Bool.true_and] at q1
        fail "gi"
        refine (show Q1 (decide ((k.length : Int) < (x.length : Int))) H1 from ?_)
        rw [show decide ((k.length : Int) < (x.length : Int)) = decide (k.length < x.length) from decide_eq_decide.mpr (by omega)]
        exact q1 _ (Same.refl _)
      · rw [decide_eq_false a, Bool.false_and] at q1
        exact q1 _ (Same.refl _)
    · have xl : x.length ≤ 100000 := by have := cw.ten hx; omega
      fail "gi"
      rw [cutW_from]
      exact q1 _ (Same.refl _)
    · have h1' : H1 D = some (.lst (((ws.filter fun w => decide (w.take k.length = k) && decide (k.length < w.length)).map fun w => w.drop k.length).map sv)) := by rw [h1, List.map_map]; rfl
      have okt := ok_strs ((ws.filter fun w => decide (w.take k.length = k) && decide (k.length < w.length)).map fun w => w.drop k.length)
      have okn := ok_nil
      have hR1 := e1 _ _ hR
      have fl : rs.reverse.flatten.length ≤ rs.reverse.length * 10 := flat_len fun r h => cw.ten (hrs r (List.mem_reverse.mp h))
      rw [List.length_reverse] at fl
      have last : ∀ H2, Same H H2 → Q (sv rs.reverse.flatten) H2 := q _ (by omega) (flat_abc fun r h => (cw.wd r (hrs r (List.mem_reverse.mp h))).abc)
      have fl' : rs.reverse.flatten.length ≤ 100000 := by omega
      fail "gi"
      refine itn (fun ek => ?_) fun ek => ?_
      · fail "gi"
        refine itd (fun em => ?_) fun em => ?_
        · fail "gi"
          rw [show (PyData.list []) = .list (([] : List Wd).map sd) from rfl, eqv_strs]
          refine itn (fun es => ?_) fun es => ?_
          · obtain ⟨t, ts, et⟩ : ∃ t ts, ((ws.filter fun w => decide (w.take k.length = k) && decide (k.length < w.length)).map fun w => w.drop k.length) = t :: ts := by
              cases z : ((ws.filter fun w => decide (w.take k.length = k) && decide (k.length < w.length)).map fun w => w.drop k.length) with
              | nil => exact absurd z es
              | cons t ts => exact ⟨t, ts, rfl⟩
            have mt : t ∈ ((ws.filter fun w => decide (w.take k.length = k) && decide (k.length < w.length)).map fun w => w.drop k.length) := by rw [et]; exact List.mem_cons_self
            obtain ⟨w, hw, rfl⟩ := List.mem_map.mp mt
            have hw := (List.mem_filter.mp hw).1
            have w10 := cw.ten hw
            rw [et] at h1'
            have h1'' : H1 D = some (.lst (sv (w.drop k.length) :: ts.map sv)) := h1'
            fail "gi"
            exact q _ (by rw [List.length_drop]; omega) (fun c hc => (cw.wd w hw).abc c (List.mem_of_mem_drop hc)) _ (e1.trans (by fail "same"))
          · fail "nx"
        · fail "nx"
      · fail "nx"
abbrev s_law_ended : Stmt := top 62
theorem sc_law_ended : FnScope ["_law_reader", "_law_words_here", "_law_kept", "_law_said_here", "_law_found"] ["_law_reader", "_law_words_here", "_law_kept"] (defScope s_law_ended) := ⟨rfl, rfl, rfl, by decide +kernel, rfl, by decide +kernel, by decide +kernel⟩
def sp_law_ended (CRd : Addr) : Sp := fun vs H Q _ => ∃ (c p : Addr) (k : Wd), vs = [.ref c, .ref p, sv k] ∧ ∃ (dx o : Addr) (n m : Nat) (zs ws : List Wd), H c = some (.ins CRd dx (rdF o n k)) ∧ H o = some (.lst (zs.map sv)) ∧ zs.Perm ws ∧ H p = some (.lst (ws.map sv)) ∧ Code ws ∧ k.length ≤ 900 ∧ Waits ws m ∧
  ((∀ A, ¬ Parting ws k A) → ∀ l t H', Same H H' → H l = none → H t = none → H' l = some (.lst []) → H' t = some (.tup [.ref l, sv k]) → Q (.ref t) H') ∧
  ∀ A, Parting ws k A → ∀ l t H', Beh c H H' → H l = none → H t = none → H' l = some (.lst (A.map sv)) → H' t = some (.tup [.ref l, sv []]) → H' c = some (.ins CRd dx (rdF o n [])) → Q (.ref t) H'
theorem ok_law_ended (B : Bi mg) (T_Reader : ReaderC K CRd) (D : Def K mg "_law_ended" s_law_ended) (c_law_said : Cal P w K mg base CX0 "_law_said" 6 ["_law_reader", "_law_sign", "_law_way"] (sp_law_said CRd)) (c_law_counts : Cal P w K mg base CX0 "_law_counts" 2 ["_law_words_here", "_law_text_here"] sp_law_counts) (c_Reader_many : CalM P w K mg base CX0 CRd "many" 1 ["self"] (sp_Reader_many CRd)) (c_law_only_row : Cal P w K mg base CX0 "_law_only_row" 3 ["_law_words_here", "_law_kept"] sp_law_only_row) : Cal P w K mg base CX0 "_law_ended" 7 ["_law_reader", "_law_words_here", "_law_kept"] (sp_law_ended CRd) := by
  have nd := sc_law_ended.nd
  obtain ⟨R_cl, R_n1, R_n2, R_n3, R_is⟩ := T_Reader
  refine D.cal sc_law_ended (fun _ _ _ _ _ _ us hl => match us, hl with | [_, _, _], _ => rfl) (fun vs H Q E h => ?_) (fun f cdv A outer s H vs Q E hr h => ?_)
  · obtain ⟨_, _, _, rfl, _⟩ := h
    rfl
  · obtain ⟨c, p, k, rfl, dx, o, n, m, zs, ws, hc, ho, pz, hp, cw, kl, wt, q0, q1⟩ := h
    refine ⟨_, PSs.nox (pss_cons (ps_asg (pe_cal c_law_said hr (pa_cons (pv 0) (pa_cons (pe_w [] rfl) (pa_cons pe_int pa_nil)))) (pg_tup (n := 2) rfl (pgs_cons (pg_name (i := 3) nd rfl (.inl rfl)) (pgs_cons (pg_name (i := 4) nd rfl (.inl rfl)) pgs_nil))))
      (pss_cons (ps_if (pt_cmpR op_eqn (pe_ix (r := rIxLn K) ix_l (pe_cal c_law_counts hr (pa_cons (pv 1) (pa_cons (pv 2) pa_nil))) pe_int (fun _ _ => rfl)) pe_int (nomark _))
        (pss_cons (ps_if (PW.pt (pw_or (pt_cmpR (r := rNeP K) (op_nep hr.units) (pe_tup (pa_cons (pv 3) (pa_cons (pv 4) pa_nil))) (pe_tup (pa_cons (pe_w [114, 101, 102, 117, 115, 101, 100] rfl) (pa_cons (pe_lst (pa_cons (pe_w [114, 101, 97, 100, 105, 110, 103] rfl) pa_nil)) pa_nil))) (nomark _)) (pw_or1 (pt_cmpR op_nen (pe_calM0 c_Reader_many R_cl hr (pv 0)) (pe_callB call_lenw (by rfl) B.len PySem.boot_len (pa_cons (pv 2) pa_nil)) (nomark _)))))
          (pss_one (ps_ret pe_non))
          pss_nil)
        (pss_one (ps_ret (pe_tup (pa_cons (pe_lst pa_nil) (pa_cons (pv 2) pa_nil))))))
        pss_nil)
      (pss_cons (ps_if (PW.pt (pw_or (pt_cmpR op_new (pv 3) (pe_w [116, 111, 108, 100] rfl) (nomark _)) (pw_or (pt_not (pt_val (pe_callB (call_is .lst) (by rfl) B.isinstance (by decide +kernel) (pa_cons (pv 4) (pa_cons (pe_ty .lst (by rfl) B.list (by decide +kernel)) pa_nil))))) (pw_or (pt_cmpR (r := rNeP K) (op_nep hr.units) (pv 4) (pe_cal c_law_only_row hr (pa_cons (pv 1) (pa_cons (pv 2) pa_nil))) (nomark _)) (pw_or1 (pt_cmpR op_nen (pe_calM0 c_Reader_many R_cl hr (pv 0)) pe_int (nomark _)))))))
        (pss_one (ps_ret pe_non))
        pss_nil)
      (pss_one (ps_ret (pe_tup (pa_cons (pv 4) (pa_cons (pe_w [] rfl) pa_nil)))))))), ?_⟩
    try dsimp only [cxOf, Cx.nox, Cx.wish]
    have cz := Code.perm pz cw
    have hc0 := hc
    unfold rdF at hc0
    have kl' : k.length ≤ 100000 := by omega
    have pp : ∀ {A : List Wd}, Parting zs k A ↔ Parting ws k A := ⟨fun h => ⟨fun w x => pz.mem_iff.mp (h.1 w x), h.2⟩, fun h => ⟨fun w x => pz.mem_iff.mpr (h.1 w x), h.2⟩⟩
    have cix : ((cnt ws k).map V.int)[Int.toNat 0]? = some (.int (cat ws k 0)) := by
      show ((cnt ws k).map V.int)[0]? = _
      rw [List.getElem?_map]
      unfold cat
      have : 0 < (cnt ws k).length := by unfold cnt; rw [tab_len]; omega
      rw [List.getD_eq_getElem?_getD, List.getElem?_eq_getElem this]; rfl
    fail "gi"
    refine ⟨dx, o, n, k, zs, hc, ho, cz, kl, .str (Nat.zero_le _), (fun z => by cases z), (fun z => by cases z), fun _ => ⟨fun no p1 t1 H1 s1 np nt hp1 ht1 => ?_, fun A hA p1 t1 H1 b1 np nt hp1 ht1 hc1 => ?_⟩⟩
    · have no' : ∀ A, ¬ Parting ws k A := fun A h => no A (pp.mpr h)
      have z0 : cat ws k 0 = 0 := by
        refine Classical.byContradiction fun z => ?_
        have nn := cat_nn (t := k) (fun w hw => List.length_pos_iff.mp (cw.wd w hw).1) 0
        obtain ⟨A, hA⟩ := (cat_part cw (Nat.zero_le _)).mp (show 0 < cat ws k 0 by omega)
        exact no' A (by rwa [List.drop_zero] at hA)
      unfold refusedW at ht1
      have hp11 := s1 _ _ hp
      have hc1 := s1 _ _ hc
      fail "gi"
      refine itd (fun z => ?_) fun z => absurd z0 z
      fail "gi"
      refine ⟨dx, o, n, k, by fail "look", kl', ?_⟩
      fail "gi"
      refine itn (fun e => absurd rfl e) fun _ => ?_
      fail "gi"
      rename_i l nl t nt
      exact q0 no' l t _ (by fail "same") ((show Same H _ by fail "same").free nl) ((show Same H _ by fail "same").free nt) (by fail "look") L2.upd_same
    · have hA' := pp.mp hA
      have z0 : 0 < cat ws k 0 := (cat_part cw (Nat.zero_le _)).mpr ⟨A, by rw [List.drop_zero]; exact hA'⟩
      unfold toldW at ht1
      have cp : p ≠ c := fun z => by rw [z, hc] at hp; cases hp
      have hp11 := b1 _ _ cp hp
      fail "gi"
      refine itd (fun z => by omega) fun z1 => ?_
      fail "gi"
      rename_i pc H2 s2 npc hpc
      have hp1' := s2 _ _ hp1
      have ht1' := s2 _ _ ht1
      have hc2 := s2 _ _ hc1
      have okA := ok_strs A
      refine ⟨ws, m, s2 _ _ hp11, cw, by omega, wt, A, hA', ?_⟩
      fail "gi"
      rename_i pr H3 s3 npr hpr
      have hp3 := s3 _ _ hp1'
      refine itnb (fun w => absurd ((eqv_self okA).symm.trans w) (by simp)) fun _ => ?_
      have hc3 := s3 _ _ hc2
      fail "gi"
      refine ⟨dx, o, n, [], hc3, by decide, ?_⟩
      fail "gi"
      rename_i t nt
      exact q1 A hA' p1 t _ (b1.trans (.same ((s2.trans s3).trans (new nt)))) np ((b1.trans (.same (s2.trans s3))).free hc3 nt) (new nt _ _ hp3) L2.upd_same (new nt _ _ hc3)
abbrev s_law_other_reader : Stmt := top 60
theorem sc_law_other_reader : FnScope ["_law_words_here", "_law_row_here", "_law_reader", "_law_told", "_law_sign"] ["_law_words_here", "_law_row_here"] (defScope s_law_other_reader) := ⟨rfl, rfl, rfl, by decide +kernel, rfl, by decide +kernel, by decide +kernel⟩
def sp_law_other_reader (CRd : Addr) : Sp := fun vs H Q _ => ∃ p r : Addr, vs = [.ref p, .ref r] ∧ ∃ (ws rs : List Wd) (n : Nat) (E : Tb) (P : List Wd) (h : Wd → Nat) (b : Option (Wd × Wd)), H p = some (.lst (ws.map sv)) ∧ Code ws ∧ H r = some (.lst (rs.map sv)) ∧ (∀ w ∈ rs, w ∈ ws) ∧ rs.length ≤ 5 ∧ Lst ws E ∧ Hts ws (keysT E) P h ∧ WaitIs ws P h (some n) b ∧ ∀ H', Same H H' → Q (.bl true) H'
theorem ok_law_other_reader (B : Bi mg) (T_Reader : ReaderC K CRd) (D : Def K mg "_law_other_reader" s_law_other_reader) (c_Reader___init__ : CalI P w K mg base (L2N.CX P w) CRd "Reader" 8 ["self", "words"] (sp_Reader___init__ CRd K)) (c_Reader_put : CalM P w K mg base (L2N.CX P w) CRd "put" 5 ["self", "sign"] (sp_Reader_put CRd K)) (c_Reader_many : CalM P w K mg base CX0 CRd "many" 1 ["self"] (sp_Reader_many CRd)) (c_Reader_end : CalM P w K mg base (L2N.CX P w) CRd "end" 4 ["self"] (sp_Reader_end CRd K)) : Cal P w K mg base CX0 "_law_other_reader" 10 ["_law_words_here", "_law_row_here"] (sp_law_other_reader CRd) := by
  have nd := sc_law_other_reader.nd
  obtain ⟨R_cl, R_n1, R_n2, R_n3, R_is⟩ := T_Reader
  refine D.cal sc_law_other_reader (fun _ _ _ _ _ _ us hl => match us, hl with | [_, _], _ => rfl) (fun vs H Q E h => ?_) (fun f cdv A outer s H vs Q E hr h => ?_)
  · obtain ⟨_, _, rfl, _⟩ := h
    rfl
  · obtain ⟨p, r, rfl, ws, rs, n, E0, P0, h0, b0, hp, cw, hR, hrs, rl, tl, th, tw, q⟩ := h
    refine ⟨_, PSs.nox (pss_cons (ps_set (i := 2) nd rfl (.inl rfl) (pe_calIQ c_Reader___init__ hr (pa_cons (pe_callTy (r := rListOf K) call_listl (by rfl) B.list (by decide +kernel) (pa_cons (pv 0) pa_nil)) pa_nil)))
      (pss_cons (ps_set (i := 3) nd rfl (.inl rfl) (pe_lst pa_nil))
      (pss_cons (ps_for PassesOwn.never rfl (pi_str (pe_m1 (r := rJoW K) PySem.F.slot_str_join PySem.F.type_str_join mt_jow (pe_w [] rfl) (pv 1))) (pg_name (i := 4) nd rfl (.inl rfl))
        (pss_one (ps_set (i := 3) nd rfl (.inl rfl) (pe_op op_catl (pv 3) (pe_calMQ c_Reader_put R_cl hr (pv 2) (pa_cons (pv 4) pa_nil))))))
      (pss_one (ps_ret (pe_and (pe_cmpR (r := rEqP K) (op_eqp hr.units) (pe_op op_catl (pv 3) (pe_calM0Q c_Reader_end R_cl hr (pv 2))) (pv 1) (nomark _)) (pe_one (pe_cmpR op_eqn (pe_calM0 c_Reader_many R_cl hr (pv 2)) pe_int (nomark _))))))))), ?_⟩
    try dsimp only [cxOf, Cx.nox, Cx.wish]
    have fl : rs.flatten.length ≤ rs.length * 10 := flat_len fun r h => cw.ten (hrs r h)
    have fl' : rs.flatten.length ≤ 100000 := by omega
    fail "gi"
    rename_i pc npc
    refine (show ∀ _ _, _ from fun x dx nx ndx ne => ?_)
    have hpc : L2.upd H pc (.lst (ws.map sv)) pc = some (.lst (ws.map sv)) := L2.upd_same
    have pcx : pc ≠ x := fun z => by rw [z, L2.upd_same] at nx; cases nx
    refine ⟨x, pc, rfl, dx, ws, L2.upd_same, by rw [upd_ne pcx]; exact new ndx _ _ hpc, cw, fun zs E P h a b pz t1 t2 t3 => ?_⟩
    obtain rfl : some n = a := tw.uniq tl t1 th t2 t3
    refine ⟨(fun z => by cases z), fun n' en o H1 b1 no ho hx => ⟨rfl, ?_⟩⟩
    obtain rfl : n = n' := Option.some.inj en
    have wt : Waits ws n := tw.waits tl th
    have wne : ∀ w ∈ ws, w ≠ [] := fun w hw => List.length_pos_iff.mp (cw.wd w hw).1
    have cz := Code.perm pz cw
    have up : ∀ {u : Addr} {v : HO}, H u = some v → u ≠ x → H1 u = some v := fun {u v} e n => b1 u v n (by rw [upd_ne n]; exact new ndx _ _ (new npc _ _ e))
    have nx0 : H x = none := (new npc).free nx
    have rx : r ≠ x := fun z => by rw [z, nx0] at hR; cases hR
    have hR1 := up hR rx
    have ox : o ≠ x := fun z => by rw [z, L2.upd_same] at no; cases no
    have sH1 : Same H H1 := fun u v e => up e (fun z => by rw [z, nx0] at e; cases e)
    have abc : Abc rs.flatten := flat_abc fun r h => (cw.wd r (hrs r h)).abc
    fail "gi"
    rename_i pl npl
    have plx : pl ≠ x := fun z => by rw [z, hx] at npl; cases npl
    have rpl : r ≠ pl := fun z => by rw [← z, hR1] at npl; cases npl
    refine for_str (j := 4) (fun pre σ' H' => ∃ (L : List Wd) (k : Wd) (pl : Addr) (y : Option V), σ' = [some (.ref p), some (.ref r), some (.ref x), some (.ref pl), y] ∧ Beh x H1 H' ∧ H' x = some (.ins CRd dx (rdF o n k)) ∧ H' pl = some (.lst (L.map sv)) ∧ pl ≠ x ∧ Fed ws n [] pre L k)
      ⟨[], [], pl, none, rfl, .same (new npl), new npl _ _ hx, L2.upd_same, plx, .nil⟩ ?_ ?_
    · rintro pre c post σ' H' ex ⟨L, k, pl, y, rfl, c1, c2, c3, c4, c5⟩
      have lp : pre.length ≤ 50 := by have := congrArg List.length ex; rw [List.length_append] at this; omega
      have kl := c5.len.1
      have h0 : ([] : Wd).length = 0 := rfl
      have hc : c ∈ ABC := abc c (by rw [ex]; simp)
      have c2' := c2
      unfold rdF at c2'
      have ho' := c1 _ _ ox ho
      have Ll : L.length ≤ 60 := by have := flat_ne fun w h => wne w (c5.len.2 w h); omega
      obtain ⟨R', eR, eR'⟩ := c5.row wt wne (R := rs) (y := c :: post) hrs ex
      have hR' : ∀ w ∈ R', w ∈ ws := fun w h => hrs w (by rw [eR]; exact List.mem_append_right _ h)
      fail "gi"
      refine ⟨dx, o, n, k, zs, c2, ho', cz, by omega, .str (by show 1 ≤ 100000; decide), (fun z => by rw [signV_one hc] at z; cases z), fun x' ex' _ r' hr' => ?_⟩
      obtain rfl : c = x' := (List.cons.inj (sv_inj.mp ex')).1
      obtain ⟨L1, k1, R2, rfl, _, _⟩ := (hr'.perm pz).row wt wne (R := R') (y := post) hR' (by rw [eR', List.append_assoc]; rfl)
      refine ⟨(fun z => by cases z), fun L2' k2 e2 p5 H5 b5 np5 hp5 hx5 => ?_⟩
      cases e2
      have L1l := (hr'.len _ _ rfl).1
      have L1m := flat_ne fun w h => wne w (pz.mem_iff.mp ((hr'.len _ _ rfl).2 w h))
      rw [List.length_append] at L1l
      have h1 : ([c] : Wd).length = 1 := rfl
      have hpl5 := b5 _ _ c4 c3
      have sumL : (L.map sv).length + (L1.map sv).length ≤ 100000 := by rw [List.length_map, List.length_map]; omega
      fail "gi"
      rename_i pn npn
      have pnx : pn ≠ x := fun z => by rw [z, hx5] at npn; cases npn
      refine ⟨L ++ L1, k1, pn, _, rfl, (c1.trans b5).trans (.same (new npn)), new npn _ _ hx5, by rw [L2.upd_same, List.map_append], pnx, c5.tell (hr'.perm pz)⟩
    · rintro σ' H' ⟨L, k, pl, y, rfl, c1, c2, c3, c4, c5⟩
      have kl := c5.len.1
      have h0 : ([] : Wd).length = 0 := rfl
      have c2' := c2
      unfold rdF at c2'
      have ho' := c1 _ _ ox ho
      obtain ⟨R', eR, eR'⟩ := c5.row wt wne (R := rs) (y := []) hrs (List.append_nil _).symm
      rw [List.append_nil] at eR'
      have hR2 := c1 _ _ rx hR1
      have okr := ok_strs rs
      fail "gi"
      refine ⟨dx, o, n, k, zs, c2, ho', cz, by omega, (fun no => ?_), fun A hA p5 H5 b5 np5 hp5 hx5 => ?_⟩
      · exact absurd ⟨fun w h => pz.mem_iff.mpr (hrs w (by rw [eR]; exact List.mem_append_right _ h)), eR'⟩ (no R')
      · obtain rfl : A = R' := wt.one cw ⟨fun w h => pz.mem_iff.mp (hA.1 w h), hA.2⟩ ⟨fun w h => hrs w (by rw [eR]; exact List.mem_append_right _ h), eR'⟩
        have hpl5 := b5 _ _ c4 c3
        have hR5 := b5 _ _ rx hR2
        have sumL : (L.map sv).length + (A.map sv).length ≤ 100000 := by
          have := congrArg List.length eR
          rw [List.length_append] at this
          rw [List.length_map, List.length_map]; omega
        fail "gi"
        rename_i pn npn
        have pnx : pn ≠ x := fun z => by rw [z, hx5] at npn; cases npn
        have hx6 := new npn (o := .lst (rs.map sv)) _ _ hx5
        have hR6 := new npn (o := .lst (rs.map sv)) _ _ hR5
        rw [← List.map_append, ← eR]
        have bb : Beh x H1 (L2.upd H5 pn (.lst (rs.map sv))) := (c1.trans b5).trans (.same (new npn))
        have hpn : L2.upd H5 pn (.lst (rs.map sv)) pn = some (.lst (rs.map sv)) := L2.upd_same
        generalize L2.upd H5 pn (.lst (rs.map sv)) = H6 at *
        fail "gi"
        refine itb (fun _ => ?_) fun w => absurd ((eqv_self okr).symm.trans w) (by simp)
        fail "gi"
        refine ⟨dx, o, n, [], hx6, by decide, ?_⟩
        fail "gi"
        exact q _ (fun u v e => bb _ _ (fun z => by rw [z, nx0] at e; cases e) (sH1 _ _ e))

def rRepL : R2 := fun x y H Q => ∃ (l : Addr) (k : Int), x = .ref l ∧ y = .int k ∧ ∃ xs, H l = some (.lst xs) ∧ 0 ≤ k ∧ k ≤ 10 ∧ xs.length ≤ 10000 ∧ ∀ p, H p = none → Q (.ref p) (L2.upd H p (.lst (List.replicate k.toNat xs).flatten))
theorem op_repl {X : Cx} : OpR X (binaryOp .Mult) rRepL := OpR.imp op_rep fun x y H Q ⟨l, k, hx, hy, v, h, h0, h1, h2, q⟩ => ⟨l, k, v, hx, hy, h, by omega, by omega, sz (by
  have : v.length * k.toNat ≤ 10000 * 10 := Nat.mul_le_mul h2 (by omega)
  omega), q⟩
theorem nextC {A B : TS} {D D' : Ends} {σ : L2.St} {H : Hp} {C : L2.St → Hp → Prop} (e : D'.nx = tSeq A B D) (main : ∀ T : L2.St → Hp → Prop, (∀ σ H, C σ H → T σ H) → A { D with nx := T } σ H) (tail : ∀ σ H, C σ H → B D σ H) : D'.nx σ H := by
  rw [e]
  exact main _ tail
theorem seqC {A B : TS} {D : Ends} {σ : L2.St} {H : Hp} {C : L2.St → Hp → Prop} (main : ∀ T : L2.St → Hp → Prop, (∀ σ H, C σ H → T σ H) → A { D with nx := T } σ H) (tail : ∀ σ H, C σ H → B D σ H) : tSeq A B D σ H := main _ tail
theorem cutT {T : L2.St → Hp → Prop} {G : Prop} {C : L2.St → Hp → Prop} (main : (∀ σ H, C σ H → T σ H) → G) (tail : ∀ σ H, C σ H → T σ H) : G := main tail
/-! ### what a fed reader leaves alone -/
def Nin (c d pb pl x : Addr) : Prop := x ≠ c ∧ x ≠ d ∧ x ≠ pb ∧ x ≠ pl
def Out (c d pb pl : Addr) (G G' : Hp) : Prop := ∀ b u, Nin c d pb pl b → G b = some u → G' b = some u
section
variable {c d pb pl : Addr} {G G' G'' : Hp}
theorem Out.refl : Out c d pb pl G G := fun _ _ _ h => h
theorem Out.trans (a : Out c d pb pl G G') (b : Out c d pb pl G' G'') : Out c d pb pl G G'' := fun x u n h => b x u n (a x u n h)
theorem Out.same (s : Same G G') : Out c d pb pl G G' := fun b u _ h => s b u h
theorem Out.beh (s : Beh c G G') : Out c d pb pl G G' := fun b u n h => s b u n.1 h
theorem Out.beh2 (s : Beh d G G') : Out c d pb pl G G' := fun b u n h => s b u n.2.1 h
theorem Out.free {u : Addr} {v1 v2 v3 v4 : HO} (o : Out c d pb pl G G') (h1 : G' c = some v1) (h2 : G' d = some v2) (h3 : G' pb = some v3) (h4 : G' pl = some v4) (nu : G' u = none) : Nin c d pb pl u ∧ G u = none := by
  have n : Nin c d pb pl u := ⟨fun z => (by rw [z, h1] at nu; cases nu), fun z => (by rw [z, h2] at nu; cases nu), fun z => (by rw [z, h3] at nu; cases nu), fun z => (by rw [z, h4] at nu; cases nu)⟩
  refine ⟨n, ?_⟩
  cases e : G u with
  | none => rfl
  | some v => rw [o u v n e] at nu; cases nu
theorem Out.upd3 {v : HO} : Out c d pb pl G (L2.upd G pb v) := fun b u n h => by rw [upd_ne n.2.2.1]; exact h
theorem Out.upd4 {v : HO} : Out c d pb pl G (L2.upd G pl v) := fun b u n h => by rw [upd_ne n.2.2.2]; exact h
end
/-- a list held and its copy -/
def CopyAt (c d pb pl : Addr) (H : Hp) (v : V) : Prop := ∃ (T a b : Addr) (R : List Wd), v = .ref T ∧ H T = some (.tup [.ref a, .ref b]) ∧ H a = some (.lst (R.map sv)) ∧ H b = some (.lst (R.map sv)) ∧ Nin c d pb pl T ∧ Nin c d pb pl a ∧ Nin c d pb pl b
def HeldAt (c d pb pl : Addr) (m : Nat) (H : Hp) : Prop := ∃ hs : List V, H pl = some (.lst hs) ∧ hs.length ≤ m ∧ ∀ v ∈ hs, CopyAt c d pb pl H v
theorem CopyAt.out {c d pb pl : Addr} {H H' : Hp} {v : V} (p : CopyAt c d pb pl H v) (o : Out c d pb pl H H') : CopyAt c d pb pl H' v :=
  let ⟨T, a, b, R, e, h1, h2, h3, n1, n2, n3⟩ := p
  ⟨T, a, b, R, e, o _ _ n1 h1, o _ _ n2 h2, o _ _ n3 h3, n1, n2, n3⟩
theorem HeldAt.out {c d pb pl : Addr} {H H' : Hp} {m : Nat} (p : HeldAt c d pb pl m H) (o : Out c d pb pl H H') (e : H' pl = H pl) : HeldAt c d pb pl m H' :=
  let ⟨hs, h1, h2, h3⟩ := p
  ⟨hs, e.trans h1, h2, fun v hv => (h3 v hv).out o⟩
abbrev s_law_fed : Stmt := top 61
theorem sc_law_fed : FnScope ["_law_reader", "_law_words_here", "_law_most", "_law_text_here", "_law_cell", "_law_kept", "_law_beside", "_law_told", "_law_k", "_law_sign", "_law_due", "_law_now", "_law_said_here", "_law_found", "_law_many"] ["_law_reader", "_law_words_here", "_law_most", "_law_text_here", "_law_cell", "_law_kept", "_law_beside"] (defScope s_law_fed) := ⟨rfl, rfl, rfl, by decide +kernel, rfl, by decide +kernel, by decide +kernel⟩
def sp_law_fed (CRd : Addr) : Sp := fun vs H Q _ => ∃ (c p : Addr) (n : Nat) (t : Wd) (cell : Int) (k0 : Wd) (be : Addr), vs = [.ref c, .ref p, .int n, sv t, .int cell, sv k0, .ref be] ∧
  ∃ (dx o : Addr) (zs ws : List Wd) (d dy ob : Addr) (nb : Nat) (zb wb : List Wd) (pb pl : Addr) (bt kb : Wd) (Lb : List Wd) (m : Nat),
  H c = some (.ins CRd dx (rdF o n k0)) ∧ H o = some (.lst (zs.map sv)) ∧ zs.Perm ws ∧ H p = some (.lst (ws.map sv)) ∧ Code ws ∧ Waits ws n ∧ Abc t ∧ k0.length + t.length ≤ 800 ∧
  H be = some (.tup [.ref d, sv bt, .ref pb, .ref pl]) ∧ H d = some (.ins CRd dy (rdF ob nb kb)) ∧ H ob = some (.lst (zb.map sv)) ∧ zb.Perm wb ∧ Code wb ∧ Waits wb nb ∧ H pb = some (.lst (Lb.map sv)) ∧ HeldAt c d pb pl m H ∧
  c ≠ d ∧ pb ≠ pl ∧ Nin c d pb pl o ∧ Nin c d pb pl ob ∧ Nin c d pb pl p ∧ Nin c d pb pl be ∧ bt.length ≤ 100 ∧ kb.length ≤ 100 ∧ Lb.length ≤ 1000 ∧ m ≤ 1000 ∧
  (bt ≠ [] → kb = [] ∧ ∃ R1 : List Wd, (∀ w ∈ R1, w ∈ wb) ∧ R1.flatten = bt) ∧
  ∀ (L Lx : List Wd) (k kx : Wd), Fed ws n k0 t L k → Fed wb nb kb (bt.take t.length) Lx kx → ∀ l tt H', Out c d pb pl H H' → H' c = some (.ins CRd dx (rdF o n k)) → H' d = some (.ins CRd dy (rdF ob nb kx)) → H' pb = some (.lst ((Lb ++ Lx).map sv)) → HeldAt c d pb pl (m + t.length) H' →
    H' l = some (.lst (L.map sv)) → H' tt = some (.tup [.ref l, sv k]) → Q (.ref tt) H'
theorem ok_law_fed (B : Bi mg) (T_Reader : ReaderC K CRd) (D : Def K mg "_law_fed" s_law_fed) (c_Reader_put : CalM P w K mg base (L2N.CX P w) CRd "put" 5 ["self", "sign"] (sp_Reader_put CRd K)) (c_law_odd : Cal P w K mg base CX0 "_law_odd" 1 ["_law_cell"] sp_law_odd) (c_law_said : Cal P w K mg base CX0 "_law_said" 6 ["_law_reader", "_law_sign", "_law_way"] (sp_law_said CRd)) (c_law_taken : Cal P w K mg base CX0 "_law_taken" 4 ["_law_words_here", "_law_most", "_law_kept"] sp_law_taken) (c_Reader_many : CalM P w K mg base CX0 CRd "many" 1 ["self"] (sp_Reader_many CRd)) (c_law_whole : Cal P w K mg base CX0 "_law_whole" 1 ["_law_found"] sp_law_whole) : Cal P w K mg base CX0 "_law_fed" 8 ["_law_reader", "_law_words_here", "_law_most", "_law_text_here", "_law_cell", "_law_kept", "_law_beside"] (sp_law_fed CRd) := by
  have nd := sc_law_fed.nd
  obtain ⟨R_cl, R_n1, R_n2, R_n3, R_is⟩ := T_Reader
  refine D.cal sc_law_fed (fun _ _ _ _ _ _ us hl => match us, hl with | [_, _, _, _, _, _, _], _ => rfl) (fun vs H Q E h => ?_) (fun f cdv A outer s H vs Q E hr h => ?_)
  · obtain ⟨_, _, _, _, _, _, _, rfl, _⟩ := h
    rfl
  · obtain ⟨c, p, n, t, cell, k0, be, rfl, dx, o, zs, ws, d, dy, ob, nb, zb, wb, pb, pl, bt, kb, Lb, m, hc, ho, pz, hp, cw, wt, abc, kl, hbe, hd, hob, pzb, cwb, wtb, hpb, hld, ncd, nbl, no, nob, np, nbe, btl, kbl, Lbl, ml, hbt, q⟩ := h
    refine ⟨_, PSs.nox (pss_cons (ps_set (i := 7) nd rfl (.inl rfl) (pe_lst pa_nil))
      (pss_cons (ps_for PassesOwn.never rfl (pi_enums (by rfl) B.enumerate (pa_cons (pv 3) pa_nil)) (pg_tup (n := 2) rfl (pgs_cons (pg_name (i := 8) nd rfl (.inl rfl)) (pgs_cons (pg_name (i := 9) nd rfl (.inl rfl)) pgs_nil)))
        (pss_cons (ps_if (pt_cmpR op_lt (pv 8) (pe_callB call_lenw (by rfl) B.len PySem.boot_len (pa_cons (pe_ix (r := rIxTn K) ix_t (pv 6) pe_int (fun _ _ => rfl)) pa_nil)) (nomark _))
          (pss_one (ps_expr (pe_bm PySem.F.plainAttrs_list PySem.F.slot_list_extend PySem.F.type_list_extend mt_extn (pe_ix (r := rIxTn K) ix_t (pv 6) pe_int (fun _ _ => rfl)) (pa_cons (pe_calMQ c_Reader_put R_cl hr (pe_ix (r := rIxTn K) ix_t (pv 6) pe_int (fun _ _ => rfl)) (pa_cons (pe_ix ix_w (pe_ix (r := rIxTn K) ix_t (pv 6) pe_int (fun _ _ => rfl)) (pv 8) (fun _ _ => rfl)) pa_nil)) pa_nil))))
          pss_nil)
        (pss_cons (ps_if (PW.pt (pw_and (pt_cmpR op_eqn (pe_op op_mod (pe_op op_add (pv 4) (pv 8)) pe_int) pe_int (nomark _)) (pw_and1 (pt_cmpR (r := rNeP K) (op_nep hr.units) (pe_cal c_law_said hr (pa_cons (pv 0) (pa_cons (pe_cal c_law_odd hr (pa_cons (pe_op op_add (pe_op op_fdiv (pv 4) pe_int) (pv 8)) pa_nil)) (pa_cons pe_int pa_nil)))) (pe_tup (pa_cons (pe_w [114, 101, 102, 117, 115, 101, 100] rfl) (pa_cons (pe_lst (pa_cons (pe_w [115, 105, 103, 110] rfl) pa_nil)) pa_nil))) (nomark _)))))
          (pss_one (ps_ret pe_non))
          pss_nil)
        (pss_cons (ps_asg (pe_cal c_law_taken hr (pa_cons (pv 1) (pa_cons (pv 2) (pa_cons (pe_op op_addw (pv 5) (pv 9)) pa_nil)))) (pg_tup (n := 2) rfl (pgs_cons (pg_name (i := 10) nd rfl (.inl rfl)) (pgs_cons (pg_name (i := 11) nd rfl (.inl rfl)) pgs_nil))))
        (pss_cons (ps_asg (pe_cal c_law_said hr (pa_cons (pv 0) (pa_cons (pv 9) (pa_cons pe_int pa_nil)))) (pg_tup (n := 2) rfl (pgs_cons (pg_name (i := 12) nd rfl (.inl rfl)) (pgs_cons (pg_name (i := 13) nd rfl (.inl rfl)) pgs_nil))))
        (pss_cons (ps_if (pt_cmpR op_isN (pv 11) pe_non (nomark _))
          (pss_one (ps_if (PW.pt (pw_or (pt_cmpR (r := rNeP K) (op_nep hr.units) (pv 10) (pe_lst pa_nil) (nomark _)) (pw_or1 (pt_cmpR (r := rNeP K) (op_nep hr.units) (pe_tup (pa_cons (pv 12) (pa_cons (pv 13) pa_nil))) (pe_tup (pa_cons (pe_w [114, 101, 102, 117, 115, 101, 100] rfl) (pa_cons (pe_lst (pa_cons (pe_w [114, 101, 97, 100, 105, 110, 103] rfl) pa_nil)) pa_nil))) (nomark _)))))
            (pss_one (ps_ret pe_non))
            pss_nil))
          (pss_cons (ps_if (PW.pt (pw_or (pt_cmpR op_new (pv 12) (pe_w [116, 111, 108, 100] rfl) (nomark _)) (pw_or (pt_not (pt_val (pe_callB (call_is .lst) (by rfl) B.isinstance (by decide +kernel) (pa_cons (pv 13) (pa_cons (pe_ty .lst (by rfl) B.list (by decide +kernel)) pa_nil))))) (pw_or1 (pt_cmpR (r := rNeP K) (op_nep hr.units) (pv 13) (pv 10) (nomark _))))))
            (pss_one (ps_ret pe_non))
            pss_nil)
          (pss_cons (ps_expr (pe_bm PySem.F.plainAttrs_list PySem.F.slot_list_append PySem.F.type_list_append mt_app (pe_ix (r := rIxTn K) ix_t (pv 6) pe_int (fun _ _ => rfl)) (pa_cons (pe_tup (pa_cons (pv 13) (pa_cons (pe_callTy (r := rListOf K) call_listl (by rfl) B.list (by decide +kernel) (pa_cons (pv 13) pa_nil)) pa_nil))) pa_nil)))
          (pss_cons (ps_set (i := 7) nd rfl (.inl rfl) (pe_op op_catl (pv 7) (pv 13)))
          (pss_one (ps_set (i := 5) nd rfl (.inl rfl) (pv 11)))))))
        (pss_one (ps_if (pt_cmpR op_gt (pe_op op_mod (pe_op op_add (pv 4) (pe_op op_mul (pv 8) (pv 8))) pe_int) pe_int (nomark _))
          (pss_cons (ps_set (i := 14) nd rfl (.inl rfl) (pe_calM0 c_Reader_many R_cl hr (pv 0)))
          (pss_one (ps_if (PW.pt (pw_or (pt_not (pt_val (pe_cal c_law_whole hr (pa_cons (pv 14) pa_nil)))) (pw_or1 (pt_cmpR op_nen (pv 14) (pe_callB call_lenw (by rfl) B.len PySem.boot_len (pa_cons (pv 5) pa_nil)) (nomark _)))))
            (pss_one (ps_ret pe_non))
            pss_nil)))
          pss_nil))))))))
      (pss_one (ps_ret (pe_tup (pa_cons (pv 7) (pa_cons (pv 5) pa_nil))))))), ?_⟩
    try dsimp only [cxOf, Cx.nox, Cx.wish]
    have wne : ∀ w ∈ ws, w ≠ [] := fun w hw => List.length_pos_iff.mp (cw.wd w hw).1
    have wnb : ∀ w ∈ wb, w ≠ [] := fun w hw => List.length_pos_iff.mp (cwb.wd w hw).1
    have cz := Code.perm pz cw
    have czb := Code.perm pzb cwb
    obtain ⟨hs0, hpl0⟩ : ∃ hs, H pl = some (.lst hs) := let ⟨hs, h, _⟩ := hld; ⟨hs, h⟩
    fail "gi"
    rename_i pt0 npt0
    refine for_enums (fun i σ' H' => ∃ (L Lx : List Wd) (k kx : Wd) (pt : Addr) (y8 y9 y10 y11 y12 y13 y14 : Option V), σ' = [some (.ref c), some (.ref p), some (.int n), some (sv t), some (.int cell), some (sv k), some (.ref be), some (.ref pt), y8, y9, y10, y11, y12, y13, y14] ∧ Out c d pb pl H H' ∧ H' c = some (.ins CRd dx (rdF o n k)) ∧ H' d = some (.ins CRd dy (rdF ob nb kx)) ∧ H' pb = some (.lst ((Lb ++ Lx).map sv)) ∧ HeldAt c d pb pl (m + i) H' ∧ Fed ws n k0 (t.take i) L k ∧ Fed wb nb kb (bt.take i) Lx kx ∧ H' pt = some (.lst (L.map sv)) ∧ H pt = none)
      ⟨[], [], k0, kb, pt0, none, none, none, none, none, none, none, rfl, .same (new npt0), new npt0 _ _ hc, new npt0 _ _ hd, by rw [List.append_nil]; exact new npt0 _ _ hpb, hld.out (.same (new npt0)) (by rw [hpl0]; exact new npt0 _ _ hpl0), .nil, .nil, L2.upd_same, npt0⟩ ?_ ?_
    · rintro i x T σ' H' ex ⟨L, Lx, k, kx, pt, y8, y9, y10, y11, y12, y13, y14, rfl, g1, g2, g3, g4, g5, g6, g7, g8, npt⟩ nT
      have il : i < t.length := (List.getElem?_eq_some_iff.mp ex).1
      have hx : x ∈ ABC := abc x (List.mem_of_getElem? ex)
      have tk1 : t.take (i + 1) = t.take i ++ [x] := by rw [List.take_add_one, ex]; rfl
      have tl1 : (t.take i).length = i := by rw [List.length_take]; omega
      have tl2 : (bt.take i).length ≤ bt.length := by rw [List.length_take]; omega
      have kl1 := g6.len.1
      have kl2 := g7.len.1
      have Ll : L.length ≤ 900 := by have := flat_ne fun w h => wne w (g6.len.2 w h); omega
      have Lxl : Lx.length ≤ 200 := by have := flat_ne fun w h => wnb w (g7.len.2 w h); omega
      have p1 := g1 _ _ np hp
      have nout : ∀ {u : Addr}, H u = none → (∃ v, H' u = some v) → Nin c d pb pl u := fun {u} nu _ => ⟨fun z => (by rw [z, hc] at nu; cases nu), fun z => (by rw [z, hd] at nu; cases nu), fun z => (by rw [z, hpb] at nu; cases nu), fun z => (by rw [z, hpl0] at nu; cases nu)⟩
      have npt' := nout npt ⟨_, g8⟩
      have ob1 := g1 _ _ nob hob
      have o1 := g1 _ _ no ho
      have be1 := g1 _ _ nbe hbe
      fail "gi"
      refine cutT (T := ?T) (C := fun σ H' => ∃ (Lx : List Wd) (kx : Wd), σ = [some (.ref c), some (.ref p), some (.int n), some (sv t), some (.int cell), some (sv k), some (.ref be), some (.ref pt), some (.int i), some (sv [x]), y10, y11, y12, y13, y14] ∧ Out c d pb pl H H' ∧ H' c = some (.ins CRd dx (rdF o n k)) ∧ H' d = some (.ins CRd dy (rdF ob nb kx)) ∧ H' pb = some (.lst ((Lb ++ Lx).map sv)) ∧ HeldAt c d pb pl (m + i) H' ∧ Fed wb nb kb (bt.take (i + 1)) Lx kx ∧ H' pt = some (.lst (L.map sv))) ?mainA ?tailA
      rotate_left
      · intro tail
        refine itd (fun e => ?_) fun e => ?_
        · have ib : i < bt.length := by omega
          obtain ⟨x2, ex2⟩ : ∃ x2, bt[i]? = some x2 := ⟨_, List.getElem?_eq_getElem ib⟩
          have bne : bt ≠ [] := fun z => by rw [z] at ib; cases ib
          obtain ⟨kb0, R1, hR1, eR1⟩ := hbt bne
          have hx2 : x2 ∈ ABC := by
            have : x2 ∈ R1.flatten := by rw [eR1]; exact List.mem_of_getElem? ex2
            obtain ⟨w, hw, hx⟩ := List.mem_flatten.mp this
            exact (cwb.wd w (hR1 w hw)).abc x2 hx
          have tb1 : bt.take (i + 1) = bt.take i ++ [x2] := by rw [List.take_add_one, ex2]; rfl
          have tb2 : bt = bt.take i ++ (x2 :: bt.drop (i + 1)) := by
            conv => lhs; rw [← List.take_append_drop (i + 1) bt, tb1, List.append_assoc]
            rfl
          have ix2 : (bt[((i : Nat) : Int).toNat]?) = some x2 := ex2
          have s1 : Same H' (L2.upd H' T (.tup [.int i, sv [x]])) := new nT
          fail "gi"
          refine ⟨dy, ob, nb, kx, zb, s1 _ _ g3, s1 _ _ ob1, czb, by omega, .str (by show 1 ≤ 100000; decide), (fun z => by rw [signV_one hx2] at z; cases z), fun x' ex' _ r' hr' => ?_⟩
          obtain rfl : x2 = x' := (List.cons.inj (sv_inj.mp ex')).1
          have hr'' := hr'.perm pzb
          rw [kb0] at g7 kl2
          obtain ⟨R2, eR2, eR3⟩ := g7.row wtb wnb (R := R1) (y := x2 :: bt.drop (i + 1)) hR1 (by rw [eR1]; exact tb2)
          obtain ⟨L1, k1, R3, rfl, _, _⟩ := hr''.row wtb wnb (R := R2) (y := bt.drop (i + 1)) (fun w h => hR1 w (by rw [eR2]; exact List.mem_append_right _ h)) (by rw [eR3, List.append_assoc]; rfl)
          refine ⟨(fun z => by cases z), fun L2' k2 e2 p5 H5 b5 np5 hp5 hx5 => ?_⟩
          cases e2
          have L1l := (hr''.len _ _ rfl).1
          have L1m := flat_ne fun w h => wnb w ((hr''.len _ _ rfl).2 w h)
          rw [List.length_append] at L1l
          have h1 : ([x2] : Wd).length = 1 := rfl
          have h0 : ([] : Wd).length = 0 := rfl
          have npb : pb ≠ d := fun z => by rw [z, hd] at hpb; cases hpb
          have nc5 : H5 c = some (.ins CRd dx (rdF o n k)) := b5 _ _ ncd (s1 _ _ g2)
          have g15 : Out c d pb pl H H5 := g1.trans ((Out.same s1).trans (.beh2 b5))
          have hpb5 : H5 pb = some (.lst ((Lb ++ Lx).map sv)) := b5 _ _ npb (s1 _ _ g4)
          obtain ⟨hs1, f1, f2, f3⟩ := id g5
          have npl : pl ≠ d := fun z => by rw [z, hd] at hpl0; cases hpl0
          have hpl5 : H5 pl = some (.lst hs1) := b5 _ _ npl (s1 _ _ f1)
          have nptd : pt ≠ d := npt'.2.1
          have hpt5 := b5 _ _ nptd (s1 _ _ g8)
          unfold tNil rExtN
          have ncpb : c ≠ pb := fun z => by rw [z, hpb] at hc; cases hc
          refine ⟨pb, rfl, p5, rfl, _, hpb5, _, hp5, by rw [List.length_map, List.length_map, List.length_append]; omega, ?_⟩
          refine tail _ _ ⟨Lx ++ L1, k1, rfl, g15.trans (.upd3 (v := .lst (((Lb ++ Lx).map sv) ++ L1.map sv))), by rw [upd_ne ncpb]; exact nc5, by rw [upd_ne npb.symm]; exact hx5, by rw [L2.upd_same, ← List.map_append, List.append_assoc], ?_, ?_, by rw [upd_ne npt'.2.2.1]; exact hpt5⟩
          · refine g5.out (((Out.same s1).trans (.beh2 b5)).trans (.upd3 (v := .lst (((Lb ++ Lx).map sv) ++ L1.map sv)))) (by rw [upd_ne nbl.symm, hpl5, f1])
          · rw [tb1, kb0]
            exact g7.tell hr''
        · have ib : bt.length ≤ i := by omega
          have tb1 : bt.take (i + 1) = bt.take i := by rw [List.take_of_length_le (by omega), List.take_of_length_le ib]
          have s1 : Same H' (L2.upd H' T (.tup [.int i, sv [x]])) := new nT
          obtain ⟨hs1, f1, f2, f3⟩ := id g5
          exact tail _ _ ⟨Lx, kx, rfl, g1.trans (.same s1), s1 _ _ g2, s1 _ _ g3, s1 _ _ g4, g5.out (.same s1) (by rw [f1]; exact s1 _ _ f1), by rw [tb1]; exact g7, s1 _ _ g8⟩
      · rintro σ1 H1 ⟨Lx, kx, rfl, g1, g2, g3, g4, g5, g7, g8⟩
        have Lxl : Lx.length ≤ 200 := by have := flat_ne fun w h => wnb w (g7.len.2 w h); have := g7.len.1; have : (bt.take (i + 1)).length ≤ bt.length := by rw [List.length_take]; omega
                                         omega
        have kl' : k.length ≤ 900 := by omega
        have p2 := g1 _ _ np hp
        have o2 := g1 _ _ no ho
        have be2 := g1 _ _ nbe hbe
        clear p1 ob1 o1 be1
        dsimp only
        refine seqC (C := fun σ H' => σ = [some (.ref c), some (.ref p), some (.int n), some (sv t), some (.int cell), some (sv k), some (.ref be), some (.ref pt), some (.int i), some (sv [x]), y10, y11, y12, y13, y14] ∧ Same H1 H') ?mainB ?tailB
        · intro T2 tail2
          fail "gi"
          refine itd (fun e => ?_) fun e => ?_
          · fail "gi"
            intro v H3 s3 tv nv
            have c3 := s3 _ _ g2
            have o3 := s3 _ _ o2
            fail "gi"
            refine ⟨dx, o, n, k, zs, c3, o3, cz, kl', tv, fun _ _ p4 t4 H4 s4 np4 nt4 hp4 ht4 => ?_, (fun _ x' ex' hx' => by rw [ex', signV_one hx'] at nv; cases nv), fun z => absurd rfl z⟩
            unfold refusedW at ht4
            fail "gi"
            exact tail2 _ _ ⟨rfl, by fail "same"⟩
          · fail "gi"
            exact tail2 _ _ ⟨rfl, Same.refl _⟩
        · rintro σ2 H2 ⟨rfl, s2⟩
          obtain ⟨hs1, f1, f2, f3⟩ := id (g5.out (.same s2) (by
            obtain ⟨hs1, f1, f2, f3⟩ := id g5
            rw [f1]; exact s2 _ _ f1))
          have c3 := s2 _ _ g2
          have p3 := s2 _ _ p2
          have o3 := s2 _ _ o2
          have be3 := s2 _ _ be2
          have d3 := s2 _ _ g3
          have pb3 := s2 _ _ g4
          have pt3 := s2 _ _ g8
          have ml1 : m + i ≤ 1800 := by omega
          have L1l : ∀ {L1 k1 r}, Tkn ws n (k ++ [x]) r → r = some (L1, k1) → k1.length ≤ 900 ∧ L1.length ≤ 900 := fun {L1 k1 r} hr er => by
            have := (hr.len _ _ er).1
            have := flat_ne fun w h => wne w ((hr.len _ _ er).2 w h)
            rw [List.length_append] at *
            have h1 : ([x] : Wd).length = 1 := rfl
            omega
          fail "gi"
          intro r hr
          refine ⟨fun L1 k1 er l t4 H3 s3 nl nt4 hl ht => ?_, fun er l t4 H3 s3 nl nt4 hl ht => ?_⟩
          · have c4 := s3 _ _ c3
            have o4 := s3 _ _ o3
            obtain ⟨k1l, L1l⟩ := L1l hr er
            fail "gi"
            refine ⟨dx, o, n, k, zs, c4, o4, cz, kl', .str (by show 1 ≤ 100000; decide), (fun _ z => by rw [signV_one hx] at z; cases z), fun _ x' ex' _ r' hr' => ?_, fun z => absurd rfl z⟩
            obtain rfl : x = x' := (List.cons.inj (sv_inj.mp ex')).1
            obtain rfl := (hr'.perm pz).uniq wt hr
            refine ⟨fun z => (by rw [er] at z; cases z), fun L2 k2 e2 p5 t5 H5 b5 np5 nt5 hp5 ht5 hc5 => ?_⟩
            obtain ⟨rfl, rfl⟩ : L1 = L2 ∧ k1 = k2 := by rw [er] at e2; cases e2; exact ⟨rfl, rfl⟩
            unfold toldW at ht5
            have okL := ok_strs L1
            have lc : l ≠ c := fun z => by rw [z, c4] at hl; cases hl
            have hl5 := b5 _ _ lc hl
            have be5 := b5 _ _ nbe.1 (s3 _ _ be3)
            have plc : pl ≠ c := fun z => by rw [z, hc] at hpl0; cases hpl0
            have pbc : pb ≠ c := fun z => by rw [z, hc] at hpb; cases hpb
            have pl5 := b5 _ _ plc (s3 _ _ f1)
            have pb5 := b5 _ _ pbc (s3 _ _ pb3)
            have d5 := b5 _ _ ncd.symm (s3 _ _ d3)
            have pt5 := b5 _ _ npt'.1 (s3 _ _ pt3)
            have hsl : hs1.length < 16000000 := by omega
            have sumL : (L.map sv).length + (L1.map sv).length ≤ 100000 := by rw [List.length_map, List.length_map]; omega
            fail "gi"
            refine itnb (fun w => absurd ((eqv_self okL).symm.trans w) (by simp)) fun _ => ?_
            fail "gi"
            rename_i pc npc pT npT
            have s6 : Same H5 (L2.upd (L2.upd H5 pc (.lst (L1.map sv))) pT (.tup [.ref p5, .ref pc])) := (new npc).trans (new npT)
            have cpl : c ≠ pl := plc.symm
            have dpl : d ≠ pl := fun z => by rw [z, hpl0] at hd; cases hd
            have o5 : Out c d pb pl H2 H5 := (Out.same s3).trans (.beh b5)
            have g5' : Out c d pb pl H H5 := (g1.trans (.same s2)).trans o5
            have ninP := (Out.free (G := H3) .refl c4 (s3 _ _ d3) (s3 _ _ pb3) (s3 _ _ f1) np5).1
            have ninC := (g5'.free hc5 d5 pb5 pl5 npc).1
            have ninT := ((g5'.trans (.same (new npc))).free (new npc _ _ hc5) (new npc _ _ d5) (new npc _ _ pb5) (new npc _ _ pl5) npT).1
            have c6 : L2.upd (L2.upd (L2.upd H5 pc (.lst (L1.map sv))) pT (.tup [.ref p5, .ref pc])) pl (.lst (hs1 ++ [.ref pT])) c = some (.ins CRd dx (rdF o n k1)) := by rw [upd_ne cpl]; exact s6 _ _ hc5
            have d6 : L2.upd (L2.upd (L2.upd H5 pc (.lst (L1.map sv))) pT (.tup [.ref p5, .ref pc])) pl (.lst (hs1 ++ [.ref pT])) d = some (.ins CRd dy (rdF ob nb kx)) := by rw [upd_ne dpl]; exact s6 _ _ d5
            have pb6 : L2.upd (L2.upd (L2.upd H5 pc (.lst (L1.map sv))) pT (.tup [.ref p5, .ref pc])) pl (.lst (hs1 ++ [.ref pT])) pb = some (.lst ((Lb ++ Lx).map sv)) := by rw [upd_ne nbl]; exact s6 _ _ pb5
            have pt6 : L2.upd (L2.upd (L2.upd H5 pc (.lst (L1.map sv))) pT (.tup [.ref p5, .ref pc])) pl (.lst (hs1 ++ [.ref pT])) pt = some (.lst (L.map sv)) := by rw [upd_ne npt'.2.2.2]; exact s6 _ _ pt5
            have p56 : L2.upd (L2.upd (L2.upd H5 pc (.lst (L1.map sv))) pT (.tup [.ref p5, .ref pc])) pl (.lst (hs1 ++ [.ref pT])) p5 = some (.lst (L1.map sv)) := by rw [upd_ne ninP.2.2.2]; exact s6 _ _ hp5
            have pl6 : L2.upd (L2.upd (L2.upd H5 pc (.lst (L1.map sv))) pT (.tup [.ref p5, .ref pc])) pl (.lst (hs1 ++ [.ref pT])) pl = some (.lst (hs1 ++ [.ref pT])) := L2.upd_same
            have g6' : Out c d pb pl H2 (L2.upd (L2.upd (L2.upd H5 pc (.lst (L1.map sv))) pT (.tup [.ref p5, .ref pc])) pl (.lst (hs1 ++ [.ref pT]))) := o5.trans ((Out.same s6).trans .upd4)
            have held6 : HeldAt c d pb pl (m + i + 1) (L2.upd (L2.upd (L2.upd H5 pc (.lst (L1.map sv))) pT (.tup [.ref p5, .ref pc])) pl (.lst (hs1 ++ [.ref pT]))) := ⟨_, pl6, by rw [List.length_append, List.length_singleton]; omega, fun v hv => (List.mem_append.mp hv).elim (fun h => (f3 v h).out g6') fun h => by
              rw [List.mem_singleton.mp h]
              exact ⟨pT, p5, pc, L1, rfl, by rw [upd_ne ninT.2.2.2]; exact L2.upd_same, p56, by rw [upd_ne ninC.2.2.2]; exact new npT _ _ L2.upd_same, ninT, ninP, ninC⟩⟩
            generalize L2.upd (L2.upd (L2.upd H5 pc (.lst (L1.map sv))) pT (.tup [.ref p5, .ref pc])) pl (.lst (hs1 ++ [.ref pT])) = H6 at *
            have g7' : Out c d pb pl H H6 := (g1.trans (.same s2)).trans g6'
            have fed1 := g6.tell (er ▸ hr)
            have k1c : k1.length ≤ 100000 := by omega
            fail "gi"
            rename_i pn npn
            have np0 := (g7'.free c6 d6 pb6 pl6 npn).2
            have fin : Out c d pb pl H (L2.upd H6 pn (.lst (L.map sv ++ L1.map sv))) ∧ L2.upd H6 pn (.lst (L.map sv ++ L1.map sv)) c = some (.ins CRd dx (rdF o n k1)) ∧ L2.upd H6 pn (.lst (L.map sv ++ L1.map sv)) d = some (.ins CRd dy (rdF ob nb kx)) ∧ L2.upd H6 pn (.lst (L.map sv ++ L1.map sv)) pb = some (.lst ((Lb ++ Lx).map sv)) ∧ HeldAt c d pb pl (m + (i + 1)) (L2.upd H6 pn (.lst (L.map sv ++ L1.map sv))) ∧ Fed ws n k0 (t.take (i + 1)) (L ++ L1) k1 ∧ Fed wb nb kb (bt.take (i + 1)) Lx kx ∧ L2.upd H6 pn (.lst (L.map sv ++ L1.map sv)) pn = some (.lst ((L ++ L1).map sv)) ∧ H pn = none :=
              ⟨g7'.trans (.same (new npn)), new npn _ _ c6, new npn _ _ d6, new npn _ _ pb6, held6.out (.same (new npn)) (by rw [pl6]; exact new npn _ _ pl6), by rw [tk1]; exact fed1, g7, by rw [L2.upd_same, List.map_append], np0⟩
            refine itd (fun e3 => ?_) fun e3 => ?_
            · fail "gi"
              refine ⟨dx, o, n, k1, by fail "look", k1c, ?_⟩
              clear fin
              fail "gi"
              refine itn (fun e => absurd rfl e) fun _ => ?_
              exact ⟨L ++ L1, Lx, k1, kx, pn, _, _, _, _, _, _, _, rfl, g7'.trans (.same (new npn)), new npn _ _ c6, new npn _ _ d6, new npn _ _ pb6, held6.out (.same (new npn)) (by rw [pl6]; exact new npn _ _ pl6), by rw [tk1]; exact fed1, g7, by rw [L2.upd_same, List.map_append], np0⟩
            · exact ⟨L ++ L1, Lx, k1, kx, pn, _, _, _, _, _, _, _, rfl, fin⟩
          · have fin2 : ∀ HF : Hp, Same H3 HF → Out c d pb pl H HF ∧ HF c = some (.ins CRd dx (rdF o n k)) ∧ HF d = some (.ins CRd dy (rdF ob nb kx)) ∧ HF pb = some (.lst ((Lb ++ Lx).map sv)) ∧ HeldAt c d pb pl (m + (i + 1)) HF ∧ Fed ws n k0 (t.take (i + 1)) L k ∧ Fed wb nb kb (bt.take (i + 1)) Lx kx ∧ HF pt = some (.lst (L.map sv)) ∧ H pt = none := fun HF s =>
              ⟨(g1.trans (.same s2)).trans (.same (s3.trans s)), s _ _ (s3 _ _ c3), s _ _ (s3 _ _ d3), s _ _ (s3 _ _ pb3), ⟨hs1, s _ _ (s3 _ _ f1), by omega, fun v hv => (f3 v hv).out (.same (s3.trans s))⟩, by rw [tk1]; exact g6.no (er ▸ hr), g7, s _ _ (s3 _ _ pt3), npt⟩
            have c4 := s3 _ _ c3
            have o4 := s3 _ _ o3
            have d4 := s3 _ _ d3
            have pb4 := s3 _ _ pb3
            have pt4 := s3 _ _ pt3
            fail "gi"
            refine ⟨dx, o, n, k, zs, c4, o4, cz, kl', .str (by show 1 ≤ 100000; decide), (fun _ z => by rw [signV_one hx] at z; cases z), fun _ x' ex' _ r' hr' => ?_, fun z => absurd rfl z⟩
            obtain rfl : x = x' := (List.cons.inj (sv_inj.mp ex')).1
            obtain rfl := (hr'.perm pz).uniq wt hr
            refine ⟨fun _ p5 t5 H5 s5 np5 nt5 hp5 ht5 => ?_, fun L2 k2 e2 => (by rw [er] at e2; cases e2)⟩
            unfold refusedW at ht5
            have l5 := s5 _ _ hl
            have okn := ok_nil
            have c5 := s5 _ _ c4
            have kc : k.length ≤ 100000 := by omega
            fail "gi"
            refine itd (fun e3 => ?_) fun e3 => ?_
            · fail "gi"
              refine ⟨dx, o, n, k, by fail "look", kc, ?_⟩
              fail "gi"
              refine itn (fun e => absurd rfl e) fun _ => ?_
              exact ⟨L, Lx, k, kx, pt, _, _, _, _, _, _, _, rfl, fin2 _ (s5.trans (by fail "same"))⟩
            · exact ⟨L, Lx, k, kx, pt, _, _, _, _, _, _, _, rfl, fin2 _ (s5.trans (by fail "same"))⟩
    · rintro σ' H' ⟨L, Lx, k, kx, pt, y8, y9, y10, y11, y12, y13, y14, rfl, g1, g2, g3, g4, g5, g6, g7, g8, npt⟩
      fail "gi"
      rename_i tt ntt
      rw [List.take_length] at g6
      obtain ⟨hs1, f1, f2, f3⟩ := id g5
      exact q L Lx k kx g6 g7 pt tt _ (g1.trans (.same (new ntt))) (new ntt _ _ g2) (new ntt _ _ g3) (new ntt _ _ g4) (g5.out (.same (new ntt)) (by rw [f1]; exact new ntt _ _ f1)) (new ntt _ _ g8) L2.upd_same

theorem mn2 (a b : Nat) : (if (b : Int) < (a : Int) then (b : Int) else (a : Int)) = ((min a b : Nat) : Int) := by
  by_cases h : (b : Int) < a
  · rw [if_pos h]; omega
  · rw [if_neg h]; omega
theorem Fed.nil' {ws : List Wd} {n : Nat} {k0 t k : Wd} {L : List Wd} (f : Fed ws n k0 t L k) (e : t = []) : L = [] ∧ k = k0 := by
  cases f with
  | nil => exact ⟨rfl, rfl⟩
  | no _ _ => exact absurd (List.append_eq_nil_iff.mp e).2 (by simp)
  | tell _ _ => exact absurd (List.append_eq_nil_iff.mp e).2 (by simp)
theorem rows_dict {a b t : Wd} {p q : Addr} : valV (mergeK [] [((.inr (S a) : Key), .ref p), ((.inr (S b) : Key), .ref q)]) (.inr (S t) : Key) = if t = b then some (V.ref q) else if t = a then some (V.ref p) else none := by
  show valV (putK (putK [] (.inr (S a) : Key) (.ref p)) (.inr (S b) : Key) (.ref q)) (.inr (S t) : Key) = _
  rw [valV_put, valV_put, valV_nil]
  have h : ∀ x : Wd, ((.inr (S t) : Key) = .inr (S x)) ↔ t = x := fun x => ⟨fun z => S_inj.mp (Sum.inr.inj z), fun z => by rw [z]⟩
  simp only [h]
theorem upd_two {G : Hp} {a b : Addr} {u v : HO} (_ : G a = none) (n : a ≠ b) : L2.upd (L2.upd G a u) b v a = some u := by rw [upd_ne n, L2.upd_same]
theorem upd_last {G : Hp} {a b : Addr} {u v : HO} (_ : G a = none) : L2.upd (L2.upd G a u) b v b = some v := L2.upd_same
theorem take_code {ws : List Wd} (c : Code ws) : Code (ws.take 1) :=
  ⟨c.nd.sublist (List.take_sublist 1 ws), by have := c.le; rw [List.length_take]; omega, fun w h => c.wd w (List.mem_of_mem_take h)⟩
theorem rep_map (k : Nat) (xs : List Wd) : (List.replicate k (xs.map sv)).flatten = ((List.replicate k xs).flatten).map sv := by
  rw [List.map_flatten, List.map_replicate]
theorem rep_len (k : Nat) (xs : List Wd) : (List.replicate k xs).flatten.length = k * xs.length := by simp
theorem rep_mem {k : Nat} {xs : List Wd} : ∀ w ∈ (List.replicate k xs).flatten, w ∈ xs := fun w hw => by
  obtain ⟨l, hl, h⟩ := List.mem_flatten.mp hw
  rw [(List.mem_replicate.mp hl).2] at h
  exact h
theorem one_wait {ws P : List Wd} {h : Wd → Nat} {a : Option Nat} {b : Option (Wd × Wd)} (w : WaitIs (ws.take 1) P h a b) : some 0 = a := by
  have same : ∀ x ∈ ws.take 1, ∀ y ∈ ws.take 1, x = y := by
    cases ws with
    | nil => exact fun x hx => nomatch hx
    | cons z zs => exact fun x hx y hy => (List.mem_singleton.mp hx).trans (List.mem_singleton.mp hy).symm
  have no : ∀ q, ¬ IsPair (ws.take 1) q := fun q hq => by
    obtain ⟨h1, h2, h3⟩ := hq
    have e := same _ h1 _ h2
    rcases h3 with ⟨h3, _⟩ | ⟨h3, _⟩
    · exact h3 e
    · rw [e] at h3
      exact List.lt_irrefl _ h3
  cases w with
  | out h _ => exact absurd h (no _)
  | nil _ => rfl
  | «at» h _ _ => exact absurd h (no _)
theorem ended_one {CRd c pw dx o : Addr} {n : Nat} {k1 : Wd} {zs ws : List Wd} {H2 : Hp} {Q : V → Hp → Prop} (hc : H2 c = some (.ins CRd dx (rdF o n k1))) (ho : H2 o = some (.lst (zs.map sv))) (pz : zs.Perm ws) (hp : H2 pw = some (.lst (ws.map sv))) (cw : Code ws) (kl : k1.length ≤ 900) (wt : Waits ws n)
    (key : ∀ (A : List Wd) (k2 : Wd) (l3 t3 : Addr) (H3 : Hp), Beh c H2 H3 → H2 l3 = none → H2 t3 = none → H3 l3 = some (.lst (A.map sv)) → H3 t3 = some (.tup [.ref l3, sv k2]) → H3 c = some (.ins CRd dx (rdF o n k2)) → ((k2 = k1 ∧ A = [] ∧ ∀ B, ¬ Parting ws k1 B) ∨ (k2 = [] ∧ Parting ws k1 A)) → Q (.ref t3) H3) :
    ∃ (dx o : Addr) (n m : Nat) (zs ws : List Wd), H2 c = some (.ins CRd dx (rdF o n k1)) ∧ H2 o = some (.lst (zs.map sv)) ∧ zs.Perm ws ∧ H2 pw = some (.lst (ws.map sv)) ∧ Code ws ∧ k1.length ≤ 900 ∧ Waits ws m ∧
      ((∀ A, ¬ Parting ws k1 A) → ∀ l t H', Same H2 H' → H2 l = none → H2 t = none → H' l = some (.lst []) → H' t = some (.tup [.ref l, sv k1]) → Q (.ref t) H') ∧
      ∀ A, Parting ws k1 A → ∀ l t H', Beh c H2 H' → H2 l = none → H2 t = none → H' l = some (.lst (A.map sv)) → H' t = some (.tup [.ref l, sv []]) → H' c = some (.ins CRd dx (rdF o n [])) → Q (.ref t) H' :=
  ⟨dx, o, n, n, zs, ws, hc, ho, pz, hp, cw, kl, wt, fun no l t H3 s nl nt hl ht => key [] k1 l t H3 (.same s) nl nt hl ht (s _ _ hc) (.inl ⟨rfl, rfl, no⟩),
    fun A hA l t H3 b nl nt hl ht hc3 => key A [] l t H3 b nl nt hl ht hc3 (.inr ⟨rfl, hA⟩)⟩
theorem row_done {ws : List Wd} {n : Nat} {t k1 k2 : Wd} {L A R : List Wd} (a : Waits ws n) (cw : Code ws) (ne : ∀ w ∈ ws, w ≠ []) (f : Fed ws n [] t L k1) (d : (k2 = k1 ∧ A = [] ∧ ∀ B, ¬ Parting ws k1 B) ∨ (k2 = [] ∧ Parting ws k1 A)) (hR : ∀ w ∈ R, w ∈ ws) (e : R.flatten = t) : L ++ A = R := by
  obtain ⟨R', e1, e2⟩ := f.row a ne hR (y := []) (by rw [e, List.append_nil])
  rw [List.append_nil] at e2
  have pR : Parting ws k1 R' := ⟨fun w h => hR w (by rw [e1]; exact List.mem_append_right _ h), e2⟩
  rcases d with ⟨_, _, no⟩ | ⟨_, hA⟩
  · exact absurd pR (no R')
  · rw [e1, a.one cw hA pR]
theorem ended_len {ws : List Wd} {k1 k2 : Wd} {A : List Wd} (d : (k2 = k1 ∧ A = [] ∧ ∀ B, ¬ Parting ws k1 B) ∨ (k2 = [] ∧ Parting ws k1 A)) : k2.length ≤ k1.length ∧ A.flatten.length ≤ k1.length ∧ ∀ w ∈ A, w ∈ ws := by
  rcases d with ⟨e1, e2, _⟩ | ⟨e1, hA⟩
  · rw [e1, e2]; exact ⟨Nat.le_refl _, Nat.zero_le _, fun _ h => nomatch h⟩
  · rw [e1, hA.2]; exact ⟨Nat.zero_le _, Nat.le_refl _, hA.1⟩
/-- what the reader of one word tells -/
theorem fed_one {ws : List Wd} {m fi : Nat} {bt kx : Wd} {R Lx : List Wd} (a : Waits (ws.take 1) 0) (ne : ∀ w ∈ ws.take 1, w ≠ []) (hR : ∀ w ∈ R, w ∈ ws.take 1) (eR : R.flatten = bt) (ef : min m bt.length = fi) (f : Fed (ws.take 1) 0 [] (bt.take m) Lx kx) :
    Lx.flatten.length + kx.length = fi ∧ Lx.length ≤ R.length ∧ ∀ w0 r, ws = w0 :: r → 0 < w0.length ∧ Lx = List.replicate (fi / w0.length) w0 := by
  obtain ⟨R', e1, e2⟩ := f.row a ne hR (y := bt.drop m) (by rw [eR, List.take_append_drop])
  have h1 := congrArg (fun l : List Wd => l.flatten.length) e1
  have h2 := congrArg List.length e2
  simp only [List.flatten_append, List.length_append] at h1
  rw [eR] at h1
  rw [List.length_append, List.length_drop] at h2
  have s : Lx.flatten.length + kx.length = fi := by omega
  refine ⟨s, by rw [e1, List.length_append]; omega, fun w0 r ew => ?_⟩
  have t1 : ws.take 1 = [w0] := by rw [ew]; rfl
  rw [t1] at ne a f
  have w0p := List.length_pos_iff.mpr (ne w0 (List.mem_singleton.mpr rfl))
  have al : Lx = List.replicate Lx.length w0 := List.eq_replicate_iff.mpr ⟨rfl, fun w h => List.mem_singleton.mp (f.len.2 w h)⟩
  have fl : Lx.flatten.length = Lx.length * w0.length := by rw [al]; simp
  have sh : kx.length < w0.length := by
    rcases f.short (.inl (Nat.le_refl _)) with h | ⟨w, hw, h⟩
    · omega
    · rw [List.mem_singleton.mp hw] at h; exact h
  refine ⟨w0p, ?_⟩
  have : fi / w0.length = Lx.length := by
    rw [← s, fl, Nat.add_comm, Nat.add_mul_div_right _ _ w0p, Nat.div_eq_of_lt sh, Nat.zero_add]
  rw [this]; exact al
abbrev s_law : Stmt := top 64
theorem sc_law : FnScope ["_law_script", "_law_words_here", "_law_most", "_law_handed", "_law_reader", "_law_row_here", "_law_text_here", "_law_held", "_law_beside", "_law_rows", "_law_kept", "_law_first", "_law_turn", "_law_fed_here", "_law_ended_here", "_law_pair"] ["_law_script"] (defScope s_law) := ⟨rfl, rfl, rfl, by decide +kernel, rfl, by decide +kernel, by decide +kernel⟩
def sp_law (K : PySem.W.Frag) : Sp := fun vs H Q _ => ∃ (a : Addr) (ns : List Int), vs = [.ref a] ∧ SqL K H a (ns.map V.int) ∧ ns.length ≤ 63 ∧ ∀ H', Q (.bl true) H'
set_option maxHeartbeats 3000000
theorem ok_law {fl : Addr} {fd : FuncData} (B : Bi mg) (T_Reader : ReaderC K CRd) (F : FunD K "law" "law" (defArgs s_law) (defBody s_law) (defScope s_law) [] [] fl fd) (c_law_words : Cal P w K mg base CX0 "_law_words" 4 ["_law_script", "_law_first"] (sp_law_words K)) (c_wait : Cal P w K mg base CX0 "wait" 7 ["words"] sp_wait) (c_law_made : Cal P w K mg base CX0 "_law_made" 10 ["_law_words_here"] (sp_law_made CRd)) (c_law_row : Cal P w K mg base CX0 "_law_row" 2 ["_law_script", "_law_first", "_law_words_here", "_law_most"] (sp_law_row K)) (c_law_text : Cal P w K mg base CX0 "_law_text" 3 ["_law_script", "_law_first", "_law_words_here"] (sp_law_text K)) (c_Reader___init__ : CalI P w K mg base (L2N.CX P w) CRd "Reader" 8 ["self", "words"] (sp_Reader___init__ CRd K)) (c_law_at : Cal P w K mg base CX0 "_law_at" 1 ["_law_script", "_law_k"] (sp_law_at K)) (c_law_fed : Cal P w K mg base CX0 "_law_fed" 8 ["_law_reader", "_law_words_here", "_law_most", "_law_text_here", "_law_cell", "_law_kept", "_law_beside"] (sp_law_fed CRd)) (c_law_ended : Cal P w K mg base CX0 "_law_ended" 7 ["_law_reader", "_law_words_here", "_law_kept"] (sp_law_ended CRd)) (c_law_next_text : Cal P w K mg base CX0 "_law_next_text" 1 ["_law_words_here", "_law_kept", "_law_row_here", "_law_turn"] sp_law_next_text) (c_Reader_many : CalM P w K mg base CX0 CRd "many" 1 ["self"] (sp_Reader_many CRd)) (c_law_other_reader : Cal P w K mg base CX0 "_law_other_reader" 10 ["_law_words_here", "_law_row_here"] (sp_law_other_reader CRd)) : FnOk P w K mg base CX0 12 fl fd ["_law_script"] (sp_law K) := by
  have nd := sc_law.nd
  obtain ⟨R_cl, R_n1, R_n2, R_n3, R_is⟩ := T_Reader
  refine F.ok sc_law (fun vs H Q E h => ?_) (fun cdv A outer s H vs Q E hr h => ?_)
  · obtain ⟨_, _, rfl, _⟩ := h
    rfl
  · obtain ⟨sa, ns, rfl, hS, ln, q⟩ := h
    refine ⟨_, PSs.nox (pss_cons (ps_set (i := 1) nd rfl (.inl rfl) (pe_cal c_law_words hr (pa_cons (pv 0) (pa_cons pe_int pa_nil))))
      (pss_cons (ps_set (i := 2) nd rfl (.inl rfl) (pe_cal c_wait hr (pa_cons (pe_callTy (r := rListOf K) call_listl (by rfl) B.list (by decide +kernel) (pa_cons (pv 1) pa_nil)) pa_nil)))
      (pss_cons (ps_set (i := 3) nd rfl (.inl rfl) (pe_callTy (r := rListOf K) call_listl (by rfl) B.list (by decide +kernel) (pa_cons (pv 1) pa_nil)))
      (pss_cons (ps_set (i := 4) nd rfl (.inl rfl) (pe_cal c_law_made hr (pa_cons (pv 3) pa_nil)))
      (pss_cons (ps_if (pt_cmpR op_isN (pv 2) pe_non (nomark _))
        (pss_one (ps_ret (pe_and (pe_cmpR (r := rEqP K) (op_eqp hr.units) (pv 4) (pe_lst (pa_cons (pe_w [119, 97, 105, 116] rfl) pa_nil)) (nomark _)) (pe_one (pe_cmpR (r := rEqP K) (op_eqp hr.units) (pv 3) (pv 1) (nomark _))))))
        pss_nil)
      (pss_cons (ps_if (PW.pt (pw_or (pt_val (pe_callB (call_isO R_is) (by rfl) B.isinstance (by decide +kernel) (pa_cons (pv 4) (pa_cons (pe_ty .lst (by rfl) B.list (by decide +kernel)) pa_nil)))) (pw_or1 (pt_cmpR (r := rNeP K) (op_nep hr.units) (pv 3) (pv 1) (nomark _)))))
        (pss_one (ps_ret pe_bl))
        pss_nil)
      (pss_cons (ps_expr (pe_bm0 PySem.F.plainAttrs_list PySem.F.slot_list_clear PySem.F.type_list_clear mt_clrn (pv 3) ))
      (pss_cons (ps_set (i := 5) nd rfl (.inl rfl) (pe_cal c_law_row hr (pa_cons (pv 0) (pa_cons pe_int (pa_cons (pv 1) (pa_cons pe_int pa_nil))))))
      (pss_cons (ps_set (i := 6) nd rfl (.inl rfl) (pe_cal c_law_text hr (pa_cons (pv 0) (pa_cons pe_int (pa_cons (pv 1) pa_nil)))))
      (pss_cons (ps_set (i := 7) nd rfl (.inl rfl) (pe_lst pa_nil))
      (pss_cons (ps_set (i := 8) nd rfl (.inl rfl) (pe_tup (pa_cons (pe_calIQ c_Reader___init__ hr (pa_cons (pe_slice (r := rSlLn K) sl_l (pv 1) po_none (po_some pe_int)) pa_nil)) (pa_cons (pe_m1 (r := rJoW K) PySem.F.slot_str_join PySem.F.type_str_join mt_jow (pe_w [] rfl) (pe_op (r := rRepL) op_repl (pe_slice (r := rSlLn K) sl_l (pv 1) po_none (po_some pe_int)) pe_int)) (pa_cons (pe_lst pa_nil) (pa_cons (pv 7) pa_nil))))))
      (pss_cons (ps_set (i := 9) nd rfl (.inl rfl) (pe_disp (pps_cons (pe_m1 (r := rJoW K) PySem.F.slot_str_join PySem.F.type_str_join mt_jow (pe_w [] rfl) (pv 5)) (pv 5) (pps_cons (pe_m1 (r := rJoW K) PySem.F.slot_str_join PySem.F.type_str_join mt_jow (pe_w [] rfl) (pe_rev (pv 5) (pe_un un_neg pe_int))) (pe_rev (pv 5) (pe_un un_neg pe_int)) pps_nil)) (by rfl) (by rfl) (fun z => by cases z) (by decide)))
      (pss_cons (ps_set (i := 10) nd rfl (.inl rfl) (pe_w [] rfl))
      (pss_cons (ps_set (i := 11) nd rfl (.inl rfl) (pe_callB (call_min2 rfl) (by rfl) B.min (by decide +kernel) (pa_cons (pe_callB call_lenw (by rfl) B.len PySem.boot_len (pa_cons (pv 6) pa_nil)) (pa_cons (pe_callB call_lenw (by rfl) B.len PySem.boot_len (pa_cons (pe_ix (r := rIxTn K) ix_t (pv 8) pe_int (fun _ _ => rfl)) pa_nil)) pa_nil))))
      (pss_cons (ps_for PassesOwn.never rfl (pi_range1 (by rfl) B.range (pa_cons pe_int pa_nil)) (pg_name (i := 12) nd rfl (.inl rfl))
        (pss_cons (ps_set (i := 13) nd rfl (.inl rfl) (pe_cal c_law_fed hr (pa_cons (pv 4) (pa_cons (pv 1) (pa_cons (pv 2) (pa_cons (pv 6) (pa_cons (pe_op op_add (pe_cal c_law_at hr (pa_cons (pv 0) (pa_cons pe_int pa_nil))) (pv 12)) (pa_cons (pv 10) (pa_cons (pv 8) pa_nil)))))))))
        (pss_cons (ps_if (pt_cmpR op_isN (pv 13) pe_non (nomark _))
          (pss_one (ps_ret pe_bl))
          pss_nil)
        (pss_cons (ps_set (i := 14) nd rfl (.inl rfl) (pe_cal c_law_ended hr (pa_cons (pv 4) (pa_cons (pv 1) (pa_cons (pe_ix (r := rIxTn K) ix_t (pv 13) pe_int (fun _ _ => rfl)) pa_nil)))))
        (pss_cons (ps_if (PW.pt (pw_or (pt_cmpR op_isN (pv 14) pe_non (nomark _)) (pw_or1 (PW.pt (pw_and (pt_cmpR op_eqw (pv 10) (pe_w [] rfl) (nomark _)) (pw_and (pt_cmp (pc_dinN (hu_of hr) (pv 6) (pv 9))) (pw_and1 (pt_cmpR (r := rNeP K) (op_nep hr.units) (pe_op op_catl (pe_ix (r := rIxTn K) ix_t (pv 13) pe_int (fun _ _ => rfl)) (pe_ix (r := rIxTn K) ix_t (pv 14) pe_int (fun _ _ => rfl))) (pe_dgetN (hu_of hr) (pv 9) (pv 6) (fun _ _ => rfl)) (nomark _)))))))))
          (pss_one (ps_ret pe_bl))
          pss_nil)
        (pss_cons (ps_set (i := 10) nd rfl (.inl rfl) (pe_ix (r := rIxTn K) ix_t (pv 14) pe_int (fun _ _ => rfl)))
        (pss_cons (ps_set (i := 6) nd rfl (.inl rfl) (pe_cal c_law_next_text hr (pa_cons (pv 1) (pa_cons (pv 10) (pa_cons (pv 5) (pa_cons (pv 12) pa_nil))))))
        (pss_cons (ps_expr (pe_bm PySem.F.plainAttrs_list PySem.F.slot_list_append PySem.F.type_list_append mt_app (pv 7) (pa_cons (pe_tup (pa_cons (pe_ix (r := rIxTn K) ix_t (pv 14) pe_int (fun _ _ => rfl)) (pa_cons (pe_callTy (r := rListOf K) call_listl (by rfl) B.list (by decide +kernel) (pa_cons (pe_ix (r := rIxTn K) ix_t (pv 14) pe_int (fun _ _ => rfl)) pa_nil)) pa_nil))) pa_nil)))
        (pss_one (ps_set (i := 8) nd rfl (.inl rfl) (pe_tup (pa_cons (pe_ix (r := rIxTn K) ix_t (pv 8) pe_int (fun _ _ => rfl)) (pa_cons (pe_w [] rfl) (pa_cons (pe_ix (r := rIxTn K) ix_t (pv 8) pe_int (fun _ _ => rfl)) (pa_cons (pv 7) pa_nil)))))))))))))))
      (pss_cons (ps_if (PW.pt (pw_and (pt_cmpR (r := rNeP K) (op_nep hr.units) (pv 1) (pe_lst pa_nil) (nomark _)) (pw_and1 (pt_cmpR (r := rNeP K) (op_nep hr.units) (pe_ix (r := rIxTn K) ix_t (pv 8) pe_int (fun _ _ => rfl)) (pe_op (r := rRepL) op_repl (pe_slice (r := rSlLn K) sl_l (pv 1) po_none (po_some pe_int)) (pe_op op_fdiv (pv 11) (pe_callB call_lenw (by rfl) B.len PySem.boot_len (pa_cons (pe_ix (r := rIxLn K) ix_l (pv 1) pe_int (fun _ _ => rfl)) pa_nil)))) (nomark _)))))
        (pss_one (ps_ret pe_bl))
        pss_nil)
      (pss_cons (ps_if (pt_cmpR op_nen (pe_op op_add (pe_callB call_lenw (by rfl) B.len PySem.boot_len (pa_cons (pe_m1 (r := rJoW K) PySem.F.slot_str_join PySem.F.type_str_join mt_jow (pe_w [] rfl) (pe_ix (r := rIxTn K) ix_t (pv 8) pe_int (fun _ _ => rfl))) pa_nil)) (pe_calM0 c_Reader_many R_cl hr (pe_ix (r := rIxTn K) ix_t (pv 8) pe_int (fun _ _ => rfl)))) (pv 11) (nomark _))
        (pss_one (ps_ret pe_bl))
        pss_nil)
      (pss_one (ps_ret (pe_and (pe_cal c_law_other_reader hr (pa_cons (pv 1) (pa_cons (pe_rev (pv 5) (pe_un un_neg pe_int)) pa_nil))) (pe_one (pe_cmpR (r := rEqP K) (op_eqp hr.units) (pe_lc (own := [("_law_pair", 15)]) (g := gName 15) rfl nd (pi_list (pv 7)) (blkOk_by (own := [("_law_pair", 15)]) (N := ["_law_script", "_law_words_here", "_law_most", "_law_handed", "_law_reader", "_law_row_here", "_law_text_here", "_law_held", "_law_beside", "_law_rows", "_law_kept", "_law_first", "_law_turn", "_law_fed_here", "_law_ended_here", "_law_pair"]) (sc := defScope s_law) (by decide +kernel)) (fun _ _ _ _ _ => (pg_name (i := 15) nd rfl (.inl rfl))) (fun _ _ _ _ _ => (pts_one (pt_cmpR (r := rNeP K) (op_nep hr.units) (pe_ix (r := rIxTn K) ix_t (pv 15) pe_int (fun _ _ => rfl)) (pe_ix (r := rIxTn K) ix_t (pv 15) pe_int (fun _ _ => rfl)) (nomark _)))) (fun _ _ _ _ _ => (pv 15))) (pe_lst pa_nil) (nomark _))))))))))))))))))))))), ?_⟩
    try dsimp only [cxOf, Cx.nox, Cx.wish]
    fail "gi"
    intro ws cw
    fail "gi"
    rename_i pw H0 s0 npw hpw p2 np2
    have hS0 := s0.seq hS
    intro E0 P0 h0 a0 b0 tl th tw H1 s1
    have s01 : Same H0 H1 := (new np2).trans s1
    have hpw1 := s01 _ _ hpw
    have hS1 := s01.seq hS0
    clear s1 np2
    cases a0 with
    | none =>
      fail "gi"
      rename_i ph nph
      intro zs E P h a b pz t1 t2 t3
      obtain rfl : none = a := tw.uniq tl t1 th t2 t3
      refine ⟨fun _ l H2 s2 hl => ?_, fun n' en => by cases en⟩
      have ph2 := s2 _ _ (L2.upd_same : L2.upd H1 ph (.lst (ws.map sv)) ph = _)
      have pw2 := s2 _ _ (new nph _ _ hpw1)
      have okw := ok_strs ws
      fail "gi"
      exact (congrArg (fun b => Q (V.bl b) _) (eqv_self okw)).mpr (q _)
    | some n =>
      fail "gi"
      rename_i ph nph
      intro zs E P h a b pz t1 t2 t3
      obtain rfl : some n = a := tw.uniq tl t1 th t2 t3
      refine ⟨(fun z => by cases z), fun n' en c dx o H2 s2 nc no ho hc => ?_⟩
      obtain rfl : n = n' := Option.some.inj en
      have ph2 := s2 _ _ (L2.upd_same : L2.upd H1 ph (.lst (ws.map sv)) ph = _)
      have pw2 := s2 _ _ (new nph _ _ hpw1)
      have hS2 := (s2.seq ((new nph).seq hS1))
      have okw := ok_strs ws
      fail "gi"
      refine .inr ⟨c, dx, _, rfl, hc, ?_⟩
      fail "gi"
      refine itnb (fun w => absurd ((eqv_self okw).symm.trans w) (by simp)) fun _ => ?_
      have sc : Same H1 (L2.upd H2 ph (.lst [])) := mutd ((new nph).trans s2) nph
      have pw3 := sc _ _ hpw1
      have hS3 := sc.seq hS1
      have cph : c ≠ ph := fun z => by rw [z, L2.upd_same] at nc; cases nc
      have oph : o ≠ ph := fun z => by rw [z, L2.upd_same] at no; cases no
      have hc3 : L2.upd H2 ph (.lst []) c = some (.ins CRd dx (rdF o n [])) := by rw [upd_ne cph]; exact hc
      have ho3 : L2.upd H2 ph (.lst []) o = some (.lst (zs.map sv)) := by rw [upd_ne oph]; exact ho
      have wt : Waits ws n := tw.waits tl th
      fail "gi"
      generalize L2.upd H2 ph (.lst []) = H3 at *
      intro rs rl hrs
      fail "gi"
      rename_i pr H4 s4 npr hpr
      intro t tl8 tabc
      fail "gi"
      rename_i H5 s5 pl npl ps nps
      have s35 : Same H3 H5 := s4.trans s5
      have hpw5 := s35 _ _ pw3
      have hS5 := s35.seq hS3
      have hc5 := s35 _ _ hc3
      have ho5 := s35 _ _ ho3
      have hpr5 := s5 _ _ hpr
      have e1 : cutV (ws.map sv) none (some 1) = (ws.take 1).map sv := by
        rw [cutV_toI (by decide), ← List.map_take]; rfl
      rw [e1]
      have cw1 := take_code cw
      refine (show ∀ _ _, _ from fun d dy nd ndy ned => ?_)
      have psd : ps ≠ d := fun z => by rw [z, L2.upd_same] at nd; cases nd
      refine ⟨d, ps, rfl, dy, ws.take 1, L2.upd_same, by rw [upd_ne psd]; exact new ndy _ _ L2.upd_same, cw1, fun zb E4 P4 h4 a4 b4 pzb u1 u2 u3 => ?_⟩
      obtain rfl := one_wait (ws := ws) u3
      refine ⟨(fun z => by cases z), fun nb enb ob H6 b6 nob hob hd => ⟨rfl, ?_⟩⟩
      obtain rfl : 0 = nb := Option.some.inj enb
      have wtb := u3.waits u1 u2
      have s57 : Same H5 (L2.upd (L2.upd H5 pl (.lst [])) ps (.lst ((ws.take 1).map sv))) := (new npl).trans (new nps)
      have s6 : ∀ {u : Addr} {v : HO}, L2.upd (L2.upd H5 pl (.lst [])) ps (.lst ((ws.take 1).map sv)) u = some v → H6 u = some v := fun {u v} e => by
        have ud : u ≠ d := fun z => by rw [z, nd] at e; cases e
        exact b6 _ _ ud (by rw [upd_ne ud]; exact new ndy _ _ e)
      have pl6 := s6 (new nps _ _ (L2.upd_same : L2.upd H5 pl (.lst []) pl = _))
      have s56 : Same H5 H6 := fun u v e => s6 (s57 _ _ e)
      have nd5 : H5 d = none := s57.free nd
      have hpw6 := s56 _ _ hpw5
      have hS6 := s56.seq hS5
      have hc6 := s56 _ _ hc5
      have ho6 := s56 _ _ ho5
      have hpr6 := s56 _ _ hpr5
      have ll1 : (cutV (ws.map sv) none (some 1)).length ≤ 10000 := by rw [e1, List.length_map, List.length_take]; omega
      fail "gi"
      rename_i p1 np1 p2 np2
      have hR1 : ∀ w ∈ (List.replicate 4 (ws.take 1)).flatten, w ∈ ws.take 1 := rep_mem
      have lR1 : (List.replicate 4 (ws.take 1)).flatten.length ≤ 4 := by
        rw [rep_len, List.length_take]; omega
      have lbt : (List.replicate 4 (ws.take 1)).flatten.flatten.length ≤ (List.replicate 4 (ws.take 1)).flatten.length * 10 := flat_len fun w h => cw1.ten (hR1 w h)
      refine ⟨(List.replicate 4 (ws.take 1)).flatten, SqL.of (by rw [L2.upd_same, e1]; exact congrArg (fun l => some (HO.lst l)) (rep_map 4 _)), by omega, ?_⟩
      generalize eR1 : (List.replicate 4 (ws.take 1)).flatten = R1 at *
      generalize ebt : R1.flatten = bt at *
      have lbt' : bt.length ≤ 100000 := by omega
      have rl5 : rs.length ≤ 5 := by omega
      have rfl1 : rs.flatten.length ≤ rs.length * 10 := flat_len fun r h => cw.ten (hrs r h)
      have hrr : ∀ r ∈ rs.reverse, r ∈ ws := fun r h => hrs r (List.mem_reverse.mp h)
      have rfl2 : rs.reverse.flatten.length ≤ rs.reverse.length * 10 := flat_len fun r h => cw.ten (hrr r h)
      rw [List.length_reverse] at rfl2
      have rfl3 : rs.flatten.length ≤ 100000 := by omega
      have rfl4 : rs.reverse.flatten.length ≤ 100000 := by omega
      fail "gi"
      rename_i pb npb be nbe pd npd p3 np3
      refine ⟨rs.reverse, SqL.of (by rw [L2.upd_same, List.map_reverse]), rfl4, ?_⟩
      fail "gi"
      rename_i p4 np4
      refine ⟨[(.inr (S rs.flatten), .ref pr), (.inr (S rs.reverse.flatten), .ref p4)], rfl, by show 2 ≤ 15; decide, ?_⟩
      have s6A := (((new (o := .lst (cutV (ws.map sv) none (some 1))) np1).trans (new (o := .lst (List.replicate (Int.toNat 4) (cutV (ws.map sv) none (some 1))).flatten) np2)).trans ((new (o := .lst []) npb).trans (new (o := .tup [.ref d, sv bt, .ref pb, .ref pl]) nbe)))
      have sAB := mutd (o := .dK (mergeK [] [(.inr (S rs.flatten), .ref pr), (.inr (S rs.reverse.flatten), .ref p4)])) ((new (o := .dK []) npd).trans ((new (o := .lst (rs.map sv).reverse) np3).trans (new (o := .lst (rs.map sv).reverse) np4))) npd
      have s6B := s6A.trans sAB
      have pbB := sAB _ _ (new nbe _ _ L2.upd_same)
      have beB := sAB _ _ (L2.upd_same)
      have npd4 : pd ≠ p4 := fun z => by rw [← z, new np3 _ _ L2.upd_same] at np4; cases np4
      have p4B := upd_two (u := .lst (rs.map sv).reverse) (v := .dK (mergeK [] [(.inr (S rs.flatten), .ref pr), (.inr (S rs.reverse.flatten), .ref p4)])) np4 npd4.symm
      have pdB := upd_last (u := .lst (rs.map sv).reverse) (b := pd) (v := .dK (mergeK [] [(.inr (S rs.flatten), .ref pr), (.inr (S rs.reverse.flatten), .ref p4)])) np4
      have ndp : pb ≠ pl := fun z => by rw [z, new np2 _ _ (new np1 _ _ pl6)] at npb; cases npb
      generalize L2.upd (L2.upd _ p4 (.lst (rs.map sv).reverse)) pd (.dK (mergeK [] [(.inr (S rs.flatten), .ref pr), (.inr (S rs.reverse.flatten), .ref p4)])) = HB at *
      have hpwB := s6B _ _ hpw6
      have hcB := s6B _ _ hc6
      have hoB := s6B _ _ ho6
      have hprB := s6B _ _ hpr6
      have hdB := s6B _ _ hd
      have hobB := s6B _ _ hob
      have hplB := s6B _ _ pl6
      rw [← List.map_reverse] at p4B
      have ncd : c ≠ d := fun z => by rw [z, nd5] at hc5; cases hc5
      have s12 := (new (o := .lst (cutV (ws.map sv) none (some 1))) np1).trans (new (o := .lst (List.replicate (Int.toNat 4) (cutV (ws.map sv) none (some 1))).flatten) np2)
      have npb6 : H6 pb = none := s12.free npb
      have sBE := s12.trans (new (o := .lst []) npb)
      have sX := s6A.trans ((new (o := .dK []) npd).trans (new (o := .lst (rs.map sv).reverse) np3))
      have npld : pl ≠ d := fun z => by rw [z, nd5] at npl; exact absurd pl6 (by rw [z, hd]; exact fun w => by cases w)
      have ninO : Nin c d pb pl o := ⟨fun z => (by rw [z, hcB] at hoB; cases hoB), fun z => (by rw [z, hdB] at hoB; cases hoB), fun z => (by rw [z, npb6] at ho6; cases ho6), fun z => (by rw [z, npl] at ho5; cases ho5)⟩
      have ninW : Nin c d pb pl pw := ⟨fun z => (by rw [z, hcB] at hpwB; cases hpwB), fun z => (by rw [z, hdB] at hpwB; cases hpwB), fun z => (by rw [z, npb6] at hpw6; cases hpw6), fun z => (by rw [z, npl] at hpw5; cases hpw5)⟩
      have ninR : Nin c d pb pl pr := ⟨fun z => (by rw [z, hcB] at hprB; cases hprB), fun z => (by rw [z, hdB] at hprB; cases hprB), fun z => (by rw [z, npb6] at hpr6; cases hpr6), fun z => (by rw [z, npl] at hpr5; cases hpr5)⟩
      have ninOb : Nin c d pb pl ob := ⟨fun z => (by rw [z, hcB] at hobB; cases hobB), fun z => (by rw [z, hdB] at hobB; cases hobB), fun z => (by rw [z, npb6] at hob; cases hob), fun z => (by rw [z, upd_ne npld, new ndy _ _ (new nps _ _ L2.upd_same)] at nob; cases nob)⟩
      have ninBe : Nin c d pb pl be := ⟨fun z => (by rw [z, sBE _ _ hc6] at nbe; cases nbe), fun z => (by rw [z, sBE _ _ hd] at nbe; cases nbe), fun z => (by rw [z, L2.upd_same] at nbe; cases nbe), fun z => (by rw [z, sBE _ _ pl6] at nbe; cases nbe)⟩
      have ninPd : Nin c d pb pl pd := ⟨fun z => (by rw [z, hcB] at pdB; cases pdB), fun z => (by rw [z, hdB] at pdB; cases pdB), fun z => (by rw [z, pbB] at pdB; cases pdB), fun z => (by rw [z, hplB] at pdB; cases pdB)⟩
      have ninP4 : Nin c d pb pl p4 := ⟨fun z => (by rw [z, sX _ _ hc6] at np4; cases np4), fun z => (by rw [z, sX _ _ hd] at np4; cases np4), fun z => (by rw [z, new np3 _ _ (new npd _ _ (new nbe _ _ L2.upd_same))] at np4; cases np4), fun z => (by rw [z, sX _ _ pl6] at np4; cases np4)⟩
      have sHB : Same H HB := s0.trans (s01.trans (sc.trans (s35.trans (s56.trans s6B))))
      have sH5 : Same H H5 := s0.trans (s01.trans (sc.trans s35))
      have ncH : H c = none := (s0.trans (s01.trans (new (o := .lst (ws.map sv)) nph))).free nc
      have base : ∀ {H' : Hp}, Out c d pb pl HB H' → Same H H' := fun o u v e => o u v ⟨fun z => (by rw [z, ncH] at e; cases e), fun z => (by rw [z, sH5.free nd5] at e; cases e), fun z => (by rw [z, (sH5.trans s56).free npb6] at e; cases e), fun z => (by rw [z, sH5.free npl] at e; cases e)⟩ (sHB u v e)
      clear np1 np2 npb nbe npd np3 np4 sAB s6A s12 sBE sX s6B pl6 s6 s57 b6 nob
      clear hpw6 hS6 hc6 ho6 hpr6 hpw5 hS5 hc5 ho5 hpr5 hpr hS3 hS2 hS1 pw3 pw2 hpw1 hS0 hpw
      fail "gi"
      have wn1 : ∀ w ∈ ws.take 1, w ≠ [] := fun w hw => List.length_pos_iff.mp (cw1.wd w hw).1
      have wne : ∀ w ∈ ws, w ≠ [] := fun w hw => List.length_pos_iff.mp (cw.wd w hw).1
      rw [mn2]
      generalize efi : min t.length bt.length = fi
      refine for_range (fun i σ' H' => ∃ (tt k bti : Wd) (Lx : List Wd) (kx : Wd) (bi : Addr) (y13 y14 : Option V) (y12 : Option V), σ' = [some (.ref sa), some (.ref pw), some (.int n), some (.ref ph), some (.ref c), some (.ref pr), some (sv tt), some (.ref pl), some (.ref bi), some (.ref pd), some (sv k), some (.int fi), y12, y13, y14, none] ∧
          Out c d pb pl HB H' ∧ H' c = some (.ins CRd dx (rdF o n k)) ∧ H' d = some (.ins CRd dy (rdF ob 0 kx)) ∧ H' pb = some (.lst (Lx.map sv)) ∧ HeldAt c d pb pl (100 * i) H' ∧ H' bi = some (.tup [.ref d, sv bti, .ref pb, .ref pl]) ∧ Nin c d pb pl bi ∧ tt.length ≤ 81 ∧ Abc tt ∧ k.length ≤ 81 * i ∧
          ((i = 0 ∧ bti = bt ∧ kx = [] ∧ Lx = [] ∧ tt = t) ∨ (0 < i ∧ bti = [] ∧ Fed (ws.take 1) 0 [] (bt.take t.length) Lx kx)))
        ⟨t, [], bt, [], [], be, none, none, none, rfl, .refl, hcB, hdB, pbB, ⟨[], hplB, Nat.le_refl _, fun _ h => nomatch h⟩, beB, ninBe, tl8, tabc, Nat.zero_le _, .inl ⟨rfl, rfl, rfl, rfl, rfl⟩⟩ ?_ ?_
      · rintro i σ' H' hi ⟨tt, k, bti, Lx, kx, bi, y13, y14, y12, rfl, g1, g2, g3, g4, g5, g6, g7, g8, g9, g10, g11⟩
        have i3 : i < 3 := hi
        have hSH := (base g1).seq hS
        have pwH := g1 _ _ ninW hpwB
        have kl8 : k.length + tt.length ≤ 800 := by omega
        have oH := g1 _ _ ninO hoB
        have obH := g1 _ _ ninOb hobB
        have hbti : bti ≠ [] → kx = [] ∧ ∃ R1 : List Wd, (∀ w ∈ R1, w ∈ ws.take 1) ∧ R1.flatten = bti := by
          rcases g11 with ⟨_, z1, z2, _⟩ | ⟨_, z1, _⟩
          · exact fun _ => ⟨z2, R1, hR1, by rw [z1]; exact ebt⟩
          · exact fun z => absurd z1 z
        have lens : bti.length ≤ 100 ∧ kx.length ≤ 100 ∧ Lx.length ≤ 1000 := by
          rcases g11 with ⟨_, z1, z2, z3, _⟩ | ⟨_, z1, z2⟩
          · rw [z1, z2, z3]; exact ⟨by omega, Nat.zero_le _, Nat.zero_le _⟩
          · have l1 := z2.len.1
            have l2 := flat_ne fun w h => wn1 w (z2.len.2 w h)
            rw [List.length_take] at l1
            have h0 : ([] : Wd).length = 0 := rfl
            rw [z1]
            exact ⟨Nat.zero_le _, by omega, by omega⟩
        fail "gi"
        unfold tNil
        refine (show sp_law_fed CRd [.ref c, .ref pw, .int n, sv tt, .int _, sv k, .ref bi] H' _ _ from ?_)
        unfold sp_law_fed
        refine ⟨c, pw, n, tt, _, k, bi, rfl, dx, o, zs, ws, d, dy, ob, 0, zb, ws.take 1, pb, pl, bti, kx, Lx, 100 * i, g2, oH, pz, pwH, cw, wt, g9, kl8, g6, g3, obH, pzb, cw1, wtb, g4, g5, ncd, ndp, ninO, ninOb, ninW, g7, lens.1, lens.2.1, lens.2.2, by omega, hbti, fun L Lx1 k1 kx1 f1 f2 l t2 H2 o2 c2 d2 pb2 held2 hl2 ht2 => ?_⟩
        have fx : Fed (ws.take 1) 0 [] (bt.take t.length) (Lx ++ Lx1) kx1 := by
          rcases g11 with ⟨_, z1, z2, z3, z4⟩ | ⟨_, z1, z2⟩
          · rw [z1, z2, z4] at f2
            rw [z3]; exact f2
          · rw [z1] at f2
            obtain ⟨e1, e2⟩ := f2.nil' List.take_nil
            rw [e1, e2, List.append_nil]; exact z2
        have g1' := g1.trans o2
        have pwH2 := g1' _ _ ninW hpwB
        have oH2 := g1' _ _ ninO hoB
        have prH2 := g1' _ _ ninR hprB
        have p4H2 := g1' _ _ ninP4 p4B
        have pdH2 := g1' _ _ ninPd pdB
        have k1l := f1.len.1
        fail "gi"
        refine ended_one (Q := fun x H1 => gName 14 x _ H1 _) c2 oH2 pz pwH2 cw (by omega) wt fun A k2 l3 t3 H3 b3 nl3 nt3 hl3 ht3 c3 dn => ?_
        obtain ⟨k2l, Al, hA⟩ := ended_len dn
        have o3 : Out c d pb pl H2 H3 := .beh b3
        have g13 := g1'.trans o3
        have pw3 := g13 _ _ ninW hpwB
        have pr3 := g13 _ _ ninR hprB
        have p43 := g13 _ _ ninP4 p4B
        have pd3 := g13 _ _ ninPd pdB
        have pbc : pb ≠ c := fun z => by rw [z, hcB] at pbB; cases pbB
        have plc : pl ≠ c := fun z => by rw [z, hcB] at hplB; cases hplB
        have d3 := b3 _ _ ncd.symm d2
        have pb3 := b3 _ _ pbc pb2
        obtain ⟨hs1, j1, j2, j3⟩ := id held2
        have pl3 := b3 _ _ plc j1
        have l3' := b3 _ _ (fun z => by rw [z, c2] at hl2; cases hl2) hl2
        have t3' := b3 _ _ (fun z => by rw [z, c2] at ht2; cases ht2) ht2
        unfold gName
        dsimp only
        refine seqC (C := fun σ H' => σ = [some (.ref sa), some (.ref pw), some (.int n), some (.ref ph), some (.ref c), some (.ref pr), some (sv tt), some (.ref pl), some (.ref bi), some (.ref pd), some (sv k), some (.int fi), some (.int (0 + (i : Nat))), some (.ref t2), some (.ref t3), none] ∧ Same H3 H') ?mainA ?tailA
        · intro T tail
          have klo : k.length ≤ 100000 := by omega
          have ttlo : tt.length ≤ 100000 := by omega
          have Ll := flat_ne fun w h => wne w (f1.len.2 w h)
          have All := flat_ne fun w h => wne w (hA w h)
          have sumL : (L.map sv).length + (A.map sv).length ≤ 100000 := by rw [List.length_map, List.length_map]; omega
          fail "gi"
          refine itd (fun ek => ?_) fun ek => ?_
          · fail "gi"
            have rd := rows_dict (a := rs.flatten) (b := rs.reverse.flatten) (t := tt) (p := pr) (q := p4)
            by_cases e2 : tt = rs.reverse.flatten
            · rw [if_pos e2] at rd
              rw [rd]
              have eqL : L.map sv ++ A.map sv = rs.reverse.map sv := by
                rw [ek] at f1
                rw [← List.map_append, row_done wt cw wne f1 dn hrr e2.symm]
              have okw := ok_strs rs.reverse
              fail "gi"
              rename_i pn npn
              rw [eqL]
              have pr4 := new npn (o := .lst (rs.reverse.map sv)) _ _ p43
              have pd4 := new npn (o := .lst (rs.reverse.map sv)) _ _ pd3
              have pn4 : L2.upd H3 pn (.lst (rs.reverse.map sv)) pn = some (.lst (rs.reverse.map sv)) := L2.upd_same
              have s4 : Same H3 (L2.upd H3 pn (.lst (rs.reverse.map sv))) := new npn
              generalize L2.upd H3 pn (.lst (rs.reverse.map sv)) = H4 at *
              fail "gi"
              refine itnb (fun w => absurd ((eqv_self okw).symm.trans w) (by simp)) fun _ => ?_
              fail "gi"
              exact tail _ _ ⟨rfl, s4⟩
            · rw [if_neg e2] at rd
              by_cases e3 : tt = rs.flatten
              · rw [if_pos e3] at rd
                rw [rd]
                have eqL : L.map sv ++ A.map sv = rs.map sv := by
                  rw [ek] at f1
                  rw [← List.map_append, row_done wt cw wne f1 dn hrs e3.symm]
                have okw := ok_strs rs
                fail "gi"
                rename_i pn npn
                rw [eqL]
                have pr4 := new npn (o := .lst (rs.map sv)) _ _ pr3
                have pd4 := new npn (o := .lst (rs.map sv)) _ _ pd3
                have pn4 : L2.upd H3 pn (.lst (rs.map sv)) pn = some (.lst (rs.map sv)) := L2.upd_same
                have s4 : Same H3 (L2.upd H3 pn (.lst (rs.map sv))) := new npn
                generalize L2.upd H3 pn (.lst (rs.map sv)) = H4 at *
                fail "gi"
                refine itnb (fun w => absurd ((eqv_self okw).symm.trans w) (by simp)) fun _ => ?_
                fail "gi"
                exact tail _ _ ⟨rfl, s4⟩
              · rw [if_neg e3] at rd
                rw [rd]
                fail "gi"
                exact tail _ _ ⟨rfl, Same.refl _⟩
          · fail "gi"
            exact tail _ _ ⟨rfl, Same.refl _⟩
        · rintro σ1 H4 ⟨rfl, s4⟩
          have pw4 := s4 _ _ pw3
          have pr4 := s4 _ _ pr3
          fail "gi"
          refine ⟨ws, rs, pw4, cw, pr4, hrs, by omega, by omega, fun t' tl5 tabc' H5 s5 => ?_⟩
          have s35 := s4.trans s5
          have c5 := s35 _ _ c3
          have d5 := s35 _ _ d3
          have pb5 := s35 _ _ pb3
          have pl5 := s35 _ _ pl3
          have l5 := s35 _ _ hl3
          have t5 := s35 _ _ ht3
          have be5 := s35 _ _ (o3 _ _ g7 (o2 _ _ g7 g6))
          fail "gi"
          rename_i pc npc pT npT
          have s6 : Same H5 (L2.upd (L2.upd H5 pc (.lst (A.map sv))) pT (.tup [.ref l3, .ref pc])) := (new npc).trans (new npT)
          have cpl : c ≠ pl := plc.symm
          have dpl : d ≠ pl := fun z => by rw [z, hplB] at hdB; cases hdB
          have g5' : Out c d pb pl HB H5 := g13.trans (.same s35)
          have nl3' := (g1'.free c2 d2 pb2 j1 nl3).1
          have ninC := (g5'.free c5 d5 pb5 pl5 npc).1
          have ninT := ((g5'.trans (.same (new npc))).free (new npc _ _ c5) (new npc _ _ d5) (new npc _ _ pb5) (new npc _ _ pl5) npT).1
          have c6 : (L2.upd (L2.upd (L2.upd H5 pc (.lst (A.map sv))) pT (.tup [.ref l3, .ref pc])) pl (.lst (hs1 ++ [.ref pT]))) c = some (.ins CRd dx (rdF o n k2)) := by rw [upd_ne cpl]; exact s6 _ _ c5
          have d6 : (L2.upd (L2.upd (L2.upd H5 pc (.lst (A.map sv))) pT (.tup [.ref l3, .ref pc])) pl (.lst (hs1 ++ [.ref pT]))) d = some (.ins CRd dy (rdF ob 0 kx1)) := by rw [upd_ne dpl]; exact s6 _ _ d5
          have pb6 : (L2.upd (L2.upd (L2.upd H5 pc (.lst (A.map sv))) pT (.tup [.ref l3, .ref pc])) pl (.lst (hs1 ++ [.ref pT]))) pb = some (.lst ((Lx ++ Lx1).map sv)) := by rw [upd_ne ndp]; exact s6 _ _ pb5
          have l6 : (L2.upd (L2.upd (L2.upd H5 pc (.lst (A.map sv))) pT (.tup [.ref l3, .ref pc])) pl (.lst (hs1 ++ [.ref pT]))) l3 = some (.lst (A.map sv)) := by rw [upd_ne nl3'.2.2.2]; exact s6 _ _ l5
          have be6 : (L2.upd (L2.upd (L2.upd H5 pc (.lst (A.map sv))) pT (.tup [.ref l3, .ref pc])) pl (.lst (hs1 ++ [.ref pT]))) bi = some (.tup [.ref d, sv bti, .ref pb, .ref pl]) := by rw [upd_ne g7.2.2.2]; exact s6 _ _ be5
          have pl6 : (L2.upd (L2.upd (L2.upd H5 pc (.lst (A.map sv))) pT (.tup [.ref l3, .ref pc])) pl (.lst (hs1 ++ [.ref pT]))) pl = some (.lst (hs1 ++ [.ref pT])) := L2.upd_same
          have o26 : Out c d pb pl H2 (L2.upd (L2.upd (L2.upd H5 pc (.lst (A.map sv))) pT (.tup [.ref l3, .ref pc])) pl (.lst (hs1 ++ [.ref pT]))) := o3.trans ((Out.same s35).trans ((Out.same s6).trans .upd4))
          have held6 : HeldAt c d pb pl (100 * (i + 1)) (L2.upd (L2.upd (L2.upd H5 pc (.lst (A.map sv))) pT (.tup [.ref l3, .ref pc])) pl (.lst (hs1 ++ [.ref pT]))) := ⟨_, pl6, by rw [List.length_append, List.length_singleton]; omega, fun v hv => (List.mem_append.mp hv).elim (fun h => (j3 v h).out o26) fun h => by
              rw [List.mem_singleton.mp h]
              exact ⟨pT, l3, pc, A, rfl, by rw [upd_ne ninT.2.2.2]; exact L2.upd_same, l6, by rw [upd_ne ninC.2.2.2]; exact new npT _ _ L2.upd_same, ninT, nl3', ninC⟩⟩
          have g6' : Out c d pb pl HB (L2.upd (L2.upd (L2.upd H5 pc (.lst (A.map sv))) pT (.tup [.ref l3, .ref pc])) pl (.lst (hs1 ++ [.ref pT]))) := g1'.trans o26
          generalize (L2.upd (L2.upd (L2.upd H5 pc (.lst (A.map sv))) pT (.tup [.ref l3, .ref pc])) pl (.lst (hs1 ++ [.ref pT]))) = H6 at *
          fail "gi"
          rename_i p8 np8
          exact ⟨t', k2, [], Lx ++ Lx1, kx1, p8, _, _, _, rfl, g6'.trans (.same (new np8)), new np8 _ _ c6, new np8 _ _ d6, new np8 _ _ pb6, held6.out (.same (new np8)) (by rw [pl6]; exact new np8 _ _ pl6), L2.upd_same, (g6'.free c6 d6 pb6 pl6 np8).1, by omega, tabc', by omega, .inr ⟨Nat.succ_pos _, rfl, fx⟩⟩
      · rintro σ' H' ⟨tt, k, bti, Lx, kx, bi, y13, y14, y12, rfl, g1, g2, g3, g4, g5, g6, g7, g8, g9, g10, g11⟩
        have pwH := g1 _ _ ninW hpwB
        have prH := g1 _ _ ninR hprB
        have obH := g1 _ _ ninOb hobB
        have fx : Fed (ws.take 1) 0 [] (bt.take t.length) Lx kx := by
          rcases g11 with ⟨z, _⟩ | ⟨_, _, z⟩
          · exact absurd z (by decide)
          · exact z
        have Lxl := flat_ne fun w h => wn1 w (fx.len.2 w h)
        obtain ⟨one1, one3, one2⟩ := fed_one wtb wn1 hR1 ebt efi fx
        have okw := ok_strs ws
        have okn := ok_nil
        have okL := ok_strs Lx
        dsimp only
        refine seqC (C := fun σ H1 => σ = [some (.ref sa), some (.ref pw), some (.int n), some (.ref ph), some (.ref c), some (.ref pr), some (sv tt), some (.ref pl), some (.ref bi), some (.ref pd), some (sv k), some (.int fi), y12, y13, y14, none] ∧ Same H' H1) ?mainB ?tailB
        · intro T tail
          fail "gi"
          rw [show (PyData.list []) = .list (([] : List Wd).map sd) from rfl, eqv_strs]
          refine itn (fun es => ?_) fun es => ?_
          · obtain ⟨w0, r, ew⟩ : ∃ w0 r, ws = w0 :: r := by
              cases z : ws with
              | nil => exact absurd z es
              | cons w0 r => exact ⟨w0, r, rfl⟩
            obtain ⟨w0p, eLx⟩ := one2 w0 r ew
            have pwH' : H' pw = some (.lst (sv w0 :: r.map sv)) := by rw [pwH, ew]; rfl
            have w0l : w0.length ≤ 100000 := by have := cw.ten (w := w0) (by rw [ew]; exact List.mem_cons_self); omega
            clear pwH
            fail "gi"
            rename_i p1 np1 p2 np2
            have lq : Lx.length = fi / w0.length := by conv => lhs; rw [eLx, List.length_replicate]
            have e1 : cutV (sv w0 :: r.map sv) none (some 1) = [sv w0] := by rw [cutV_toI (by decide)]; rfl
            have e3 : (List.replicate (((fi / w0.length : Nat) : Int)).toNat [sv w0]).flatten = Lx.map sv := by
              conv => rhs; rw [eLx]
              rw [Int.toNat_natCast, show [sv w0] = [w0].map sv from rfl, rep_map]
              congr 1
              generalize fi / w0.length = q
              induction q with
              | zero => rfl
              | succ q ih => rw [List.replicate_succ, List.flatten_cons, ih]; rfl
            rw [e1]
            refine ⟨⟨by omega, by omega⟩, p2, ((fi / w0.length : Nat) : Int), rfl, congrArg V.int (Int.natCast_ediv _ _).symm, [sv w0], L2.upd_same, by omega, by omega, by show 1 ≤ 10000; decide, fun p3 np3 => ?_⟩
            rw [e3]
            fail "gi"
            refine itnb (fun w => absurd ((eqv_self okL).symm.trans w) (by simp)) fun _ => ?_
            exact tail _ _ ⟨rfl, by fail "same"⟩
          · fail "gi"
            exact tail _ _ ⟨rfl, by fail "same"⟩
        · rintro σ1 H1 ⟨rfl, s1⟩
          have bi1 := s1 _ _ g6
          have pb1 := s1 _ _ g4
          have d1 := s1 _ _ g3
          have pw1 := s1 _ _ pwH
          have pr1 := s1 _ _ prH
          have fl1 : (Lx.flatten).length ≤ 100000 := by omega
          fail "gi"
          refine ⟨dy, ob, 0, kx, d1, by omega, ?_⟩
          fail "gi"
          refine itn (fun e => absurd (by omega) e) fun _ => ?_
          fail "gi"
          rename_i pv npv
          refine ⟨ws, rs.reverse, n, E0, P0, h0, b0, new npv _ _ pw1, cw, by rw [L2.upd_same, List.map_reverse], hrr, by rw [List.length_reverse]; omega, tl, th, tw, fun H3 s3 => ?_⟩
          have s13 : Same H1 H3 := (new npv).trans s3
          obtain ⟨hs, q1, q2, q3⟩ : HeldAt c d pb pl (100 * Int.toNat 3) H3 := by
            obtain ⟨hs, q1, q2, q3⟩ := g5
            exact ⟨hs, s13 _ _ (s1 _ _ q1), q2, fun v hv => (q3 v hv).out (.same (s1.trans s13))⟩
          have q2' : hs.length ≤ 300 := q2
          have okn := ok_nil
          fail "gi"
          rename_i DD hDD
          refine lc_vals (xs := hs) (j := 15) (fun _ => false) id hDD (SqL.of q1) (by omega) (fun x hx H6 e6 Q6 q6 => ?_) (fun x hx c => nomatch c) (fun H6 e6 h6 => ?_)
          · obtain ⟨T6, a6, b6, R6, rfl, u1, u2, u3, _⟩ := q3 x hx
            have u1' := e6 _ _ u1
            have u2' := e6 _ _ u2
            have u3' := e6 _ _ u3
            have okR := ok_strs R6
            fail "gi"
            exact (congrArg (fun b => Q6 (!b) _) (eqv_self okR)).mpr (q6 _ (Same.refl _))
          · have h6' : H6 DD = some (.lst []) := by
              rw [h6]
              have : hs.filter (fun _ => false) = [] := by simp
              rw [this]; rfl
            clear h6
            fail "gi"
            exact (congrArg (fun b => Q (V.bl b) _) (eqv_self okn)).mpr (q _)

end
end One


set_option Elab.async false
set_option linter.all false
set_option maxRecDepth 100000
set_option maxHeartbeats 400000
set_option pp.maxSteps 700
namespace One
open PySem PySem.Spec PyProof.Rows L2
local macro_rules | `(tactic| fail "as") => `(tactic| with_reducible assumption)
local macro_rules | `(tactic| fail "same") => `(tactic| first
  | with_reducible exact Same.refl _
  | fail "as"
  | ((with_reducible show Same _ (upd _ _ _)); first
    | exact Same.trans (by fail "same") (new (by fail "as"))
    | exact mutd (by fail "same") (by fail "fr"))
  | ((with_reducible refine Same.trans ?_ (by fail "as")); fail "same"))
local macro_rules | `(tactic| fail "fr") => `(tactic| first
  | fail "as"
  | ((with_reducible refine Same.free ?_ (by fail "as")); fail "same"))
local macro_rules | `(tactic| fail "look") => `(tactic| first
  | ((with_reducible show upd _ _ _ _ = _); first
    | with_reducible exact upd_same
    | with_reducible exact upd_nil
    | with_reducible exact upd_snoc
    | ((with_reducible refine upd_at (by fail "as") ?_); fail "look")
    | ((with_reducible refine new_at (by fail "fr") ?_); fail "look"))
  | fail "as"
  | ((with_reducible refine same_at (by fail "as") ?_); fail "look")
  | ((with_reducible refine same_at ?_ (by fail "as")); fail "same"))
local macro_rules | `(tactic| fail "ne") => `(tactic| (refine ne_free (by fail "as") (by fail "look")))
local macro_rules | `(tactic| fail "seq") => `(tactic| first
  | fail "as"
  | ((with_reducible show SqL _ _ _ _); with_reducible exact SqL.of (by fail "look"))
  | ((with_reducible show SqT _ _ _ _); with_reducible exact SqT.of (by fail "look"))
  | ((with_reducible refine Same.seq ?_ (by fail "as")); fail "same")
  | ((with_reducible refine sqT ?_ (by fail "as")); fail "same"))
local macro_rules | `(tactic| fail "ins") => `(tactic| ((with_reducible show _ = some (HO.ins _ _ _)); fail "look"))
local macro_rules | `(tactic| fail "sq") => `(tactic| first
  | ((with_reducible show Rd _ _ _); first | exact .inl (by fail "look") | exact .inr ⟨_, by fail "look"⟩)
  | ((with_reducible show SqL _ _ _ _); fail "seq")
  | ((with_reducible show SqT _ _ _ _); fail "seq")
  | ((with_reducible show _ = some _); fail "look"))
local macro_rules | `(tactic| fail "le") => `(tactic| first
  | fail "as"
  | with_reducible exact sz (by simp)
  | ((try simp only [List.length_append, List.length_cons, List.length_nil, List.length_map, List.length_replicate, List.length_set]); omega)
  | exact Int.emod_nonneg _ (by omega)
  | decide)
local macro_rules | `(tactic| fail "lf") => `(tactic| first
  | fail "as"
  | ((with_reducible show _ = _); exact rfl)
  | ((with_reducible show _ ≤ _); fail "le")
  | ((with_reducible show _ < _); first | decide | fail "as" | omega)
  | fail "sq"
  | ((with_reducible show CDiv _ _); exact ⟨by decide, by decide⟩)
  | ((with_reducible show CMul _ _); first | exact .inl ⟨by decide, by decide⟩ | exact .inr ⟨by decide, by decide⟩ | exact .inl ⟨by omega, by omega⟩ | exact .inr ⟨by omega, by omega⟩)
  | exact ⟨_, rfl⟩
  | exact ⟨_, by fail "sq"⟩
  | exact tyL (by fail "seq")
  | exact tyD (by fail "look")
  | (refine ⟨?_, ?_, ?_, ?_⟩ <;> omega)
  | (show (0 : Int) < _; first | decide | omega)
  | (show (_ : Int) ≠ 0; first | decide | omega))
local macro_rules | `(tactic| fail "dp") => `(tactic| first
  | exact .str _ | exact .int _ | exact .bl _ | exact .non
  | exact .tup (by fail "seq") (by fail "dps")
  | exact .lst (by fail "seq") (by fail "dps"))
local macro_rules | `(tactic| fail "dps") => `(tactic| first
  | fail "as"
  | with_reducible exact dpAll_strs _
  | with_reducible exact dpAll_ints _
  | ((with_reducible show DpAll _ _ (_ :: _) _); exact .cons (by fail "dp") (by fail "dps"))
  | exact .nil)
local macro_rules | `(tactic| fail "dpS") => `(tactic| ((with_reducible show Dp _ _ _ _); fail "dp"))
local macro_rules | `(tactic| fail "ga") => `(tactic| ((with_reducible show _ = some _); fail "as"))
local macro_rules | `(tactic| fail "gE") => `(tactic| first
  | with_reducible refine ⟨_, _, _, _, _, rfl, by fail "ins", by fail "as", by fail "as", rfl, ?_⟩
  | with_reducible refine ⟨_, _, _, _, rfl, by fail "ins", by fail "as", by fail "as", Nat.le_of_ble_eq_true rfl, ?_⟩
  | with_reducible refine ⟨_, _, _, rfl, by fail "ins", rfl, ?_⟩
  | with_reducible refine ⟨_, by fail "dpS", ?_⟩
  | refine ⟨_, kI _, ?_⟩
  | refine ⟨_, kS _, ?_⟩
  | refine ⟨_, by fail "ga", ?_⟩
  | refine ⟨_, rfl, ?_⟩
  | refine ⟨_, _, rfl, rfl, ?_⟩
  | refine ⟨_, _, rfl, ?_⟩
  | refine ⟨_, _, _, rfl, ?_⟩
  | refine ⟨_, _, _, _, rfl, ?_⟩
  | refine ⟨_, rfl, rfl, ?_⟩
  | refine ⟨_, _, _, rfl, rfl, ?_⟩
  | refine ⟨_, by fail "sq", ?_⟩
  | refine ⟨_, _, rfl, by fail "sq", rfl, ?_⟩
  | refine ⟨_, TyW.int _, ?_⟩
  | refine ⟨_, TyW.str _, ?_⟩
  | refine ⟨_, TyW.non, ?_⟩
  | refine ⟨_, TyW.bl _, ?_⟩
  | refine ⟨_, TyW.tup (by fail "look"), ?_⟩
  | refine ⟨_, TyW.lst (by fail "look"), ?_⟩
  | refine ⟨_, TyW.dict (by fail "look"), ?_⟩)
local macro_rules | `(tactic| fail "g1") => `(tactic| first
  | (refine (show ∃ _, _ from ?_); fail "gE")
  | (refine (show _ ∧ _ from ?_); refine And.intro (by fail "lf") ?_))
local macro_rules | `(tactic| fail "go") => `(tactic| repeat (fail "g1"))
local macro_rules | `(tactic| fail "gi") => `(tactic| repeat (first
  | fail "g1"
  | refine (show Ret _ _ _ from fun H' s' => ?_)
  | refine (show RetL _ _ _ from fun p H' s' np hp => ?_)
  | refine (show RetT _ _ _ from fun p H' s' np hp => ?_)
  | refine (show RetD _ _ _ from fun p H' s' np hp => ?_)
  | refine (show ∀ p : Addr, _ = none → _ from fun p hp => ?_)))
/-! ### the head -/
def dd_law_words_of : He.DefD := ⟨("_law_words_of", none), "_law_words_of", "_law_words_of", defArgs s_law_words_of, defBody s_law_words_of, defScope s_law_words_of, [], []⟩
def dd_law_at : He.DefD := ⟨("_law_at", none), "_law_at", "_law_at", defArgs s_law_at, defBody s_law_at, defScope s_law_at, [], []⟩
def dd_law_mixed : He.DefD := ⟨("_law_mixed", none), "_law_mixed", "_law_mixed", defArgs s_law_mixed, defBody s_law_mixed, defScope s_law_mixed, [], []⟩
def dd_law_whole : He.DefD := ⟨("_law_whole", none), "_law_whole", "_law_whole", defArgs s_law_whole, defBody s_law_whole, defScope s_law_whole, [], []⟩
def dd_law_signs : He.DefD := ⟨("_law_signs", none), "_law_signs", "_law_signs", defArgs s_law_signs, defBody s_law_signs, defScope s_law_signs, [], []⟩
def dd_law_word : He.DefD := ⟨("_law_word", none), "_law_word", "_law_word", defArgs s_law_word, defBody s_law_word, defScope s_law_word, [], []⟩
def dd_law_any_word : He.DefD := ⟨("_law_any_word", none), "_law_any_word", "_law_any_word", defArgs s_law_any_word, defBody s_law_any_word, defScope s_law_any_word, [], []⟩
def dd_law_more : He.DefD := ⟨("_law_more", none), "_law_more", "_law_more", defArgs s_law_more, defBody s_law_more, defScope s_law_more, [], []⟩
def dd_law_chain : He.DefD := ⟨("_law_chain", none), "_law_chain", "_law_chain", defArgs s_law_chain, defBody s_law_chain, defScope s_law_chain, [], []⟩
def dd_law_words : He.DefD := ⟨("_law_words", none), "_law_words", "_law_words", defArgs s_law_words, defBody s_law_words, defScope s_law_words, [], []⟩
def dd_law_row : He.DefD := ⟨("_law_row", none), "_law_row", "_law_row", defArgs s_law_row, defBody s_law_row, defScope s_law_row, [], []⟩
def dd_law_text : He.DefD := ⟨("_law_text", none), "_law_text", "_law_text", defArgs s_law_text, defBody s_law_text, defScope s_law_text, [], []⟩
def dd_law_counts : He.DefD := ⟨("_law_counts", none), "_law_counts", "_law_counts", defArgs s_law_counts, defBody s_law_counts, defScope s_law_counts, [], []⟩
def dd_left_of : He.DefD := ⟨("left_of", none), "left_of", "left_of", defArgs s_left_of, defBody s_left_of, defScope s_left_of, [], []⟩
def dd_stepped : He.DefD := ⟨("stepped", none), "stepped", "stepped", defArgs s_stepped, defBody s_stepped, defScope s_stepped, [], []⟩
def dd_Table_offer : He.DefD := ⟨("Table", some "offer"), "offer", "Table.offer", defArgs s_Table_offer, defBody s_Table_offer, defScope s_Table_offer, [], []⟩
def dd_Table_begin : He.DefD := ⟨("Table", some "begin"), "begin", "Table.begin", defArgs s_Table_begin, defBody s_Table_begin, defScope s_Table_begin, [], []⟩
def dd_Table_go_on : He.DefD := ⟨("Table", some "go_on"), "go_on", "Table.go_on", defArgs s_Table_go_on, defBody s_Table_go_on, defScope s_Table_go_on, [], []⟩
def dd_Table___init__ : He.DefD := ⟨("Table", some "__init__"), "__init__", "Table.__init__", defArgs s_Table___init__, defBody s_Table___init__, defScope s_Table___init__, [], []⟩
def dd_Table_spread : He.DefD := ⟨("Table", some "spread"), "spread", "Table.spread", defArgs s_Table_spread, defBody s_Table_spread, defScope s_Table_spread, [], []⟩
def dd_is_word : He.DefD := ⟨("is_word", none), "is_word", "is_word", defArgs s_is_word, defBody s_is_word, defScope s_is_word, [], []⟩
def dd_checked : He.DefD := ⟨("checked", none), "checked", "checked", defArgs s_checked, defBody s_checked, defScope s_checked, [], []⟩
def dd_fitting : He.DefD := ⟨("fitting", none), "fitting", "fitting", defArgs s_fitting, defBody s_fitting, defScope s_fitting, [], []⟩
def dd_counts_of : He.DefD := ⟨("counts_of", none), "counts_of", "counts_of", defArgs s_counts_of, defBody s_counts_of, defScope s_counts_of, [], []⟩
def dd_table_of : He.DefD := ⟨("table_of", none), "table_of", "table_of", defArgs s_table_of, defBody s_table_of, defScope s_table_of, [], []⟩
def dd_shared : He.DefD := ⟨("shared", none), "shared", "shared", defArgs s_shared, defBody s_shared, defScope s_shared, [], []⟩
def dd_worth : He.DefD := ⟨("worth", none), "worth", "worth", defArgs s_worth, defBody s_worth, defScope s_worth, [], []⟩
def dd_webs_of : He.DefD := ⟨("webs_of", none), "webs_of", "webs_of", defArgs s_webs_of, defBody s_webs_of, defScope s_webs_of, [], []⟩
def dd_heights_of : He.DefD := ⟨("heights_of", none), "heights_of", "heights_of", defArgs s_heights_of, defBody s_heights_of, defScope s_heights_of, [], []⟩
def dd_pairs_of : He.DefD := ⟨("pairs_of", none), "pairs_of", "pairs_of", defArgs s_pairs_of, defBody s_pairs_of, defScope s_pairs_of, [], []⟩
def dd_pair_worth : He.DefD := ⟨("pair_worth", none), "pair_worth", "pair_worth", defArgs s_pair_worth, defBody s_pair_worth, defScope s_pair_worth, [], []⟩
def dd_waited : He.DefD := ⟨("waited", none), "waited", "waited", defArgs s_waited, defBody s_waited, defScope s_waited, [], []⟩
def dd_wait : He.DefD := ⟨("wait", none), "wait", "wait", defArgs s_wait, defBody s_wait, defScope s_wait, [], []⟩
def dd_law_begins : He.DefD := ⟨("_law_begins", none), "_law_begins", "_law_begins", defArgs s_law_begins, defBody s_law_begins, defScope s_law_begins, [], []⟩
def dd_begins : He.DefD := ⟨("begins", none), "begins", "begins", defArgs s_begins, defBody s_begins, defScope s_begins, [], []⟩
def dd_parted : He.DefD := ⟨("parted", none), "parted", "parted", defArgs s_parted, defBody s_parted, defScope s_parted, [], []⟩
def dd_is_sign : He.DefD := ⟨("is_sign", none), "is_sign", "is_sign", defArgs s_is_sign, defBody s_is_sign, defScope s_is_sign, [], []⟩
def dd_Reader___init__ : He.DefD := ⟨("Reader", some "__init__"), "__init__", "Reader.__init__", defArgs s_Reader___init__, defBody s_Reader___init__, defScope s_Reader___init__, [], []⟩
def dd_Reader_first_word : He.DefD := ⟨("Reader", some "first_word"), "first_word", "Reader.first_word", defArgs s_Reader_first_word, defBody s_Reader_first_word, defScope s_Reader_first_word, [], []⟩
def dd_Reader_put : He.DefD := ⟨("Reader", some "put"), "put", "Reader.put", defArgs s_Reader_put, defBody s_Reader_put, defScope s_Reader_put, [], []⟩
def dd_Reader_end : He.DefD := ⟨("Reader", some "end"), "end", "Reader.end", defArgs s_Reader_end, defBody s_Reader_end, defScope s_Reader_end, [], []⟩
def dd_Reader_many : He.DefD := ⟨("Reader", some "many"), "many", "Reader.many", defArgs s_Reader_many, defBody s_Reader_many, defScope s_Reader_many, [], []⟩
def dd_law_firsts : He.DefD := ⟨("_law_firsts", none), "_law_firsts", "_law_firsts", defArgs s_law_firsts, defBody s_law_firsts, defScope s_law_firsts, [], []⟩
def dd_law_taken : He.DefD := ⟨("_law_taken", none), "_law_taken", "_law_taken", defArgs s_law_taken, defBody s_law_taken, defScope s_law_taken, [], []⟩
def dd_law_odd : He.DefD := ⟨("_law_odd", none), "_law_odd", "_law_odd", defArgs s_law_odd, defBody s_law_odd, defScope s_law_odd, [], []⟩
def dd_law_said : He.DefD := ⟨("_law_said", none), "_law_said", "_law_said", defArgs s_law_said, defBody s_law_said, defScope s_law_said, [], []⟩
def dd_law_made : He.DefD := ⟨("_law_made", none), "_law_made", "_law_made", defArgs s_law_made, defBody s_law_made, defScope s_law_made, [], []⟩
def dd_law_only_row : He.DefD := ⟨("_law_only_row", none), "_law_only_row", "_law_only_row", defArgs s_law_only_row, defBody s_law_only_row, defScope s_law_only_row, [], []⟩
def dd_law_next_text : He.DefD := ⟨("_law_next_text", none), "_law_next_text", "_law_next_text", defArgs s_law_next_text, defBody s_law_next_text, defScope s_law_next_text, [], []⟩
def dd_law_ended : He.DefD := ⟨("_law_ended", none), "_law_ended", "_law_ended", defArgs s_law_ended, defBody s_law_ended, defScope s_law_ended, [], []⟩
def dd_law_other_reader : He.DefD := ⟨("_law_other_reader", none), "_law_other_reader", "_law_other_reader", defArgs s_law_other_reader, defBody s_law_other_reader, defScope s_law_other_reader, [], []⟩
def dd_law_fed : He.DefD := ⟨("_law_fed", none), "_law_fed", "_law_fed", defArgs s_law_fed, defBody s_law_fed, defScope s_law_fed, [], []⟩
def dd_law : He.DefD := ⟨("law", none), "law", "law", defArgs s_law, defBody s_law, defScope s_law, [], []⟩
def fn : List He.DefD := [dd_law_words_of, dd_law_at, dd_law_mixed, dd_law_whole, dd_law_signs, dd_law_word, dd_law_any_word, dd_law_more, dd_law_chain, dd_law_words, dd_law_row, dd_law_text, dd_law_counts, dd_left_of, dd_stepped, dd_Table_offer, dd_Table_begin, dd_Table_go_on, dd_Table___init__, dd_Table_spread, dd_is_word, dd_checked, dd_fitting, dd_counts_of, dd_table_of, dd_shared, dd_worth, dd_webs_of, dd_heights_of, dd_pairs_of, dd_pair_worth, dd_waited, dd_wait, dd_law_begins, dd_begins, dd_parted, dd_is_sign, dd_Reader___init__, dd_Reader_first_word, dd_Reader_put, dd_Reader_end, dd_Reader_many, dd_law_firsts, dd_law_taken, dd_law_odd, dd_law_said, dd_law_made, dd_law_only_row, dd_law_next_text, dd_law_ended, dd_law_other_reader, dd_law_fed, dd_law]
def fa : List He.Fa := [.glo "_law_words_of", .glo "_law_at", .glo "_law_mixed", .glo "_law_whole", .glo "_law_signs", .glo "_law_word", .glo "_law_any_word", .glo "_law_more", .glo "_law_chain", .glo "_law_words", .glo "_law_row", .glo "_law_text", .glo "_law_counts", .glo "left_of", .glo "stepped", .glo "is_word", .glo "checked", .glo "fitting", .glo "counts_of", .glo "table_of", .glo "shared", .glo "worth", .glo "webs_of", .glo "heights_of", .glo "pairs_of", .glo "pair_worth", .glo "waited", .glo "wait", .glo "_law_begins", .glo "begins", .glo "parted", .glo "is_sign", .glo "_law_firsts", .glo "_law_taken", .glo "_law_odd", .glo "_law_said", .glo "_law_made", .glo "_law_only_row", .glo "_law_next_text", .glo "_law_ended", .glo "_law_other_reader", .glo "_law_fed", .glo "law", .free "len", .free "isinstance", .free "range", .free "sorted", .free "sum", .free "max", .free "min", .free "reversed", .free "list", .free "dict", .free "int", .free "str", .free "tuple", .free "bool", .free "enumerate", .int "MOST_SIGNS" 10, .int "MOST_WORDS" 12, .str "SIGNS" "abcdefghijklmnopqrstuvwxyz", .glo "Reader", .cls "Reader", .noat "Reader" "own", .noat "Reader" "most", .noat "Reader" "kept", .glo "Table", .cls "Table", .noat "Table" "lengths", .noat "Table" "came", .noat "Table" "fresh", .meth "Table" "offer", .meth "Table" "begin", .meth "Table" "go_on", .mkr "Table", .meth "Table" "spread", .mkr "Reader", .meth "Reader" "first_word", .meth "Reader" "put", .meth "Reader" "end", .meth "Reader" "many"]
abbrev R : PySem.W.OpenRow := PySem.W.OpenLaw.row PySem.Challenge.rw_onereading_k13_whole_reader
def exB (K : PySem.W.Frag) : Bool := errB K && instB K (He.ga K "Reader")
abbrev hk : PySem.W.Hook := hookM 4 fa fn exB
def ob (s : PySem.W.SharedT) : He.AlD × Bool := (He.obsDG 4 fa fn (HandSHeadRun.getT s), exB (He.frG (HandSHeadRun.getT s) (He.asD (HandSHeadRun.getT s) 4)))
theorem ob_eq (s : PySem.W.SharedT) : ob s = hk.obs s.abs := obsM_eq (HandSHeadRun.getT_eq s)
def loose0 : List Str := ["CodeError", "BadCode", "Full", "BadWord", "Twice", "NotThere", "NoNumber", "NoWait", "BadSign", "NoReading", "is_sign", "is_word", "checked", "left_of", "shared", "fitting", "counts_of", "parted", "begins", "stepped"]
def loose1 : List Str := ["Table", "table_of", "worth", "webs_of", "heights_of", "pairs_of", "pair_worth", "waited", "wait", "Reader", "_law_at", "_law_mixed", "_law_whole", "_law_signs", "_law_word", "_law_any_word", "_law_more", "_law_chain", "_law_words", "_law_row"]
def loose2 : List Str := ["_law_text", "_law_counts", "_law_words_of", "_law_begins", "_law_firsts", "_law_taken", "_law_said", "_law_made", "_law_odd", "_law_only_row", "_law_other_reader", "_law_fed", "_law_ended", "_law_next_text", "SIGNS", "MOST_WORDS", "MOST_SIGNS"]
def loose : List Str := loose0 ++ loose1 ++ loose2
theorem run (w : World) : HandSHeadRun.RunEq R (PySem.W.view R.prog [64]) hk ob 8000 loose w := by
  intro os
  kernel_rfl
theorem facts {P : Program} {w : World} {K : PySem.W.Frag} {h : Heap} {mg : Str → Option Value} {f : Addr} (X : K.In h) (G : h.Ns mainGlobals mg) (hfa : mg ("law" : Str) = some (.ref f)) (c : He.SaysD fa fn K) (ce : exB K = true) :
    ∃ fd : FuncData, (∀ (s : Shared) (v : Value), BindsTo s fd ⟨[v], []⟩ [("_law_script", v)]) ∧ ∀ base : Heap, K.In base → base.Ns mainGlobals mg → FnOk P w K mg base CX0 12 f fd ["_law_script"] (sp_law K) := by
  have D_law_words_of : Def K mg "_law_words_of" s_law_words_of := by
    obtain ⟨fd, F⟩ := c.def_ 0 (d := dd_law_words_of) rfl
    exact ⟨_, fd, He.glo_ok X G (c.fact 0 (f := .glo "_law_words_of") rfl), F⟩
  have D_law_at : Def K mg "_law_at" s_law_at := by
    obtain ⟨fd, F⟩ := c.def_ 1 (d := dd_law_at) rfl
    exact ⟨_, fd, He.glo_ok X G (c.fact 1 (f := .glo "_law_at") rfl), F⟩
  have D_law_mixed : Def K mg "_law_mixed" s_law_mixed := by
    obtain ⟨fd, F⟩ := c.def_ 2 (d := dd_law_mixed) rfl
    exact ⟨_, fd, He.glo_ok X G (c.fact 2 (f := .glo "_law_mixed") rfl), F⟩
  have D_law_whole : Def K mg "_law_whole" s_law_whole := by
    obtain ⟨fd, F⟩ := c.def_ 3 (d := dd_law_whole) rfl
    exact ⟨_, fd, He.glo_ok X G (c.fact 3 (f := .glo "_law_whole") rfl), F⟩
  have D_law_signs : Def K mg "_law_signs" s_law_signs := by
    obtain ⟨fd, F⟩ := c.def_ 4 (d := dd_law_signs) rfl
    exact ⟨_, fd, He.glo_ok X G (c.fact 4 (f := .glo "_law_signs") rfl), F⟩
  have D_law_word : Def K mg "_law_word" s_law_word := by
    obtain ⟨fd, F⟩ := c.def_ 5 (d := dd_law_word) rfl
    exact ⟨_, fd, He.glo_ok X G (c.fact 5 (f := .glo "_law_word") rfl), F⟩
  have D_law_any_word : Def K mg "_law_any_word" s_law_any_word := by
    obtain ⟨fd, F⟩ := c.def_ 6 (d := dd_law_any_word) rfl
    exact ⟨_, fd, He.glo_ok X G (c.fact 6 (f := .glo "_law_any_word") rfl), F⟩
  have D_law_more : Def K mg "_law_more" s_law_more := by
    obtain ⟨fd, F⟩ := c.def_ 7 (d := dd_law_more) rfl
    exact ⟨_, fd, He.glo_ok X G (c.fact 7 (f := .glo "_law_more") rfl), F⟩
  have D_law_chain : Def K mg "_law_chain" s_law_chain := by
    obtain ⟨fd, F⟩ := c.def_ 8 (d := dd_law_chain) rfl
    exact ⟨_, fd, He.glo_ok X G (c.fact 8 (f := .glo "_law_chain") rfl), F⟩
  have D_law_words : Def K mg "_law_words" s_law_words := by
    obtain ⟨fd, F⟩ := c.def_ 9 (d := dd_law_words) rfl
    exact ⟨_, fd, He.glo_ok X G (c.fact 9 (f := .glo "_law_words") rfl), F⟩
  have D_law_row : Def K mg "_law_row" s_law_row := by
    obtain ⟨fd, F⟩ := c.def_ 10 (d := dd_law_row) rfl
    exact ⟨_, fd, He.glo_ok X G (c.fact 10 (f := .glo "_law_row") rfl), F⟩
  have D_law_text : Def K mg "_law_text" s_law_text := by
    obtain ⟨fd, F⟩ := c.def_ 11 (d := dd_law_text) rfl
    exact ⟨_, fd, He.glo_ok X G (c.fact 11 (f := .glo "_law_text") rfl), F⟩
  have D_law_counts : Def K mg "_law_counts" s_law_counts := by
    obtain ⟨fd, F⟩ := c.def_ 12 (d := dd_law_counts) rfl
    exact ⟨_, fd, He.glo_ok X G (c.fact 12 (f := .glo "_law_counts") rfl), F⟩
  have D_left_of : Def K mg "left_of" s_left_of := by
    obtain ⟨fd, F⟩ := c.def_ 13 (d := dd_left_of) rfl
    exact ⟨_, fd, He.glo_ok X G (c.fact 13 (f := .glo "left_of") rfl), F⟩
  have D_stepped : Def K mg "stepped" s_stepped := by
    obtain ⟨fd, F⟩ := c.def_ 14 (d := dd_stepped) rfl
    exact ⟨_, fd, He.glo_ok X G (c.fact 14 (f := .glo "stepped") rfl), F⟩
  have D_Table_offer : DefM K (He.ga K "Table") "offer" "Table.offer" s_Table_offer := by
    obtain ⟨fd, F⟩ := c.def_ 15 (d := dd_Table_offer) rfl
    exact ⟨_, fd, He.meth_ok (c.fact 71 (f := .meth "Table" "offer") rfl), F⟩
  have D_Table_begin : DefM K (He.ga K "Table") "begin" "Table.begin" s_Table_begin := by
    obtain ⟨fd, F⟩ := c.def_ 16 (d := dd_Table_begin) rfl
    exact ⟨_, fd, He.meth_ok (c.fact 72 (f := .meth "Table" "begin") rfl), F⟩
  have D_Table_go_on : DefM K (He.ga K "Table") "go_on" "Table.go_on" s_Table_go_on := by
    obtain ⟨fd, F⟩ := c.def_ 17 (d := dd_Table_go_on) rfl
    exact ⟨_, fd, He.meth_ok (c.fact 73 (f := .meth "Table" "go_on") rfl), F⟩
  have D_Table___init__ : DefI K mg (He.ga K "Table") "Table" "Table.__init__" s_Table___init__ := by
    obtain ⟨fd, F⟩ := c.def_ 18 (d := dd_Table___init__) rfl
    exact ⟨_, fd, He.mkr_ok (c.fact 74 (f := .mkr "Table") rfl), He.glo_ok X G (c.fact 66 (f := .glo "Table") rfl), F⟩
  have D_Table_spread : DefM K (He.ga K "Table") "spread" "Table.spread" s_Table_spread := by
    obtain ⟨fd, F⟩ := c.def_ 19 (d := dd_Table_spread) rfl
    exact ⟨_, fd, He.meth_ok (c.fact 75 (f := .meth "Table" "spread") rfl), F⟩
  have D_is_word : Def K mg "is_word" s_is_word := by
    obtain ⟨fd, F⟩ := c.def_ 20 (d := dd_is_word) rfl
    exact ⟨_, fd, He.glo_ok X G (c.fact 15 (f := .glo "is_word") rfl), F⟩
  have D_checked : Def K mg "checked" s_checked := by
    obtain ⟨fd, F⟩ := c.def_ 21 (d := dd_checked) rfl
    exact ⟨_, fd, He.glo_ok X G (c.fact 16 (f := .glo "checked") rfl), F⟩
  have D_fitting : Def K mg "fitting" s_fitting := by
    obtain ⟨fd, F⟩ := c.def_ 22 (d := dd_fitting) rfl
    exact ⟨_, fd, He.glo_ok X G (c.fact 17 (f := .glo "fitting") rfl), F⟩
  have D_counts_of : Def K mg "counts_of" s_counts_of := by
    obtain ⟨fd, F⟩ := c.def_ 23 (d := dd_counts_of) rfl
    exact ⟨_, fd, He.glo_ok X G (c.fact 18 (f := .glo "counts_of") rfl), F⟩
  have D_table_of : Def K mg "table_of" s_table_of := by
    obtain ⟨fd, F⟩ := c.def_ 24 (d := dd_table_of) rfl
    exact ⟨_, fd, He.glo_ok X G (c.fact 19 (f := .glo "table_of") rfl), F⟩
  have D_shared : Def K mg "shared" s_shared := by
    obtain ⟨fd, F⟩ := c.def_ 25 (d := dd_shared) rfl
    exact ⟨_, fd, He.glo_ok X G (c.fact 20 (f := .glo "shared") rfl), F⟩
  have D_worth : Def K mg "worth" s_worth := by
    obtain ⟨fd, F⟩ := c.def_ 26 (d := dd_worth) rfl
    exact ⟨_, fd, He.glo_ok X G (c.fact 21 (f := .glo "worth") rfl), F⟩
  have D_webs_of : Def K mg "webs_of" s_webs_of := by
    obtain ⟨fd, F⟩ := c.def_ 27 (d := dd_webs_of) rfl
    exact ⟨_, fd, He.glo_ok X G (c.fact 22 (f := .glo "webs_of") rfl), F⟩
  have D_heights_of : Def K mg "heights_of" s_heights_of := by
    obtain ⟨fd, F⟩ := c.def_ 28 (d := dd_heights_of) rfl
    exact ⟨_, fd, He.glo_ok X G (c.fact 23 (f := .glo "heights_of") rfl), F⟩
  have D_pairs_of : Def K mg "pairs_of" s_pairs_of := by
    obtain ⟨fd, F⟩ := c.def_ 29 (d := dd_pairs_of) rfl
    exact ⟨_, fd, He.glo_ok X G (c.fact 24 (f := .glo "pairs_of") rfl), F⟩
  have D_pair_worth : Def K mg "pair_worth" s_pair_worth := by
    obtain ⟨fd, F⟩ := c.def_ 30 (d := dd_pair_worth) rfl
    exact ⟨_, fd, He.glo_ok X G (c.fact 25 (f := .glo "pair_worth") rfl), F⟩
  have D_waited : Def K mg "waited" s_waited := by
    obtain ⟨fd, F⟩ := c.def_ 31 (d := dd_waited) rfl
    exact ⟨_, fd, He.glo_ok X G (c.fact 26 (f := .glo "waited") rfl), F⟩
  have D_wait : Def K mg "wait" s_wait := by
    obtain ⟨fd, F⟩ := c.def_ 32 (d := dd_wait) rfl
    exact ⟨_, fd, He.glo_ok X G (c.fact 27 (f := .glo "wait") rfl), F⟩
  have D_law_begins : Def K mg "_law_begins" s_law_begins := by
    obtain ⟨fd, F⟩ := c.def_ 33 (d := dd_law_begins) rfl
    exact ⟨_, fd, He.glo_ok X G (c.fact 28 (f := .glo "_law_begins") rfl), F⟩
  have D_begins : Def K mg "begins" s_begins := by
    obtain ⟨fd, F⟩ := c.def_ 34 (d := dd_begins) rfl
    exact ⟨_, fd, He.glo_ok X G (c.fact 29 (f := .glo "begins") rfl), F⟩
  have D_parted : Def K mg "parted" s_parted := by
    obtain ⟨fd, F⟩ := c.def_ 35 (d := dd_parted) rfl
    exact ⟨_, fd, He.glo_ok X G (c.fact 30 (f := .glo "parted") rfl), F⟩
  have D_is_sign : Def K mg "is_sign" s_is_sign := by
    obtain ⟨fd, F⟩ := c.def_ 36 (d := dd_is_sign) rfl
    exact ⟨_, fd, He.glo_ok X G (c.fact 31 (f := .glo "is_sign") rfl), F⟩
  have D_Reader___init__ : DefI K mg (He.ga K "Reader") "Reader" "Reader.__init__" s_Reader___init__ := by
    obtain ⟨fd, F⟩ := c.def_ 37 (d := dd_Reader___init__) rfl
    exact ⟨_, fd, He.mkr_ok (c.fact 76 (f := .mkr "Reader") rfl), He.glo_ok X G (c.fact 61 (f := .glo "Reader") rfl), F⟩
  have D_Reader_first_word : DefM K (He.ga K "Reader") "first_word" "Reader.first_word" s_Reader_first_word := by
    obtain ⟨fd, F⟩ := c.def_ 38 (d := dd_Reader_first_word) rfl
    exact ⟨_, fd, He.meth_ok (c.fact 77 (f := .meth "Reader" "first_word") rfl), F⟩
  have D_Reader_put : DefM K (He.ga K "Reader") "put" "Reader.put" s_Reader_put := by
    obtain ⟨fd, F⟩ := c.def_ 39 (d := dd_Reader_put) rfl
    exact ⟨_, fd, He.meth_ok (c.fact 78 (f := .meth "Reader" "put") rfl), F⟩
  have D_Reader_end : DefM K (He.ga K "Reader") "end" "Reader.end" s_Reader_end := by
    obtain ⟨fd, F⟩ := c.def_ 40 (d := dd_Reader_end) rfl
    exact ⟨_, fd, He.meth_ok (c.fact 79 (f := .meth "Reader" "end") rfl), F⟩
  have D_Reader_many : DefM K (He.ga K "Reader") "many" "Reader.many" s_Reader_many := by
    obtain ⟨fd, F⟩ := c.def_ 41 (d := dd_Reader_many) rfl
    exact ⟨_, fd, He.meth_ok (c.fact 80 (f := .meth "Reader" "many") rfl), F⟩
  have D_law_firsts : Def K mg "_law_firsts" s_law_firsts := by
    obtain ⟨fd, F⟩ := c.def_ 42 (d := dd_law_firsts) rfl
    exact ⟨_, fd, He.glo_ok X G (c.fact 32 (f := .glo "_law_firsts") rfl), F⟩
  have D_law_taken : Def K mg "_law_taken" s_law_taken := by
    obtain ⟨fd, F⟩ := c.def_ 43 (d := dd_law_taken) rfl
    exact ⟨_, fd, He.glo_ok X G (c.fact 33 (f := .glo "_law_taken") rfl), F⟩
  have D_law_odd : Def K mg "_law_odd" s_law_odd := by
    obtain ⟨fd, F⟩ := c.def_ 44 (d := dd_law_odd) rfl
    exact ⟨_, fd, He.glo_ok X G (c.fact 34 (f := .glo "_law_odd") rfl), F⟩
  have D_law_said : Def K mg "_law_said" s_law_said := by
    obtain ⟨fd, F⟩ := c.def_ 45 (d := dd_law_said) rfl
    exact ⟨_, fd, He.glo_ok X G (c.fact 35 (f := .glo "_law_said") rfl), F⟩
  have D_law_made : Def K mg "_law_made" s_law_made := by
    obtain ⟨fd, F⟩ := c.def_ 46 (d := dd_law_made) rfl
    exact ⟨_, fd, He.glo_ok X G (c.fact 36 (f := .glo "_law_made") rfl), F⟩
  have D_law_only_row : Def K mg "_law_only_row" s_law_only_row := by
    obtain ⟨fd, F⟩ := c.def_ 47 (d := dd_law_only_row) rfl
    exact ⟨_, fd, He.glo_ok X G (c.fact 37 (f := .glo "_law_only_row") rfl), F⟩
  have D_law_next_text : Def K mg "_law_next_text" s_law_next_text := by
    obtain ⟨fd, F⟩ := c.def_ 48 (d := dd_law_next_text) rfl
    exact ⟨_, fd, He.glo_ok X G (c.fact 38 (f := .glo "_law_next_text") rfl), F⟩
  have D_law_ended : Def K mg "_law_ended" s_law_ended := by
    obtain ⟨fd, F⟩ := c.def_ 49 (d := dd_law_ended) rfl
    exact ⟨_, fd, He.glo_ok X G (c.fact 39 (f := .glo "_law_ended") rfl), F⟩
  have D_law_other_reader : Def K mg "_law_other_reader" s_law_other_reader := by
    obtain ⟨fd, F⟩ := c.def_ 50 (d := dd_law_other_reader) rfl
    exact ⟨_, fd, He.glo_ok X G (c.fact 40 (f := .glo "_law_other_reader") rfl), F⟩
  have D_law_fed : Def K mg "_law_fed" s_law_fed := by
    obtain ⟨fd, F⟩ := c.def_ 51 (d := dd_law_fed) rfl
    exact ⟨_, fd, He.glo_ok X G (c.fact 41 (f := .glo "_law_fed") rfl), F⟩
  have D_law : Def K mg "law" s_law := by
    obtain ⟨fd, F⟩ := c.def_ 52 (d := dd_law) rfl
    exact ⟨_, fd, He.glo_ok X G (c.fact 42 (f := .glo "law") rfl), F⟩
  have B : Bi mg := ⟨He.free_ok X G (c.fact 43 (f := .free "len") rfl), He.free_ok X G (c.fact 44 (f := .free "isinstance") rfl), He.free_ok X G (c.fact 45 (f := .free "range") rfl), He.free_ok X G (c.fact 46 (f := .free "sorted") rfl), He.free_ok X G (c.fact 47 (f := .free "sum") rfl), He.free_ok X G (c.fact 48 (f := .free "max") rfl), He.free_ok X G (c.fact 49 (f := .free "min") rfl), He.free_ok X G (c.fact 50 (f := .free "reversed") rfl), He.free_ok X G (c.fact 51 (f := .free "list") rfl), He.free_ok X G (c.fact 52 (f := .free "dict") rfl), He.free_ok X G (c.fact 53 (f := .free "int") rfl), He.free_ok X G (c.fact 54 (f := .free "str") rfl), He.free_ok X G (c.fact 55 (f := .free "tuple") rfl), He.free_ok X G (c.fact 56 (f := .free "bool") rfl), He.free_ok X G (c.fact 57 (f := .free "enumerate") rfl)⟩
  have G_MOST_SIGNS : ∃ t, mg "MOST_SIGNS" = some (.int 10 t) := He.int_ok X G (c.fact 58 (f := .int "MOST_SIGNS" 10) rfl)
  have G_MOST_WORDS : ∃ t, mg "MOST_WORDS" = some (.int 12 t) := He.int_ok X G (c.fact 59 (f := .int "MOST_WORDS" 12) rfl)
  have G_SIGNS : ∃ t, mg "SIGNS" = some (.str "abcdefghijklmnopqrstuvwxyz" t) := He.str_ok X G (c.fact 60 (f := .str "SIGNS" "abcdefghijklmnopqrstuvwxyz") rfl)
  have T_Reader : ReaderC K (He.ga K "Reader") := ⟨He.cls_ok (c.fact 62 (f := .cls "Reader") rfl), He.noat_ok (c.fact 63 (f := .noat "Reader" "own") rfl), He.noat_ok (c.fact 64 (f := .noat "Reader" "most") rfl), He.noat_ok (c.fact 65 (f := .noat "Reader" "kept") rfl), ⟨instB_ok (Bool.and_eq_true_iff.mp ce).2, He.cls_ok (c.fact 62 (f := .cls "Reader") rfl)⟩⟩
  have T_Table : TableC K (He.ga K "Table") := ⟨He.cls_ok (c.fact 67 (f := .cls "Table") rfl), He.noat_ok (c.fact 68 (f := .noat "Table" "lengths") rfl), He.noat_ok (c.fact 69 (f := .noat "Table" "came") rfl), He.noat_ok (c.fact 70 (f := .noat "Table" "fresh") rfl)⟩
  have Er := errs_ok X G (Bool.and_eq_true_iff.mp ce).1
  obtain ⟨f1, fd, hm, F⟩ := D_law
  have e := hfa.symm.trans hm
  cases e
  have b := FunD.bindsA (ps := ["_law_script"]) F fun _ _ _ _ _ _ us hl => match us, hl with | [_], _ => rfl
  refine ⟨fd, fun s v => b s [v] rfl, fun base _ _ => ?_⟩
  have c_law_words_of := ok_law_words_of (P := P) (w := w) (base := base) B Er D_law_words_of
  have c_law_at := ok_law_at (P := P) (w := w) (base := base) B D_law_at
  have c_law_mixed := ok_law_mixed (P := P) (w := w) (base := base) B D_law_mixed
  have c_law_whole := ok_law_whole (P := P) (w := w) (base := base) B D_law_whole
  have c_law_signs := ok_law_signs (P := P) (w := w) (base := base) B D_law_signs
  have c_law_word := ok_law_word (P := P) (w := w) (base := base) B D_law_word c_law_mixed
  have c_law_any_word := ok_law_any_word (P := P) (w := w) (base := base) B D_law_any_word
  have c_law_more := ok_law_more (P := P) (w := w) (base := base) B D_law_more c_law_word
  have c_law_chain := ok_law_chain (P := P) (w := w) (base := base) B D_law_chain c_law_at c_law_mixed c_law_word
  have c_law_words := ok_law_words (P := P) (w := w) (base := base) B D_law_words c_law_at c_law_signs c_law_chain c_law_mixed c_law_word c_law_any_word c_law_more
  have c_law_row := ok_law_row (P := P) (w := w) (base := base) B D_law_row c_law_at c_law_mixed
  have c_law_text := ok_law_text (P := P) (w := w) (base := base) B D_law_text c_law_row c_law_at
  have c_law_counts := ok_law_counts (P := P) (w := w) (base := base) B D_law_counts
  have c_left_of := ok_left_of (P := P) (w := w) (base := base) B D_left_of
  have c_stepped := ok_stepped (P := P) (w := w) (base := base) B D_stepped c_left_of
  have c_Table_offer := ok_Table_offer (P := P) (w := w) (base := base) B T_Table D_Table_offer
  have c_Table_begin := ok_Table_begin (P := P) (w := w) (base := base) B T_Table D_Table_begin c_left_of c_Table_offer
  have c_Table_go_on := ok_Table_go_on (P := P) (w := w) (base := base) B T_Table D_Table_go_on c_stepped c_Table_offer
  have c_Table___init__ := ok_Table___init__ (P := P) (w := w) (base := base) B T_Table D_Table___init__
  have c_Table_spread := ok_Table_spread (P := P) (w := w) (base := base) B T_Table D_Table_spread c_Table_go_on
  have c_is_word := ok_is_word (P := P) (w := w) (base := base) B G_MOST_SIGNS G_SIGNS D_is_word
  have c_checked := ok_checked (P := P) (w := w) (base := base) B Er G_MOST_WORDS D_checked c_is_word
  have c_fitting := ok_fitting (P := P) (w := w) (base := base) B D_fitting
  have c_counts_of := ok_counts_of (P := P) (w := w) (base := base) B D_counts_of c_fitting
  have c_table_of := ok_table_of (P := P) (w := w) (base := base) B T_Table D_table_of c_Table___init__ c_Table_begin c_Table_spread
  have c_shared := ok_shared (P := P) (w := w) (base := base) B D_shared
  have c_worth := ok_worth (P := P) (w := w) (base := base) B D_worth c_stepped c_shared
  have c_webs_of := ok_webs_of (P := P) (w := w) (base := base) B D_webs_of c_stepped
  have c_heights_of := ok_heights_of (P := P) (w := w) (base := base) B D_heights_of c_webs_of c_worth
  have c_pairs_of := ok_pairs_of (P := P) (w := w) (base := base) B D_pairs_of c_left_of
  have c_pair_worth := ok_pair_worth (P := P) (w := w) (base := base) B D_pair_worth c_left_of c_shared
  have c_waited := ok_waited (P := P) (w := w) (base := base) B T_Table D_waited c_table_of c_heights_of c_pairs_of c_pair_worth
  have c_wait := ok_wait (P := P) (w := w) (base := base) B D_wait c_checked c_waited
  have c_law_begins := ok_law_begins (P := P) (w := w) (base := base) B D_law_begins
  have c_begins := ok_begins (P := P) (w := w) (base := base) B D_begins c_left_of
  have c_parted := ok_parted (P := P) (w := w) (base := base) B D_parted c_fitting
  have c_is_sign := ok_is_sign (P := P) (w := w) (base := base) B G_SIGNS D_is_sign
  have c_Reader___init__ := ok_Reader___init__ (P := P) (w := w) (base := base) B T_Reader Er D_Reader___init__ c_checked c_wait
  have c_Reader_first_word := ok_Reader_first_word (P := P) (w := w) (base := base) B T_Reader Er D_Reader_first_word c_left_of c_begins
  have c_Reader_put := ok_Reader_put (P := P) (w := w) (base := base) B T_Reader Er D_Reader_put c_is_sign c_Reader_first_word
  have c_Reader_end := ok_Reader_end (P := P) (w := w) (base := base) B T_Reader Er D_Reader_end c_counts_of c_parted
  have c_Reader_many := ok_Reader_many (P := P) (w := w) (base := base) B T_Reader D_Reader_many
  have c_law_firsts := ok_law_firsts (P := P) (w := w) (base := base) B D_law_firsts c_law_begins
  have c_law_taken := ok_law_taken (P := P) (w := w) (base := base) B D_law_taken c_law_firsts
  have c_law_odd := ok_law_odd (P := P) (w := w) (base := base) B D_law_odd
  have c_law_said := ok_law_said (P := P) (w := w) (base := base) B T_Reader Er D_law_said c_Reader_put c_Reader_end c_law_words_of
  have c_law_made := ok_law_made (P := P) (w := w) (base := base) B T_Reader Er D_law_made c_Reader___init__ c_law_words_of
  have c_law_only_row := ok_law_only_row (P := P) (w := w) (base := base) B D_law_only_row c_law_counts
  have c_law_next_text := ok_law_next_text (P := P) (w := w) (base := base) B D_law_next_text
  have c_law_ended := ok_law_ended (P := P) (w := w) (base := base) B T_Reader D_law_ended c_law_said c_law_counts c_Reader_many c_law_only_row
  have c_law_other_reader := ok_law_other_reader (P := P) (w := w) (base := base) B T_Reader D_law_other_reader c_Reader___init__ c_Reader_put c_Reader_many c_Reader_end
  have c_law_fed := ok_law_fed (P := P) (w := w) (base := base) B T_Reader D_law_fed c_Reader_put c_law_odd c_law_said c_law_taken c_Reader_many c_law_whole
  exact ok_law B T_Reader F c_law_words c_wait c_law_made c_law_row c_law_text c_Reader___init__ c_law_at c_law_fed c_law_ended c_law_next_text c_Reader_many c_law_other_reader
end One
open PySem PySem.W PySem.Calls PyProof.Rows
set_option maxHeartbeats 0 in
theorem PySem.Challenge.cw_onereading_k13_whole_reader_holds : PySem.Challenge.rw_onereading_k13_whole_reader.Holds := by
  w_on; o_law
  refine HandSHeadRun.head_any (r := One.R) (q := view One.R.prog [64]) (H := One.hk) (ob := One.ob) (M := 8000) (loose := One.loose) (d := HandSHeadRun.topDef One.R.prog 64) (kwd := []) One.ob_eq
    (by kernel_rfl) (fun s => by kernel_rfl) One.run (by kernel_rfl) (by kernel_rfl) (by kernel_rfl) (by rfl) (by first | assumption | decide +kernel) (by decide +kernel) ⟨rfl, rfl, rfl, rfl, rfl, by decide +kernel⟩ ?hw ?hc
  case hw => w_witness2
  case hc =>
    refine L2.walk_ofE (l := PySem.Challenge.rw_onereading_k13_whole_reader) (n := 63) (k := 12) (x := "_law_script") (CX := L2.CX0) rfl (by decide) (by kernel_rfl) ⟨rfl, by decide, by decide⟩ ?F (fun _ _ _ _ z => z)
    intro w mg fa h Y G hmg0
    obtain ⟨K, KX, c, ce⟩ := Y
    have hmg : mg ("law" : PySem.Str) = some (.ref fa) := by
      have e : (HandSHeadRun.topDef One.R.prog 64).name = ("law" : PySem.Str) := by kernel_rfl
      rw [← e]
      exact hmg0
    obtain ⟨fd, hb, hF⟩ := One.facts (P := (PySem.Challenge.rw_onereading_k13_whole_reader).prog) (w := w) KX G hmg c ce
    exact ⟨K, fd, One.sp_law K, KX, hb, fun H a ns hl _ hS => ⟨a, ns, rfl, hS, hl, fun _ => rfl⟩, hF⟩

