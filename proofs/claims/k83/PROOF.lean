import PyProof.Rows.All
import Wide.All
import OpenK.AllK
import Wide.FinOn
import HandS.ForMost
import HandS.Evl
import HandS.Wide
import HandS.Defaults
import HandS.HeadHook4
import HandS.HeadEnd
import HandS.Head2
import HandS.HotCalls
import HandS.ExcInit
import HandS.ExcInitHot
import HandS.ExcIs
import HandS.ExcField
import HandS.Gcd
import HandS.Zip
import HandS.IsInst
import HandS.TryOnly
import HandS.Style
import HandS.StrMore
import HandS.ExcCtx
import HandS.ExcOwn
import HandS.EndBits
import HandS.TupAny
import KE.KStateDown
import HandS.Head0
import HandS.Head1
import HandS.Head3
import PySem.Challenge.RW_twiceless_k83_long_rows_cut
set_option Elab.async false
set_option linter.all false
set_option maxRecDepth 100000
set_option maxHeartbeats 4400000
/-! Own layer, part A: rules for each operator of Python whatever it meets (unions of the layer's), their readings, and a step tactic. -/
namespace Tw
open PySem PySem.Spec PyProof.Rows L2 Evl RZ

/-! ### operators, whatever they meet -/
def uAdd (K : PySem.W.Frag) : R2 := fun x y H Q => rI0 (fun i j => .int (i + j)) x y H Q ∨ (∃ i j, x = .str i ∧ y = .str j ∧ i.length + j.length ≤ sizeLine ∧ Q (.str (i ++ j)) H) ∨ rCat x y H Q ∨ rCatA K x y H Q
def uSub : R2 := rI0 fun i j => .int (i - j)
def uMul (K : PySem.W.Frag) : R2 := fun x y H Q => rI CMul (fun i j => .int (i * j)) x y H Q ∨ rI CMulW (fun i j => .int (i * j)) x y H Q ∨ rRep x y H Q
def uFdiv : R2 := fun x y H Q => rI CDivW (fun i j => .int (i / j)) x y H Q ∨ rI CDivN (fun i j => .int (i.fdiv j)) x y H Q
def uMod : R2 := fun x y H Q => rI (fun _ j => 0 < j) (fun i j => .int (i % j)) x y H Q ∨ rI (fun _ j => j ≠ 0) (fun i j => .int (i.fmod j)) x y H Q
def uPow : R2 := rI CPow fun i j => .int (i ^ j.toNat)
def uNeg : V → Hp → VK → Prop := rU fun i => .int (-i)
def uEq (K : PySem.W.Frag) : R2 := fun x y H Q => rEq x y H Q ∨ rEqD K x y H Q
def uNe (K : PySem.W.Frag) : R2 := fun x y H Q => rNe x y H Q ∨ rNeD K x y H Q
def uLt (K : PySem.W.Frag) : R2 := fun x y H Q => rI0 (fun i j => .bl (decide (i < j))) x y H Q ∨ rLtT K x y H Q
def uLe (K : PySem.W.Frag) : R2 := rI0 fun i j => .bl (decide (i ≤ j))
def uGt (K : PySem.W.Frag) : R2 := rI0 fun i j => .bl (decide (j < i))
def uGe (K : PySem.W.Frag) : R2 := rI0 fun i j => .bl (decide (j ≤ i))
def uIsN : R2 := fun x y H Q => y = .non ∧ Q (.bl (decide (x = .non))) H
def uNotN : R2 := fun x y H Q => y = .non ∧ Q (.bl (!decide (x = .non))) H
def uIn (K : PySem.W.Frag) : R2 := fun x y H Q => rIn K false x y H Q ∨ (∃ i j, x = .str i ∧ y = .str j ∧ Q (.bl (!(Builtin.Str.occurrences j i 0 j.length 1).isEmpty)) H)
def uNotIn (K : PySem.W.Frag) : R2 := fun x y H Q => rIn K true x y H Q ∨ (∃ i j, x = .str i ∧ y = .str j ∧ Q (.bl (!(!(Builtin.Str.occurrences j i 0 j.length 1).isEmpty))) H)
def uIx (K : PySem.W.Frag) : R2 := rIx K
def uSl (K : PySem.W.Frag) : V → Option Int → Option Int → Hp → VK → Prop := fun x lo hi H Q => rSlL K x lo hi H Q ∨ rSlA K x lo hi H Q ∨ rSlS x lo hi H Q
def uLen (K : PySem.W.Frag) : List V → Hp → VK → Prop := fun xs H Q => (∃ p ys, xs = [.ref p] ∧ (SqL K H p ys ∨ SqT K H p ys) ∧ Q (.int ys.length) H) ∨ (∃ z, xs = [.str z] ∧ z.length ≤ sizeLine ∧ Q (.int z.length) H)
def rAbs : List V → Hp → VK → Prop := fun xs H Q => ∃ i, xs = [.int i] ∧ Q (.int (if i < 0 then -i else i)) H
def uMax (K : PySem.W.Frag) : List V → Hp → VK → Prop := fun xs H Q => (∃ i j, xs = [.int i, .int j] ∧ Q (.int (if j > i then j else i)) H) ∨ rMax K xs H Q
def uMin (K : PySem.W.Frag) : List V → Hp → VK → Prop := fun xs H Q => (∃ i j, xs = [.int i, .int j] ∧ Q (.int (if j < i then j else i)) H) ∨ rMin K xs H Q
def uSum (K : PySem.W.Frag) : List V → Hp → VK → Prop := rSum K
def uIsi (K : PySem.W.Frag) : List V → Hp → VK → Prop := rIsi K
def uInt : List V → Hp → VK → Prop := fun xs H Q => ((∃ i, xs = [.int i] ∧ Q (.int i) H) ∨ ∃ k, xs = [.bl k] ∧ Q (.int (if k then 1 else 0)) H) ∨ (∃ a n, xs = [.str a] ∧ PySem.intText? a = some n ∧ a.length ≤ 640 ∧ Q (.int n) H)
def uList (K : PySem.W.Frag) : List V → Hp → VK → Prop := fun xs H Q => ∃ p ys, xs = [.ref p] ∧ (SqL K H p ys ∨ SqT K H p ys) ∧ ∀ l, H l = none → Q (.ref l) (upd H l (.lst ys))
def uTuple (K : PySem.W.Frag) : List V → Hp → VK → Prop := fun xs H Q => ∃ p ys, xs = [.ref p] ∧ ((SqL K H p ys ∧ ∀ l, H l = none → Q (.ref l) (upd H l (.tup ys))) ∨ (SqT K H p ys ∧ Q (.ref p) H))
def uStr : List V → Hp → VK → Prop := fun xs H Q => ∃ i, xs = [.int i] ∧ i.natAbs.log2 < 1920 ∧ Q (.str (toString i)) H
def rIsascii : V → List V → Hp → VK → Prop := fun x xs H Q => ∃ a, x = .str a ∧ xs = [] ∧ True ∧ Q (.bl (Txt.isascii a)) H
def rIsdigit : V → List V → Hp → VK → Prop := fun x xs H Q => ∃ a, x = .str a ∧ xs = [] ∧ True ∧ Q (.bl (Txt.isdigit a)) H
def rStarts : V → List V → Hp → VK → Prop := fun x xs H Q => ∃ a b, x = .str a ∧ xs = [.str b] ∧ Q (.bl (Txt.startswith a b)) H
def tTru (K : PySem.W.Frag) (t : TE) : TT := fun σ H Q => t σ H fun x H1 => ∃ k, TruV K x H1 k ∧ Q k H1
section
variable {X : Cx}
theorem u_add : OpR X (binaryOp .Add) (uAdd X.K) := op_add.or (op_add_str.or (op_cat.or op_catA))
theorem u_mul : OpR X (binaryOp .Mult) (uMul X.K) := op_mul.or (op_mulW.or op_rep)
theorem u_fdiv : OpR X (binaryOp .FloorDiv) uFdiv := op_fdivW.or op_fdivN
theorem u_mod : OpR X (binaryOp .Mod) uMod := op_mod.or op_modN
theorem u_eq (hu : X.A.units + 64 < cLine) : OpR X (compareOp .Eq) (uEq X.K) := op_eq.or (op_eqD hu)
theorem u_ne (hu : X.A.units + 64 < cLine) : OpR X (compareOp .NotEq) (uNe X.K) := op_ne.or (op_neD hu)
theorem u_lt (hu : X.A.units + 64 < cLine) : OpR X (compareOp .Lt) (uLt X.K) := op_lt.or (op_ltT (by omega))
theorem u_le : OpR X (compareOp .LtE) (uLe X.K) := op_le
theorem u_gt : OpR X (compareOp .Gt) (uGt X.K) := op_gt
theorem u_ge : OpR X (compareOp .GtE) (uGe X.K) := op_ge
theorem u_in : OpR X (compareOp .In) (uIn X.K) := op_in_seq.or op_in_str
theorem u_notin : OpR X (compareOp .NotIn) (uNotIn X.K) := op_notIn_seq.or op_notin_str
theorem u_ix : IxR X (uIx X.K) := ix_seq
theorem u_sl : SlR X (uSl X.K) := sl_list.or (sl_tupA.or sl_str)
theorem u_len : CallR X (.builtin "len") (uLen X.K) := call_len_seq.or call_len_str
theorem u_max (hc : X.calm = true) : CallR X (.builtin "max") (uMax X.K) := (call_max2 hc).or (cr_max hc)
theorem u_min (hc : X.calm = true) : CallR X (.builtin "min") (uMin X.K) := (call_min2 hc).or (cr_min hc)
theorem u_sum (hc : X.calm = true) : CallR X (.builtin "sum") (uSum X.K) := cr_sum hc
theorem u_isi : CallR X (.builtin "isinstance") (uIsi X.K) := call_isi
theorem u_int : CallR X (.type "int") uInt := call_int1.or call_int_str
theorem u_list : CallR X (.type "list") (uList X.K) := call_list_of
theorem u_tuple : CallR X (.type "tuple") (uTuple X.K) := call_tuple_of
theorem u_str : CallR X (.type "str") uStr := call_str_int
end

/-! ### what is walked: a list or a tuple -/
def iSeq (K : PySem.W.Frag) (tl : TE) : TI := fun σ H R => tl σ H fun x H1 => ∃ a, x = .ref a ∧ (((∃ xs, SqL K H1 a xs) ∧ R (Itl K a) H1) ∨ ((∃ xs, SqT K H1 a xs) ∧ R (Itt K a) H1))
theorem pi_seq {X : Cx} {tg l : Expr} {tl : TE} (hl : PE X l tl) : PI X tg l (iSeq X.K tl) := by
  refine ⟨fun pns st sg Hh Rr Iv hw => ?_⟩
  refine thn (hl.run pns st sg Hh _ Iv hw) fun vv st1 hh => ?_
  obtain ⟨xv, H1, I1, rel, a, eq, alt⟩ := hh
  subst eq
  cases rel
  have nw := I1.fpOk (b := st1.heap.objs.size) (Nat.le_refl _) (I1.hok.fresh (Nat.le_refl _))
  have one : ∀ b ∈ [st1.heap.objs.size], FpOk X pns H1 b := fun b hb => by rw [List.mem_singleton.mp hb]; exact nw
  rcases alt with ⟨⟨xs, hq⟩, q⟩ | ⟨⟨xs, hq⟩, q⟩
  · obtain ⟨its, _, pl, _⟩ := I1.list hq
    refine wpAny_pyIter_list pl.isList ⟨_, _, _, _, H1, rfl, ?_, turn_list a _, ⟨_, Heap.get?_push_size _ rfl, rfl, rfl⟩, one, q⟩
    exact I1.kept (t' := st1.toks) fun b o e => Heap.get?_push_of_some _ e
  · obtain ⟨its, _, pl, _⟩ := I1.tuple hq
    have pl' : st1.heap.IsTuple a its.toArray := pl
    refine wpAny_pyIter_tuple pl' ⟨_, _, _, _, H1, rfl, ?_, turn_tuple a _, ⟨_, Heap.get?_push_size _ rfl, rfl, rfl⟩, one, q⟩
    exact I1.kept (t' := st1.toks) fun b o e => Heap.get?_push_of_some _ e
/-! ### calls of own defs by their place's name -/
structure OkF (P : Program) (w : World) (K : PySem.W.Frag) (mg : Str → Option Value) (base : Heap) (CX : CXT) (k : Nat) (p : Str × Option Str) (ps : List Str) (sp : Sp) : Prop where
  ex : ∃ fd, FnOk P w K mg base CX k (He.fAd K p) fd ps sp ∧ Binds K fd ps []
  kp : PySem.W.keepIn K (.ref (He.fAd K p)) = true
section
variable {X : Cx} {CX : CXT} {k : Nat} {x : Str} {ps : List Str} {sp : Sp} {E : XK} {q pos apos : Pos} {e : Expr} {es : List Expr} {t : TA}
theorem pe_own (G : OkF X.prog X.w X.K X.mg X.base CX k (x, none) ps sp) (hr : Room k X.A) (hg : Gl X x) (hm : X.mg x = some (.ref (He.ga X.K x))) (hx : Passes CX X E) (ha : PA X (e :: es) t)
    (hd : (x == ("__debug__" : Str)) = false := by decide) (he : starEach (e :: es) X.env = (false, eval e X.env) :: starEach es X.env := by rfl) (hpl : (backTo pos (starEach es X.env)).any (·.1) = false := by rfl) :
    PE X (.Call (.Name x q) (e :: es) [] pos) (tCall sp [] E t) := by
  obtain ⟨fd, F, b⟩ := G.ex
  exact pe_call F hr hg hm G.kp b .nil hx ha hd he hpl
end
theorem FunD.okF {P : Program} {w : World} {K : PySem.W.Frag} {mg : Str → Option Value} {base : Heap} {CX : CXT} {k : Nat} {p : Str × Option Str} {x qual : Str} {params : Arguments} {body : List Stmt} {scope : Scope} {ps : List Str} {sp : Sp} {fd : FuncData}
    (F : FunD K x qual params body scope [] [] (He.fAd K p) fd) (hf : FnOk P w K mg base CX k (He.fAd K p) fd ps sp)
    (h : ∀ (kV doc pm : Value) (an : Option Addr) (cdv ct : Value) (us : List Value), us.length = ps.length → bindArgs (PySem.W.fnOf x qual params body scope .none kV doc pm an cdv ct) ⟨us, []⟩ = pure (ps.zip us)) : OkF P w K mg base CX k p ps sp :=
  ⟨⟨fd, hf, F.bindsN h⟩, F.kp⟩

theorem ex_app {H H' : Hp} (e : Ex H H') {a : Addr} {o : HO} (h : H a = some o) : H' a = some o := e a o h
/-! ### readings, one step at a time -/
section
variable {K : PySem.W.Frag} {σ : L2.St} {H : Hp} {Q : VK} {QT : Bool → Hp → Prop} {QA : List V → Hp → Prop} {ta tb tc te : TE} {t u : TT} {tr : TA} {r : R2} {v : V} {D : Ends} {ts tu : TS} {i j : Int} {b : Bool}
theorem c_var {n : Nat} (h : σ[n]? = some (some v)) (q : Q v H) : tVar n σ H Q := ⟨v, h, q⟩
theorem c_c (q : Q v H) : tC v σ H Q := q
theorem c_op (h : ta σ H fun x H1 => tb σ H1 fun y H2 => r x y H2 Q) : tOp r ta tb σ H Q := h
theorem c_un {f : V → Hp → VK → Prop} (h : ta σ H fun x H1 => f x H1 Q) : tUn f ta σ H Q := h
theorem c_cb {f : List V → Hp → VK → Prop} (h : tr σ H fun vs H1 => f vs H1 Q) : tCB f tr σ H Q := h
theorem c_nil (q : QA [] H) : tNil σ H QA := q
theorem c_cons (h : ta σ H fun x H1 => tr σ H1 fun xs H2 => QA (x :: xs) H2) : tCons ta tr σ H QA := h
theorem c_tup (h : tr σ H fun xs H1 => xs.length ≤ sizeLine ∧ ∀ p, H1 p = none → Q (.ref p) (upd H1 p (.tup xs))) : tTup tr σ H Q := h
theorem c_lst (h : tr σ H fun xs H1 => xs.length ≤ sizeLine ∧ ∀ p, H1 p = none → Q (.ref p) (upd H1 p (.lst xs))) : tLst tr σ H Q := h
theorem c_call {sp : Sp} {dvs : List V} {E : XK} (h : tr σ H fun vs H1 => sp (vs ++ dvs) H1 Q E) : tCall sp dvs E tr σ H Q := h
theorem c_test (h : te σ H fun x H1 => ∃ k, x = .bl k ∧ QT k H1) : tTest te σ H QT := h
theorem c_B (h : te σ H fun x H1 => ∃ k, x = .bl k ∧ QT k H1) : tB te σ H QT := h
theorem c_bl {p : Bool → Prop} (h : p b) : ∃ k, V.bl b = .bl k ∧ p k := ⟨b, rfl, h⟩
theorem c_not (h : t σ H fun c H1 => QT (!c) H1) : tNot t σ H QT := h
theorem c_and (h : t σ H fun c H1 => if c = true then u σ H1 QT else QT false H1) : tAnd t u σ H QT := h
theorem c_or (h : t σ H fun c H1 => if c = true then QT true H1 else u σ H1 QT) : tOr t u σ H QT := h
theorem c_andV (h : ta σ H fun x H1 => ∃ c, x = .bl c ∧ if c = true then tb σ H1 Q else Q (.bl false) H1) : tAndV ta tb σ H Q := h
theorem c_orV (h : ta σ H fun x H1 => ∃ c, x = .bl c ∧ if c = true then Q (.bl true) H1 else tb σ H1 Q) : tOrV ta tb σ H Q := h
theorem c_notV (h : ta σ H fun x H1 => ∃ c, x = .bl c ∧ Q (.bl (!c)) H1) : tNotV ta σ H Q := h
theorem c_if (h : t σ H fun c H1 => if c = true then ta σ H1 Q else tb σ H1 Q) : tIf t ta tb σ H Q := h
theorem c_fld {f : Str} (h : ta σ H fun x H1 => ∃ a C dx fs v, x = .ref a ∧ H1 a = some (.ins C dx fs) ∧ Cls K C ∧ NoAttr K C f ∧ fs.lookup f = some v ∧ Q v H1) : tFld K ta f σ H Q := h
-- statements
theorem c_seq (h : ts { D with nx := tu D } σ H) : tSeq ts tu D σ H := h
theorem c_asg {g : TG} (h : te σ H fun x H1 => g x σ H1 D.nx) : tAsg te g D σ H := h
theorem c_name {n : Nat} {QS : L2.St → Hp → Prop} (h : QS (σ.set n (some v)) H) : gName n v σ H QS := h
theorem c_sub {s : TSet} {QS : L2.St → Hp → Prop} (h : ta σ H fun o H1 => tb σ H1 fun x H2 => s o x v H2 fun H3 => QS σ H3) : gSub ta tb s v σ H QS := h
theorem c_ifS (h : t σ H fun c H1 => if c = true then ts D σ H1 else tu D σ H1) : tIfS t ts tu D σ H := h
theorem c_ret (h : te σ H D.rt) : tRet te D σ H := h
theorem c_next (h : D.nx σ H) : tNext D σ H := h
theorem c_drop (h : te σ H fun _ H1 => D.nx σ H1) : tDrop te D σ H := h
theorem c_par {m n : Nat} (h : tr σ H fun vs H1 => ∃ v w, vs = [v, w] ∧ D.nx ((σ.set m (some v)).set n (some w)) H1) : tPar m n tr D σ H := h
theorem c_par3 {m n l : Nat} (h : tr σ H fun vs H1 => ∃ u v w, vs = [u, v, w] ∧ D.nx (((σ.set m (some u)).set n (some v)).set l (some w)) H1) : tPar3 m n l tr D σ H := h
theorem c_vw {v w : V} {p : V → V → Prop} (h : p v w) : ∃ a b, [v, w] = [a, b] ∧ p a b := ⟨v, w, rfl, h⟩
theorem c_uvw {u v w : V} {p : V → V → V → Prop} (h : p u v w) : ∃ a b c, [u, v, w] = [a, b, c] ∧ p a b c := ⟨u, v, w, rfl, h⟩
-- operators
theorem c_addI (q : Q (.int (i + j)) H) : uAdd K (.int i) (.int j) H Q := .inl ⟨i, j, rfl, rfl, q⟩
theorem c_addS {x y : Str} (hl : x.length + y.length ≤ sizeLine) (q : Q (.str (x ++ y)) H) : uAdd K (.str x) (.str y) H Q := .inr (.inl ⟨x, y, rfl, rfl, hl, q⟩)
theorem c_subI (q : Q (.int (i - j)) H) : uSub (.int i) (.int j) H Q := ⟨i, j, rfl, rfl, q⟩
theorem c_mulI (h : CMul i j ∨ CMulW i j) (q : Q (.int (i * j)) H) : uMul K (.int i) (.int j) H Q := h.elim (fun h => .inl ⟨i, j, rfl, rfl, h, q⟩) fun h => .inr (.inl ⟨i, j, rfl, rfl, h, q⟩)
theorem c_fdivI (h : CDivW i j) (q : Q (.int (i / j)) H) : uFdiv (.int i) (.int j) H Q := .inl ⟨i, j, rfl, rfl, h, q⟩
theorem c_modI (h : 0 < j) (q : Q (.int (i % j)) H) : uMod (.int i) (.int j) H Q := .inl ⟨i, j, rfl, rfl, h, q⟩
theorem c_powI (h : CPow i j) (q : Q (.int (i ^ j.toNat)) H) : uPow (.int i) (.int j) H Q := ⟨i, j, rfl, rfl, h, q⟩
theorem c_negI (q : Q (.int (-i)) H) : uNeg (.int i) H Q := ⟨i, rfl, q⟩
theorem c_eqI (q : Q (.bl (decide (i = j))) H) : uEq K (.int i) (.int j) H Q := .inl ⟨rfl, by
  have e : decide (V.int i = V.int j) = decide (i = j) := by rw [dec_int, Bool.beq_eq_decide_eq]
  rw [e]; exact q⟩
theorem c_neI (q : Q (.bl (!decide (i = j))) H) : uNe K (.int i) (.int j) H Q := .inl ⟨rfl, by
  have e : decide (V.int i = V.int j) = decide (i = j) := by rw [dec_int, Bool.beq_eq_decide_eq]
  rw [e]; exact q⟩
theorem c_eqS {x y : Str} (q : Q (.bl (decide (x = y))) H) : uEq K (.str x) (.str y) H Q := .inl ⟨rfl, by
  have e : decide (V.str x = V.str y) = decide (x = y) := by rw [dec_str, Bool.beq_eq_decide_eq]
  rw [e]; exact q⟩
theorem c_neS {x y : Str} (q : Q (.bl (!decide (x = y))) H) : uNe K (.str x) (.str y) H Q := .inl ⟨rfl, by
  have e : decide (V.str x = V.str y) = decide (x = y) := by rw [dec_str, Bool.beq_eq_decide_eq]
  rw [e]; exact q⟩
theorem c_ltI (q : Q (.bl (decide (i < j))) H) : uLt K (.int i) (.int j) H Q := .inl ⟨i, j, rfl, rfl, q⟩
theorem c_leI (q : Q (.bl (decide (i ≤ j))) H) : uLe K (.int i) (.int j) H Q := ⟨i, j, rfl, rfl, q⟩
theorem c_gtI (q : Q (.bl (decide (j < i))) H) : uGt K (.int i) (.int j) H Q := ⟨i, j, rfl, rfl, q⟩
theorem c_geI (q : Q (.bl (decide (j ≤ i))) H) : uGe K (.int i) (.int j) H Q := ⟨i, j, rfl, rfl, q⟩
theorem c_isN (q : Q (.bl (decide (v = .non))) H) : uIsN v .non H Q := ⟨rfl, q⟩
theorem c_notN (q : Q (.bl (!decide (v = .non))) H) : uNotN v .non H Q := ⟨rfl, q⟩
theorem c_ixL {p : Addr} {xs : List V} (h : SqL K H p xs) (a : atI xs i = some v) (q : Q v H) : uIx K (.ref p) (.int i) H Q := .inl ⟨p, xs, i, v, rfl, rfl, h, a, q⟩
theorem c_ixT {p : Addr} {xs : List V} (h : SqT K H p xs) (a : atI xs i = some v) (q : Q v H) : uIx K (.ref p) (.int i) H Q := .inr (.inl ⟨p, xs, i, v, rfl, rfl, h, a, q⟩)
theorem c_lenL {p : Addr} {xs : List V} (h : SqL K H p xs) (q : Q (.int (xs.length : Int)) H) : uLen K [.ref p] H Q := .inl ⟨p, xs, rfl, .inl h, q⟩
theorem c_lenT {p : Addr} {xs : List V} (h : SqT K H p xs) (q : Q (.int (xs.length : Int)) H) : uLen K [.ref p] H Q := .inl ⟨p, xs, rfl, .inr h, q⟩
theorem c_intI (q : Q (.int i) H) : uInt [.int i] H Q := .inl (.inl ⟨i, rfl, q⟩)
theorem c_intB (q : Q (.int (if b then 1 else 0)) H) : uInt [.bl b] H Q := .inl (.inr ⟨b, rfl, q⟩)
theorem c_absI (q : Q (.int (if i < 0 then -i else i)) H) : rAbs [.int i] H Q := ⟨i, rfl, q⟩
theorem c_setL {p : Addr} {xs : List V} {n : Nat} {QS : Hp → Prop} (h : H p = some (.lst xs)) (a : ixN xs.length i = some n) (q : QS (upd H p (.lst (xs.set n v)))) : rSetL (.ref p) (.int i) v H QS := ⟨p, xs, i, n, rfl, rfl, h, a, q⟩
theorem c_isi {c : V} {t u : Value} (hc : ClsV c u) (ht : TyX K H v t) (h : PySem.W.kitOne K t u = some b) (q : Q (.bl b) H) : uIsi K [v, c] H Q := ⟨v, c, t, u, b, rfl, hc, ht, h, q⟩
end
section
variable {A B : Prop} {b : Bool}
theorem c_iteT (h : b = true) (q : A) : if b = true then A else B := by rw [if_pos h]; exact q
theorem c_iteF (h : b = false) (q : B) : if b = true then A else B := by rw [h, if_neg Bool.false_ne_true]; exact q
theorem c_ite (h1 : b = true → A) (h2 : b = false → B) : if b = true then A else B := by
  cases b with
  | true => rw [if_pos rfl]; exact h1 rfl
  | false => rw [if_neg Bool.false_ne_true]; exact h2 rfl
end
section
variable {K : PySem.W.Frag} {σ : L2.St} {H : Hp} {Q : VK} {te tl : TE} {tt : TT} {tr : TA} {g : TG} {ws : List Nat} {D : Ends} {ts : TS} {wi : TI} {R : It → Hp → Prop} {to th : TO} {QO : Option Int → Hp → Prop} {lo hi : Option Int} {i : Int} {v : V}
theorem c_for (h : wi σ H fun J H1 => ∃ W : Nat → Nat → L2.St → Hp → Prop, (∃ m, W 0 m σ H1) ∧ ∀ i m σ H, W i m σ H →
  (J.stop i H ∧ D.nx σ H) ∨ (J.go i H ∧ ∃ N : L2.St → Hp → Prop, (∀ σ' H', N σ' H' → ∃ m', m' < m ∧ W (i + 1) m' σ' H') ∧ ∀ x H', J.yld i H x H' → g x σ H' fun σ2 H2 => ts { D with nx := N, ct := N, bk := D.nx } σ2 H2)) : tFor wi g ts D σ H := h
theorem c_lc (h : wi σ H fun J H1 => ∀ L, H1 L = none → ∃ W : Nat → Nat → Hp → Prop, (∃ m, W 0 m (upd H1 L (.lst []))) ∧ ∀ i m H, W i m H →
  (J.stop i H ∧ Q (.ref L) H) ∨ (J.go i H ∧ ∃ Nx : Hp → Prop, (∀ H', Nx H' → ∃ m', m' < m ∧ W (i + 1) m' H') ∧ ∀ x H', J.yld i H x H' → g x (wipe σ ws) H' fun σ2 H2 => wipe σ2 ws = wipe σ ws ∧ tt σ2 H2 fun b H3 =>
    if b = true then te σ2 H3 fun y H4 => ∃ acc, H4 L = some (.lst acc) ∧ acc.length < sizeLine ∧ Nx (upd H4 L (.lst (acc ++ [y]))) else Nx H3)) : tLc wi g tt te ws σ H Q := h
theorem c_iZip (h : tr σ H fun vs H1 => ∃ a b xs ys, vs = [.ref a, .ref b] ∧ ((SqL K H1 a xs ∧ SqL K H1 b ys ∧ R (Itz K a b) H1) ∨ (SqT K H1 a xs ∧ SqT K H1 b ys ∧ R (ItzT K a b) H1))) : iZipA K tr σ H R := h
theorem c_tupG {n : Nat} {t : TGs} {a : Addr} {xs : List V} {QS : L2.St → Hp → Prop} (h : H a = some (.tup xs)) (hn : xs.length = n) (q : t xs σ H QS) : gTup K n t (.ref a) σ H QS := ⟨a, xs, rfl, SqT.of h, hn, q⟩
theorem c_gcons {t : TG} {u : TGs} {xs : List V} {QS : L2.St → Hp → Prop} (q : t v σ H fun σ' H' => u xs σ' H' QS) : gCons t u (v :: xs) σ H QS := ⟨v, xs, rfl, q⟩
theorem c_gnil {QS : L2.St → Hp → Prop} (q : QS σ H) : gNil [] σ H QS := ⟨rfl, q⟩
theorem c_meth {C : Addr} {m : Str} {sp : Sp} {dvs : List V} {E : XK} (h : te σ H fun x H1 => ∃ a dx fs, x = .ref a ∧ H1 a = some (.ins C dx fs) ∧ fs.lookup m = none ∧ tr σ H1 fun vs H2 => sp (x :: (vs ++ dvs)) H2 Q E) : tMeth C m sp dvs E te tr σ H Q := h
theorem c_make {C : Addr} {sp : Sp} {dvs : List V} {E : XK} (h : tr σ H fun vs H1 => ∀ x dx, H1 x = none → H1 dx = none → dx ≠ x → sp (.ref x :: (vs ++ dvs)) (upd (upd H1 dx (.own x)) x (.ins C dx [])) (fun v H2 => v = .non ∧ Q (.ref x) H2) E) : tMake C sp dvs E tr σ H Q := h
theorem c_m0 {r : V → List V → Hp → VK → Prop} (h : te σ H fun x H1 => (∃ a, x = .str a) ∧ r x [] H1 Q) : tM0 r te σ H Q := h
theorem c_m1 {r : V → List V → Hp → VK → Prop} (h : te σ H fun x H1 => (∃ a, x = .str a) ∧ tl σ H1 fun y H2 => r x [y] H2 Q) : tM1 r te tl σ H Q := h
theorem c_asc {a : Str} (q : Q (.bl (Txt.isascii a)) H) : (∃ b, V.str a = .str b) ∧ rIsascii (.str a) [] H Q := ⟨⟨_, rfl⟩, a, rfl, rfl, trivial, q⟩
theorem c_dig {a : Str} (q : Q (.bl (Txt.isdigit a)) H) : (∃ b, V.str a = .str b) ∧ rIsdigit (.str a) [] H Q := ⟨⟨_, rfl⟩, a, rfl, rfl, trivial, q⟩
theorem c_sx {x : Str} {p : Prop} (h : p) : (∃ a, V.str x = .str a) ∧ p := ⟨⟨x, rfl⟩, h⟩
theorem c_sta {a b : Str} (q : Q (.bl (Txt.startswith a b)) H) : rStarts (.str a) [.str b] H Q := ⟨a, b, rfl, rfl, q⟩
theorem c_lenS {z : Str} (h : z.length ≤ sizeLine) (q : Q (.int z.length) H) : uLen K [.str z] H Q := .inr ⟨z, rfl, h, q⟩
theorem c_intS {a : Str} {n : Int} (h : PySem.intText? a = some n) (hl : a.length ≤ 640) (q : Q (.int n) H) : uInt [.str a] H Q := .inr ⟨a, n, rfl, h, hl, q⟩
theorem c_sFld {ta tv : TE} {f : Str} (h : tv σ H fun y H1 => ta σ H1 fun x H2 => ∃ a C dx fs, x = .ref a ∧ H2 a = some (.ins C dx fs) ∧ Cls K C ∧ NoAttr K C f ∧ fs.length < 1000 ∧ D.nx σ (upd H2 a (.ins C dx (putF f y fs)))) : sFld K ta tv f D σ H := h
theorem c_yes {QT : Bool → Hp → Prop} (h : QT true H) : tYes σ H QT := h
theorem c_iList (h : tl σ H fun x H1 => ∃ a, x = .ref a ∧ (∃ xs, SqL K H1 a xs) ∧ R (Itl K a) H1) : iList K tl σ H R := h
theorem c_iTup (h : tl σ H fun x H1 => ∃ a, x = .ref a ∧ (∃ xs, SqT K H1 a xs) ∧ R (Itt K a) H1) : iTup K tl σ H R := h
theorem c_iSeq (h : tl σ H fun x H1 => ∃ a, x = .ref a ∧ (((∃ xs, SqL K H1 a xs) ∧ R (Itl K a) H1) ∨ ((∃ xs, SqT K H1 a xs) ∧ R (Itt K a) H1))) : iSeq K tl σ H R := h
theorem c_iR1 (h : tr σ H fun vs H1 => ∃ j : Int, vs = [.int j] ∧ -(2 ^ 62) ≤ j ∧ j < 2 ^ 62 ∧ R (Itr 0 j.toNat) H1) : iRng1 tr σ H R := h
theorem c_iR2 (h : tr σ H fun vs H1 => ∃ i j : Int, vs = [.int i, .int j] ∧ (-(2 ^ 62) ≤ i ∧ i < 2 ^ 62 ∧ -(2 ^ 62) ≤ j ∧ j < 2 ^ 62) ∧ R (Itr i (j - i).toNat) H1) : iRng2 tr σ H R := h
theorem c_sl {r : V → Option Int → Option Int → Hp → VK → Prop} (h : te σ H fun x H1 => to σ H1 fun l H2 => th σ H2 fun u H3 => r x l u H3 Q) : tSl r te to th σ H Q := h
theorem c_part (h : te σ H fun x H1 => ∃ i, x = .int i ∧ QO (some i) H1) : tPart te σ H QO := h
theorem c_noPart (h : QO none H) : tNoPart σ H QO := h
theorem c_i1 {p : Int → Prop} (h : p i) : ∃ j, V.int i = .int j ∧ p j := ⟨i, rfl, h⟩
theorem c_slL {p : Addr} {xs : List V} (h : SqL K H p xs) (q : ∀ l, H l = none → Q (.ref l) (upd H l (.lst (cutV xs lo hi)))) : uSl K (.ref p) lo hi H Q := .inl ⟨p, xs, rfl, h, q⟩
theorem c_slT {p : Addr} {xs : List V} (h : H p = some (.tup xs)) (q : ∀ t H', Ex H H' → H' t = some (.tup (cutV xs lo hi)) → (t = p ∨ H t = none) → Q (.ref t) H') : uSl K (.ref p) lo hi H Q := by
  refine .inr (.inl ⟨p, xs, rfl, SqT.of h, fun e => ?_, fun _ t ht => q t _ (Ex.new ht) upd_same (.inr ht)⟩)
  refine q p H (Ex.refl H) ?_ (.inl rfl)
  have e2 : cutV xs lo hi = xs := by
    unfold cutV
    rw [e.1, e.2, List.drop_zero, Nat.sub_zero, List.take_length]
  rw [e2]
  exact h
theorem c_slS {z : Str} (h : z.length ≤ sizeLine) (q : Q (.str (cutS z lo hi)) H) : uSl K (.str z) lo hi H Q := .inr (.inr ⟨z, rfl, h, q⟩)
theorem c_listL {p : Addr} {xs : List V} (h : SqL K H p xs) (q : ∀ l, H l = none → Q (.ref l) (upd H l (.lst xs))) : uList K [.ref p] H Q := ⟨p, xs, rfl, .inl h, q⟩
theorem c_listT {p : Addr} {xs : List V} (h : SqT K H p xs) (q : ∀ l, H l = none → Q (.ref l) (upd H l (.lst xs))) : uList K [.ref p] H Q := ⟨p, xs, rfl, .inr h, q⟩
theorem c_tupleL {p : Addr} {xs : List V} (h : SqL K H p xs) (q : ∀ l, H l = none → Q (.ref l) (upd H l (.tup xs))) : uTuple K [.ref p] H Q := ⟨p, xs, rfl, .inl ⟨h, q⟩⟩
theorem c_app {p : Addr} {xs : List V} (h : H p = some (.lst xs)) (hz : xs.length < sizeLine) (q : Q .non (upd H p (.lst (xs ++ [v])))) : rAppend (.ref p) [v] H Q := ⟨p, xs, v, rfl, rfl, h, hz, q⟩
theorem c_rev {p : Addr} {xs : List V} (h : H p = some (.lst xs)) (q : Q .non (upd H p (.lst xs.reverse))) : rReverse (.ref p) [] H Q := ⟨p, xs, rfl, rfl, h, q⟩
theorem c_bm {T : String} {r : V → List V → Hp → VK → Prop} (h : te σ H fun x H1 => tyV K T x H1 ∧ tr σ H1 fun xs H2 => r x xs H2 Q) : tBM K T r te tr σ H Q := h
theorem c_bm0 {T : String} {r : V → List V → Hp → VK → Prop} (h : te σ H fun x H1 => tyV K T x H1 ∧ r x [] H1 Q) : tBM0 K T r te σ H Q := h
theorem c_tyL {p : Addr} {xs : List V} (h : H p = some (.lst xs)) : tyV K "list" (.ref p) H := .inl ⟨rfl, xs, SqL.of h⟩
theorem c_aug {n : Nat} {f : Int → Int → Int} {a : Int} (hx : σ[n]? = some (some (.int a))) (h : te σ H fun y H1 => ∃ j, y = .int j ∧ D.nx (σ.set n (some (.int (f a j)))) H1) (mono : ∀ (Q Q' : VK), (∀ v H1, Q v H1 → Q' v H1) → te σ H Q → te σ H Q') : tAug n te (ipI f) D σ H :=
  ⟨.int a, hx, mono _ _ (fun y H1 q => by obtain ⟨j, rfl, q⟩ := q; exact ⟨a, j, rfl, rfl, q⟩) h⟩
end
/-- what stands behind an if, told once -/
theorem c_cut {ts tu : TS} {D : Ends} {σ : L2.St} {H : Hp} (Mid : L2.St → Hp → Prop) (h : ts { D with nx := Mid } σ H) (k : ∀ σ' H', Mid σ' H' → tu D σ' H') : tCut ts tu D σ H := ⟨Mid, h, k⟩
/-- a while by a word W that speaks of a number that falls -/
theorem c_while {c : TT} {tb : TS} {D : Ends} {σ : L2.St} {H : Hp} (W : Nat → L2.St → Hp → Prop) (m0 : Nat) (h0 : W m0 σ H)
    (hs : ∀ m σ H, W m σ H → c σ H fun b H1 => if b = true then tb { D with nx := fun σ' H' => ∃ m', m' < m ∧ W m' σ' H', ct := fun σ' H' => ∃ m', m' < m ∧ W m' σ' H', bk := D.nx } σ H1 else D.nx σ H1)
    (mono : ∀ s0 h0 Q1 Q2, (∀ b h1, Q1 b h1 → Q2 b h1) → c s0 h0 Q1 → c s0 h0 Q2) : tWhile c tb D σ H := by
  refine ⟨W, ⟨m0, h0⟩, fun m σ1 H1 hw => ?_⟩
  refine mono σ1 H1 _ _ (fun b H2 q => ?_) (hs m σ1 H1 hw)
  cases b with
  | true => rw [if_pos rfl] at q ⊢; exact ⟨_, fun _ _ z => z, q⟩
  | false => rw [if_neg Bool.false_ne_true] at q ⊢; exact q
end Tw
/-! Own layer, part Q: an own error raised, caught, looked at by a def that the except suite calls. -/
namespace Tw
open PySem PySem.Spec PyProof.Rows L2 Evl RZ L2H HotX

/-! ### raise of an own error, its context None -/
theorem passN {X : Cx} : Passes (L2N.CX X.prog X.w) X E0 := fun _ _ _ _ _ _ _ h => by
  obtain ⟨_, _, _, _, _, _, _, _, _, _, _, _, z⟩ := (h)
  exact z.elim
theorem pmk_ownN {X : Cx} {nm : Str} {a0 : Expr} {as : List Expr} {tr : TA} {p pos : Pos} {C fi : Addr} {k : Nat} {fd : FuncData} {pars : List Str} {sp : Sp} (oc : OexC X.K C) (iC : PySem.W.findIn X.K (.ref C) "__init__" = some (some (.ref fi)))
    (tI : PySem.W.typeIn X.K (.ref fi) = some (.type "function")) (fo : FnOk X.prog X.w X.K X.mg X.base (L2N.CX X.prog X.w) k fi fd pars sp) (room : Room (k + 1) X.A) (bd : Binds X.K fd pars []) (gl : Gl X nm) (mgx : X.mg nm = some (.ref C))
    (dA : PA X (a0 :: as) tr) (hdb : (nm == ("__debug__" : Str)) = false := by decide) (he : starEach (a0 :: as) X.env = (false, eval a0 X.env) :: starEach as X.env := by rfl) (hpl : (backTo pos (starEach as X.env)).any (·.1) = false := by rfl) :
    L2N.PMk X (.Call (.Name nm p) (a0 :: as) [] pos) (tMkO C sp [] tr) := by
  intro pns st sg G Qx iv hw
  obtain ⟨n1, n2, n3, n4, mro, n5, n6, n7, n8, n9, j0, j1, j2, j3, j5, atC, refs⟩ := oc.cls
  refine wpAny_Call_Name_kw (ld_glob iv gl mgx ?_ hdb)
  refine PySem.W.callWith_K (h₀ := X.base) iv.ok.mod.kin oc.kC (thn (dA.run pos pns st sg G _ iv hw) fun us st1 hh => ?_) he hpl
  obtain ⟨vs, G1, iv1, rel, small, want⟩ := hh
  refine ⟨iv1.kIn, ?_⟩
  show (wpAny _ _ (call (.ref C) us) _ _ _)
  obtain ⟨heap, gens, drw, tok, osx⟩ := st1
  have up1 : heap.objs.size ≤ heap.objs.size + 1 := Nat.le_succ _
  have w1 := want (heap.objs.size + 1) (iv1.hok.fresh up1)
  rw [List.append_nil] at w1
  have stays : ∀ b o, heap.get? b = some o → ((heap.push (PySem.W.kdv_tup us)).push (PySem.HandSPX.excO C heap.objs.size)).get? b = some o := fun b o e => Heap.get?_push_of_some _ (Heap.get?_push_of_some _ e)
  have there : ((heap.push (PySem.W.kdv_tup us)).push (PySem.HandSPX.excO C heap.objs.size)).get? (heap.objs.size + 1) = some (PySem.HandSPX.excO C heap.objs.size) := by heap_get
  have iv2 : Inv X pns sg (upd G1 (heap.objs.size + 1) (exo (heap.objs.size + 1) C none)) ⟨(heap.push (PySem.W.kdv_tup us)).push (PySem.HandSPX.excO C heap.objs.size), gens, drw, tok, osx⟩ :=
    iv1.laid (t' := tok) (a := heap.objs.size + 1) (o := exo (heap.objs.size + 1) C none) (h' := (heap.push (PySem.W.kdv_tup us)).push (PySem.HandSPX.excO C heap.objs.size)) stays up1 (exo_ok there)
  have relS : Vals (V.ref (heap.objs.size + 1) :: vs) (Value.ref (heap.objs.size + 1) :: us) := .cons rfl rel
  have lenS : (Value.ref (heap.objs.size + 1) :: us ++ []).length = pars.length := by
    rw [List.append_nil, ← relS.length]
    exact fo.len _ _ _ _ w1
  have lenU : us.length ≤ sizeLine := by
    rw [← Paired.length rel, sizeLine_eq]
    omega
  have bound := bd _ (Value.ref (heap.objs.size + 1) :: us) iv2.kIn lenS
  rw [List.append_nil] at bound
  refine wpAny_call (PySem.HandSPX.call_own F.excBase_ValueError (fun Y => PySem.HandSPX.refsVE_contains Y mro refs) (iv1.kIn _ _ atC) (PySem.W.looks_findIn iv1.kIn iC) (fun self => PySem.W.bind_fn iv1.kIn self tI) lenU
    (codeAny_mono (fo.run _ X.stack _ _ ⟨Value.ref (heap.objs.size + 1) :: us, []⟩ (Value.ref (heap.objs.size + 1) :: us) _ _ (fun _ _ _ => False) (room.make C us []) (iv2.env0.make C us []) bound relS w1) fun r st' told => ?_))
  cases r with
  | error er => exact passN pns sg _ _ er st' iv2 told
  | ok fl =>
    cases fl with
    | ret u =>
      obtain ⟨v, G2, os2, bare2, un2, hok2, rv, ev, d, fs, ea, ed, hd1, q2⟩ := told
      cases ev
      obtain ⟨heap2, gens2, drw2, tok2, osy⟩ := st'
      obtain ⟨t0, R, J, kR, gone, put, nA⟩ := mk_end0 (d2 := drw2) (t2 := tok2) iv1 up1 stays un2 hok2 os2 bare2 ea ed hd1
      refine ⟨rv, heap.objs.size + 1, _, _, ⟨R, gens2, drw2, tok2, osy⟩, _, .ref C, some d, rfl, J, kR, gone, put, ⟨rfl, rfl, fun ws hv => ?_⟩, rfl, rfl, nA, rfl, bare2, raises_own oc.exC oc.tyC, q2⟩
      cases hv
      rfl
    | next => exact told.elim
    | brk => exact told.elim
    | cont => exact told.elim

/-! ### a call with keywords inside a try -/
def tCallKS (sp : Sp) (gV : List V → List V → List V) (E : L2.St → XK) (t tk : TA) : TE := fun σ H Q => t σ H fun vs H1 => tk σ H1 fun zs H2 => sp (gV vs zs) H2 Q (E σ)
section
variable {X : Cx} {CX : CXT} {k : Nat} {f : Addr} {fd : FuncData} {ps ks : List Str} {sp : Sp} {E : L2.St → XK} {x : Str} {p pos : Pos} {e : Expr} {es : List Expr} {kws : List Keyword} {t tk : TA} {g : List Value → List Value → List Value} {gV : List V → List V → List V}
theorem pe_callKS (fo : FnOk X.prog X.w X.K X.mg X.base CX k f fd ps sp) (room : Room k X.A) (gl : Gl X x) (mgx : X.mg x = some (.ref f)) (kp : PySem.W.keepIn X.K (.ref f) = true) (bd : KBinds X.K fd ps ks g gV) (pass : ∀ σ, PassesAt CX X σ (E σ))
    (dA : PA X (e :: es) t) (dK : PK X kws tk) (hall : (backToKw pos (keywordEach kws X.env)).all (·.1.isSome) = true := by rfl) (hks : (backToKw pos (keywordEach kws X.env)).filterMap (·.1) = ks := by rfl)
    (hdb : (x == ("__debug__" : Str)) = false := by decide) (hst : starEach (e :: es) X.env = (false, eval e X.env) :: starEach es X.env := by rfl)
    (hpl : ((backTo pos (starEach (e :: es) X.env)).any (·.1) || (backToKw pos (keywordEach kws X.env)).any (·.1.isNone)) = false := by exact rfl) :
    PE X (.Call (.Name x p) (e :: es) kws pos) (tCallKS sp gV E t tk) := by
  refine ⟨fun pns st sg G Qv iv hw => wpAny_Call_Name_kw (ld_glob iv gl mgx ?_ hdb)⟩
  refine PySem.W.callWith_KW (h₀ := X.base) iv.ok.mod.kin kp hall (thn (dA.run pos pns st sg G _ iv hw) fun us st1 h1 => ?_) hpl hst
  obtain ⟨vs, G1, iv1, r1, w1⟩ := h1
  refine thn (dK.run pos pns st1 sg G1 _ iv1 w1) fun ws st2 h2 => ?_
  obtain ⟨zs, G2, iv2, r2, w2⟩ := h2
  refine ⟨iv2.kIn, ?_⟩
  rw [hks]
  have rel := bd.rel r1 r2
  have len : (g us ws).length = ps.length := rel.length.symm.trans (fo.len _ _ _ _ w2)
  refine wpAny_call (codeAny_mono (fo.run X.A X.stack st2 G2 ⟨us, ks.zip ws⟩ (g us ws) (gV vs zs) Qv (E sg) room iv2.env0 (bd.to st2 us ws iv2.kIn len) rel w2) fun r st3 told => ?_)
  cases r with
  | error er => exact pass sg pns G2 st2 er st3 iv2 told
  | ok fl =>
    cases fl with
    | ret u => exact iv2.after told
    | next => exact told.elim
    | brk => exact told.elim
    | cont => exact told.elim
end

/-! ### a def that is called while e is handled: what it promises speaks of e's object, class and dict -/
abbrev SpH := Addr → Value → Option Addr → Sp
structure FnP (P : Program) (w : World) (K : PySem.W.Frag) (mg : Str → Option Value) (base : Heap) (CX : CXT) (k : Nat) (f : Addr) (fd : FuncData) (ps : List Str) (sp : SpH) : Prop where
  len : ∀ a c d vs H Q E, sp a c d vs H Q E → vs.length = ps.length
  run : ∀ (A : Around) (outer : List Env) (s : Shared) (H : Hp) (args : Args) (us : List Value) (vs : List V) (Q : VK) (E : XK) (p : Addr × Obj) (c : Value) (d : Option Addr), RoomH k A → Hot1 A p → L2N.Zn c d p.2 → PinOk outer H s p → Env0 P w K mg base A outer s H →
    BindsTo s fd args (ps.zip us) → Vals vs us → sp p.1 c d vs H Q E → codeAny (model P w) A (.call (.ref f) args) (CR CX outer P w H s Q E) s
/-- where e is handled: p is e's object, its class c, its dict d -/
structure HotE (X : Cx) (p : Addr × Obj) (c : Value) (d : Option Addr) : Prop where
  hot : Hot1 X.A p
  mem : p ∈ X.pn
  zn : L2N.Zn c d p.2
def tCallP (a : Addr) (c : Value) (d : Option Addr) (sp : SpH) (t : TA) : TE := fun σ H Q => t σ H fun vs H1 => sp a c d vs H1 Q E0
theorem pe_callP {X : Cx} {k : Nat} {f : Addr} {fd : FuncData} {ps : List Str} {sp : SpH} {x : Str} {q pos : Pos} {e : Expr} {es : List Expr} {t : TA} {p : Addr × Obj} {c : Value} {d : Option Addr} (fo : FnP X.prog X.w X.K X.mg X.base (L2N.CX X.prog X.w) k f fd ps sp) (room : RoomH k X.A) (hh : HotE X p c d)
    (gl : Gl X x) (mgx : X.mg x = some (.ref f)) (kp : PySem.W.keepIn X.K (.ref f) = true) (bd : Binds X.K fd ps []) (dA : PA X (e :: es) t)
    (hdb : (x == ("__debug__" : Str)) = false := by decide) (hst : starEach (e :: es) X.env = (false, eval e X.env) :: starEach es X.env := by rfl) (hpl : (backTo pos (starEach es X.env)).any (·.1) = false := by rfl) :
    PE X (.Call (.Name x q) (e :: es) [] pos) (tCallP p.1 c d sp t) := by
  refine ⟨fun pns st sg G Qv iv hw => wpAny_Call_Name_kw (ld_glob iv gl mgx ?_ hdb)⟩
  refine PySem.W.callWith_K (h₀ := X.base) iv.ok.mod.kin kp (thn (dA.run pos pns st sg G _ iv hw) fun us st1 h1 => ?_) hst hpl
  obtain ⟨vs, G1, iv1, rel, w1⟩ := h1
  refine ⟨iv1.kIn, ?_⟩
  have len : us.length = ps.length := rel.length.symm.trans (fo.len _ _ _ _ _ _ _ w1)
  have bound := bd st1 us iv1.kIn (by rw [List.append_nil]; exact len)
  rw [List.append_nil] at bound
  obtain ⟨g1, g2, g3, g4, g5⟩ := iv1.pin p (List.mem_append_left _ hh.mem)
  have pin : PinOk X.stack G1 st1 p := ⟨g1, g2, fun inF => (List.mem_cons.mp (iv1.stkSub p.1 inF)).elim g3 g4, g5⟩
  refine wpAny_call (codeAny_mono (fo.run X.A X.stack st1 G1 ⟨us, []⟩ us vs Qv E0 p c d room hh.hot hh.zn pin iv1.env0 bound rel w1) fun r st2 told => ?_)
  cases r with
  | error er => exact passN pns sg G1 st1 er st2 iv1 told
  | ok fl =>
    cases fl with
    | ret u => exact iv1.after told
    | next => exact told.elim
    | brk => exact told.elim
    | cont => exact told.elim
/-- its body -/
theorem fn_ofP {CX : CXT} {P : Program} {w : World} {K : PySem.W.Frag} {mg : Str → Option Value} {base : Heap} {k : Nat} {f : Addr} {name qual : Str} {params : Arguments} {body : List Stmt} {scope : Scope} {dV kV doc pm cdv ct oc : Value} {an od : Option Addr}
    {osl : Array (Option Value)} {N ps : List Str} {sp : SpH} (lk : K.lookup f = some ⟨oc, od, .func (PySem.W.fnOf name qual params body scope dV kV doc pm an cdv ct), osl⟩) (hcd : PySem.W.codeIn K cdv qual = true) (S : FnScope N ps scope)
    (len : ∀ a c d vs H Q E, sp a c d vs H Q E → vs.length = ps.length)
    (hbody : ∀ (A : Around) (outer : List Env) (s : Shared) (H : Hp) (vs : List V) (Q : VK) (E : XK) (p : Addr × Obj) (c : Value) (d : Option Addr), Hot1 A p → L2N.Zn c d p.2 → RoomH k (A.deeper (envOfC qual scope s.heap.objs.size f cdv)) → sp p.1 c d vs H Q E →
      ∃ tb, PSs (cxH CX P w K mg base N qual scope f cdv A outer s H E p) body tb ∧ tb { nx := fun _ H' => Q .non H', rt := Q } (L2.start N vs) H) :
    FnP P w K mg base CX (k + 1) f (PySem.W.fnOf name qual params body scope dV kV doc pm an cdv ct) ps sp := by
  refine ⟨len, fun A outer s H args us vs Q E p c d room hot zn pin e0 bound rel hw => ?_⟩
  have lenV := len _ _ _ _ _ _ _ hw
  have inK : K.In s.heap := e0.mod.kin.keeps fun b o e => (e0.bs b o e).1
  have free : s.heap.NoLimit := e0.mod.nolimit.keeps fun b o e => (e0.bs b o e).1
  have kinds : ∀ y ∈ ps.zip us, scope.names.lookup y.1 = some .local ∨ (scope.names.lookup y.1 = some .cell ∧ ((cellsFrom (s.heap.objs.size + 1) scope.names []).lookup y.1).isSome = true) := fun ⟨nm, v⟩ inZ =>
    (S.par nm (List.of_mem_zip inZ).1).imp id fun isC => ⟨isC, PySem.W.cellsFrom_some _ _ _ (.inl isC)⟩
  refine codeAny_call_function room.depth (inK _ _ lk) rfl S.co S.gen rfl (PySem.W.codeRec_of inK hcd) (bound _ _ _ _ (wpAny_newFunctionEnv_cells S.kind kinds fun env eEnv s1 inC => ?_))
  cases eEnv
  refine ⟨free.keeps inC.toInCall.keep, codeAny_func ?_⟩
  obtain ⟨t, dB, tB⟩ := hbody A outer s H vs Q E p c d hot zn (room.deeper _) hw
  have iv0 : Inv (cxH CX P w K mg base N qual scope f cdv A outer s H E p) [] (L2.start N vs) H s1 := inv_startH S pin e0 lenV rel inC
  refine wpAny_mono (dB.run [] s1 _ H _ iv0 tB) (fun fl s2 told => ?_) fun _ _ told => told
  cases fl with
  | ret u =>
    obtain ⟨v, _, G, iv2, rv, q⟩ := told
    exact ⟨v, G, iv2.os, iv2.bare, iv2.base, iv2.hok, rv, q⟩
  | next =>
    obtain ⟨_, G, iv2, q⟩ := told
    exact ⟨V.non, G, iv2.os, iv2.bare, iv2.base, iv2.hok, rfl, q⟩
  | brk =>
    obtain ⟨_, _, _, q⟩ := told
    exact q.elim
  | cont =>
    obtain ⟨_, _, _, q⟩ := told
    exact q.elim

/-! ### isinstance and fields of the handled error -/
theorem find_classD {K : PySem.W.Frag} {C : Addr} {od : Option Obj} {a g : Value} {name : Str} (hc : (PySem.W.clsIn K C).isSome = true) (ha : PySem.W.findIn K (.ref C) name = some (some a)) (hg : PySem.W.specialIn K a "__get__" = some (some g)) (ht : PySem.W.takesIn K a = some true) :
    PySem.W.findObj K C od name = some (.bind g a) := by
  cases e : PySem.W.clsIn K C with
  | none => rw [e] at hc; cases hc
  | some cd =>
    unfold PySem.W.findObj
    rw [e, Option.bind_some, ha, Option.bind_some]
    simp [hg, ht]
/-- e.__class__, e with its dict -/
theorem class_ofE {prog : Program} {w : World} {A : Around} {E : Value → Shared → Prop} {s : Shared} {K : PySem.W.Frag} {x D : Addr} {ox : Obj} {od : Option Obj} {Q : Option Value → Shared → Prop} (T : ExcC K D) (inK : K.In s.heap) (at_ : PySem.W.InstAt s.heap x ox D od)
    (h : Q (some (.ref D)) { s with toks := s.toks + 1 }) : wpAny (model prog w) A (getAttr? (.ref x) "__class__") Q E s := by
  obtain ⟨tGa, tGt, tSub, tD, tCl, tGet, tTk, tMro⟩ := T
  have hcls : (PySem.W.clsIn K D).isSome = true := by
    obtain ⟨cd, e, _⟩ := PySem.W.any_some tD
    rw [e]
    rfl
  have bnd := find_classD (od := od) hcls tCl tGet tTk
  obtain ⟨heap, gens, drw, tok, osx⟩ := s
  have lkT := at_.type (M := model prog w)
  have lkGa := PySem.W.looks_findIn (M := model prog w) inK tGa
  have lkGt := PySem.W.looks_findIn (M := model prog w) inK tGt
  have lkF := PySem.W.looks_find (M := model prog w) inK at_ bnd
  have isE : PySem.W.Looks (model prog w) heap (isInstance (.ref x) (.type "BaseException")) true := lkT.andThen (PySem.W.looks_subIn inK tSub)
  have noObj : (Value.builtin "BaseException.__getattribute__" == Value.builtin "object.__getattribute__") = false := by decide +kernel
  unfold getAttr?
  unfold getAttrBy? getAttrBy
  refine wpAny_bind (wpAny_mkText (wpAny_bind (wpAny_attempt (wpAny_holding (wpAny_bind (lkT.at (wpAny_bind (lkGa.at ?_))))))))
  show (wpAny _ _ (if (onTheHeap (Value.ref D) && Value.builtin "BaseException.__getattribute__" == Value.builtin "object.__getattribute__") = true then _ else _) _ _ _)
  rw [show (onTheHeap (Value.ref D) && Value.builtin "BaseException.__getattribute__" == Value.builtin "object.__getattribute__") = false by rw [noObj]; rfl, if_neg Bool.false_ne_true]
  unfold getAttrByItsOwn
  unfold hookBefore
  refine wpAny_bind ?_
  (rw [if_pos (show onTheHeap (Value.ref D) = true from rfl)])
  refine lkGt.at (wpAny_bind (wpAny_attempt (wpAny_holding ?_)))
  unfold callGetattribute
  rw [show (false && onTheHeap (Value.builtin "BaseException.__getattribute__")) = false from rfl, if_neg Bool.false_ne_true]
  unfold boundAndCalled
  (rw [PySem.F.excAttr_ValueError.ga.bind (.ref x)])
  refine (wpAny_bind (wpAny_pure ?_))
  show wpAny _ _ (call (.builtin "BaseException.__getattribute__") [.ref x, .str "__class__" tok]) _ _ _
  refine (wpAny_call (codeAny_call_builtin PySem.F.excAttr_ValueError.ga.plain PySem.F.entry_bexc_ga ?_))
  refine @PySem.W.check_slot (model prog w) _ _ ⟨heap, gens, drw, tok + 1, osx⟩ "BaseException.__getattribute__" "BaseException" "__getattribute__" (.ref x) [.str "__class__" tok] [] _ (by decide +kernel) (by decide +kernel) isE (PySem.F.args_bexc_ga (.ref x) (.str "__class__" tok)) ?_
  (unfold Builtin.«object.__getattribute__»)
  refine wpAny_bind (wpAny_of_eq (a := ((Value.ref x : Value), [Value.str "__class__" tok])) (by first | rfl | (simp only [slotArgs]; rfl)) ?_)
  refine wpAny_bind (wpAny_pure (wpAny_bind (lkT.at (wpAny_bind (lkF.at ?_)))))
  show (wpAny _ _ (holding [Value.builtin "object.__class__"] (call (.builtin "getset_descriptor.__get__") [.builtin "object.__class__", .ref x, .ref D]) >>= ret) _ _ _)
  refine wpAny_bind (wpAny_holding (wpAny_call (PySem.W.class_get (s := ⟨heap, gens, drw, tok + 1, osx⟩) (ox := ox) (od := od) inK at_ tMro ?_)))
  refine wpAny_pure ?_
  show (wpAny _ _ (handedOut (.ref D)) _ _ _)
  rw [PySem.W.handedOut_of (v := .ref D) rfl]
  first
    | exact (wpAny_pure (wpAny_pure h))
    | exact wpAny_pure h
    | exact (wpAny_pure (wpAny_bind (wpAny_pure (wpAny_pure h))))
theorem kitx_excD {K : PySem.W.Frag} {x D : Addr} {ox : Obj} {od : Option Obj} (T : ExcC K D) : PySem.W.KitX K (.ref x) (.ref D) (fun h => PySem.W.InstAt h x ox D od) := by
  have some_ : ∃ c' d' cd' sl', K.lookup D = some ⟨c', d', .cls cd', sl'⟩ := by
    obtain ⟨cd, e, _⟩ := PySem.W.any_some T.hd
    unfold PySem.W.clsIn at e
    split at e
    · rename_i c' d' cd' sl' ho
      exact ⟨c', d', cd', sl', ho⟩
    · cases e
  obtain ⟨c', d', cd', sl', atD⟩ := some_
  refine ⟨fun _ _ _ i => i.type, fun _ _ inK _ A' Q' E' s' kp q => ?_, fun h tp dd its n sl inK htp => ?_, fun inK i k => class_ofE T inK i k⟩
  · unfold isType loadHead
    exact wpAny_bind (wpAny_loadPart (kp _ _ (inK _ _ atD)) (wpAny_pure q))
  · cases b : (Value.ref D == Value.ref tp) with
    | false => rfl
    | true =>
      cases Value.ref.inj (beq_iff_eq.mp b)
      have z := (inK _ _ atD).symm.trans htp
      cases z
/-- isinstance(e, c) -/
def rIsP (K : PySem.W.Frag) (a : Addr) (cls : Value) (d : Option Addr) : List V → Hp → VK → Prop := fun xs H Q => ∃ (c : V) (cv : Value) (b : Bool) (D dd : Addr) (fs : List (Str × V)), xs = [.ref a, c] ∧ cls = .ref D ∧ d = some dd ∧ H dd = some (.xd fs) ∧ ExcC K D ∧ (∀ u, RelV c u → u = cv) ∧ PySem.W.kitOne K (.ref D) cv = some b ∧ Q (.bl b) H
theorem call_isP {X : Cx} {p : Addr × Obj} {cls : Value} {d : Option Addr} (hh : HotE X p cls d) : CallR X (.builtin "isinstance") (rIsP X.K p.1 cls d) := by
  intro pns st sg G xs us Qv iv rel hw
  obtain ⟨c, cv, b, D, dd, fs, rfl, rfl, rfl, atD, T, only, e, q⟩ := hw
  cases rel with
  | cons rx rr =>
    cases rr with
    | cons rt rr2 =>
      cases rr2
      cases rx
      cases only _ rt
      obtain ⟨zc, zd, zx⟩ := hh.zn
      obtain ⟨_, vs, isF, _⟩ := hh.hot
      obtain ⟨here, _⟩ := iv.pin p (List.mem_append_left _ hh.mem)
      have okD : ObjOk X.prog X.w G st.heap dd (.xd fs) := iv.hok dd _ atD
      obtain ⟨mA, hns, hr⟩ := okD
      obtain ⟨od, ho, hl⟩ := (lookIn_ns hns)
      have J : PySem.W.InstAt st.heap p.1 p.2 D (some od) := ⟨here, zc, by unfold PySem.W.notCls; rw [isF] <;> rfl, by rw [zd]; exact ho⟩
      exact PySem.W.kia_one (kitx_excD T) iv.kIn J e (fun z => nomatch z) fun tk => ⟨.bl b, G, iv.kept (t' := tk) fun _ _ z => z, rfl, q⟩
/-- e.f -/
theorem pe_xfP {X : Cx} {p : Addr × Obj} {C : Addr} {cls : Value} {d : Option Addr} {e : Expr} {te : TE} {pos : Pos} {n : Str} (hh : HotE X p cls d) (T : XfC X.K C) (no : PySem.W.findIn X.K (.ref C) n = some none) (de : PE X e te) (base : attributeBase e n X.env (eval e X.env) = eval e X.env := by rfl) :
    PE X (.Attribute e n pos) (tXf p.1 cls d C n te) := by
  refine ⟨fun pns st sg G Qv iv hw => attr_of base (thn (de.run pns st sg G _ iv hw) fun u st1 told => ?_)⟩
  obtain ⟨x, G1, iv1, rx, rfl, rfl, dd, fs, v, rfl, atD, l, q⟩ := told
  cases (show u = Value.ref p.1 from rx)
  obtain ⟨zc, zd, zx⟩ := hh.zn
  obtain ⟨_, vs, isF, _⟩ := hh.hot
  obtain ⟨here, _⟩ := iv1.pin p (List.mem_append_left _ hh.mem)
  have okD : ObjOk X.prog X.w G1 st1.heap dd (.xd fs) := iv1.hok dd _ atD
  obtain ⟨mA, hns, hr⟩ := okD
  obtain ⟨od, ho, hl⟩ := (lookIn_ns hns)
  obtain ⟨u, hu, ru⟩ := (RelO.some_of (v := v) (o := mA n) (by rw [← l]; exact hr n))
  have J : PySem.W.InstAt st1.heap p.1 p.2 C (some od) := ⟨here, zc, by unfold PySem.W.notCls; rw [isF] <;> rfl, by rw [zd]; exact ho⟩
  exact HandSPX.exc_get iv1.kIn J T.ga T.gg T.exC (PySem.W.findObj_own T.hdC no rfl (by rw [hl, hu])) (handed_of ru) ⟨v, G1, iv1.tok _, ru, q⟩

/-! ### a comprehension over a list there -/
theorem list_end_hot {prog : Program} {w : World} {A : Around} {E : Value → Shared → Prop} {s : Shared} {it l x1 : Addr} {i : Nat} {items : Array Value} {Q : Option Value → Shared → Prop} (hot : HotAt A x1 s.heap) (atI : s.heap.IsListIter it l i) (atL : s.heap.IsList l items) (none_ : items[i]? = none)
    (nx : x1 ≠ it) (q : ∀ h', Heap.ExtBut it s.heap h' → Q none { s with heap := h' }) : wpAny (model prog w) A (pyNext (.ref it)) Q E s := by
  obtain ⟨o, ho, hc, hd⟩ := id atI
  obtain ⟨ol, hol, _, nl, hdl⟩ := atL
  obtain ⟨hh, o1, vs1, g1, d1, c1⟩ := hot
  unfold pyNext
  refine wpAny_bind (wpAny_attempt (wpAny_callSpecial?_slot (name := Str.ofString "__next__") atI.typeIs slot_listiter_next (wpAny_call_entry slot_listiter_next atI.typeIs entry_listiter_next ?_ (args_listiter_next _))))
  refine wpAny_bind (m := field (.ref it) 0) (wpAny_field ho hd (x := .ref l) rfl ?_)
  show (wpAny _ _ (if (Value.ref l == Value.none) = true then _ else _) _ _ s)
  rw [if_neg (fun z : (Value.ref l == Value.none) = true => Bool.false_ne_true z)]
  refine wpAny_bind (m := field (.ref it) 1) (wpAny_field ho hd (x := .int i 0) rfl ?_)
  refine wpAny_bind (m := seqItems? (.ref l)) (wpAny_seqItems hol hdl ?_)
  simp only [Int.toNat_natCast, none_]
  refine (wpAny_bind (wpAny_rule (wpAny_bind (wpAny_setField ho hd (by simp) ?_))))
  refine wpAny_bind (m := newExc (.type "StopIteration") []) ?_
  simp only [newExc, newTuple]
  refine wpAny_bind (wpAny_newObj_type (wpAny_bind (m := firstArgMember _ _) (wpAny_of_eq (a := Value.none) (by first | rfl | (simp only [firstArgMember]; rfl)) ?_)) (by size_fits))
  refine (wpAny_newObj_type ?_ (by size_fits))
  have g2 := (Heap.get?_update_other s.heap (Obj.mapFields (·.setIfInBounds 0 .none)) (Ne.symm nx)).trans g1
  refine raiseNew_hot ⟨hh, o1, vs1, Heap.get?_push_of_some _ (Heap.get?_push_of_some _ g2), d1, c1⟩ (Nat.ne_of_lt (Heap.lt_size (Heap.get?_push_of_some _ g2))) (Heap.get?_push_size _ rfl) rfl (by first | (simp; done) | (simp; omega)) ?_
  refine wpAny_bind (wpAny_isInstance (T := "StopIteration") (b := true) ⟨_, Heap.get?_update_self _ (Heap.get?_push_size _ rfl) rfl, rfl⟩ isSubtype_stop (wpAny_pure (q _ fun b o nb e => ?_)))
  have e2 := (Heap.get?_update_other s.heap (Obj.mapFields (·.setIfInBounds 0 .none)) (Ne.symm nb)).trans e
  rw [Heap.get?_update_other _ _ (Nat.ne_of_gt (Heap.lt_size (Heap.get?_push_of_some _ e2)))]
  exact Heap.get?_push_of_some _ (Heap.get?_push_of_some _ e2)
theorem turn_listH {P : Program} {w : World} {K : PySem.W.Frag} {tg : Expr} (a r : Addr) : TurnH P w K tg (Itl K a) [r] r (fun i h => h.IsListIter r a i) where
  mem := List.mem_singleton_self r
  obj := fun i h st b inB => by
    cases List.mem_singleton.mp inB
    obtain ⟨o, e, _, d⟩ := st
    exact (⟨o, e, fun v z => by rw [d] at z; cases z⟩)
  keep := fun i h h2 st kp => st.at fun o e => kp r (List.mem_singleton_self r) o e
  item := by
    intro X eP eW eK hot i pns st sg G E iv fo at_ goes
    subst eP eW eK
    obtain ⟨xs, x, isL, hx⟩ := goes
    obtain ⟨its, rel, pl, _⟩ := iv.list isL
    obtain ⟨u, hu, ru⟩ := rel.get hx
    obtain ⟨k0, k1, k2, k3, k4, k5⟩ := fo r (List.mem_singleton_self r)
    refine wpAny_pyNext_list_item at_ pl.isList (x := u) (by simpa using hu) fun h2 at2 same => ?_
    have iv1 : Inv X pns sg G { st with heap := h2 } := iv.turned (t' := st.toks) (fun b o nb e => (same.2 b nb).trans e) k0 k1 k3 k4 k5
    obtain ⟨o, e, c, d⟩ := id at2
    exact ⟨u, rfl, go_of (s := { st with heap := h2 }) e c d (by decide) ⟨x, G, iv1, ru, ⟨rfl, fun ys isY => by rw [iv.list_inj isY isL]; exact hx⟩, at2, fun b inB => (fo b inB).1⟩⟩
  done := by
    intro X eP eW eK hot i pns st sg G E iv fo at_ stops
    subst eP eW eK
    obtain ⟨xs, isL, hx⟩ := stops
    obtain ⟨its, rel, pl, _⟩ := iv.list isL
    obtain ⟨k0, k1, k2, k3, k4, k5⟩ := fo r (List.mem_singleton_self r)
    have len := rel.length
    obtain ⟨p, ⟨hh, v1, e1, c1⟩, inP⟩ := hot
    have hotA : HotAt X.A p.1 st.heap := ⟨hh, p.2, v1, (iv.pin p (List.mem_append_left _ inP)).1, e1, c1⟩
    exact list_end_hot hotA at_ pl.isList (by simp; omega) (k5 p (List.mem_append_left _ inP)) fun h2 kp => ⟨rfl, iv.turned (t' := st.toks) (fun b o nb e => kp b o nb e) k0 k1 k3 k4 k5⟩
  self := fun _ _ _ _ _ at_ q => wpAny_pyIter_listiter at_ q
theorem pi_listH {X : Cx} {tg l : Expr} {tl : TE} (dl : PE X l tl) : PIH X tg l (iList X.K tl) := by
  refine ⟨fun pns st sg G R iv hw => thn (dl.run pns st sg G _ iv hw) fun v st1 told => ?_⟩
  obtain ⟨x, G1, iv1, rel, a, rfl, ⟨xs, isL⟩, q⟩ := told
  cases rel
  obtain ⟨its, _, pl, _⟩ := iv1.list isL
  have iv2 : Inv X pns sg G1 { st1 with heap := st1.heap.push { cls := .type "list_iterator", data := .fields #[.ref a, .int 0 0] } } := iv1.kept (t' := st1.toks) fun b o e => Heap.get?_push_of_some _ e
  refine wpAny_pyIter_list pl.isList ⟨st1.heap.objs.size, [st1.heap.objs.size], _, _, G1, rfl, iv2, turn_listH a _, ⟨_, Heap.get?_push_size _ rfl, rfl, rfl⟩, fun b inB => ?_, q⟩
  cases List.mem_singleton.mp inB
  exact iv1.fpOk (Nat.le_refl _) (iv1.hok.fresh (Nat.le_refl _))
/-- the context of a block in there: the handled error stays pinned -/
abbrev blkH (X : Cx) (q : Addr × Obj) (s : Shared) (H : Hp) (scope : Scope) (cenv : Env) (fp : List Addr) : Cx := (X.blk s H scope cenv fp).tr [q] (fun _ _ => False)
theorem blockH {X : Cx} {pns : List (Addr × Obj)} {q : Addr × Obj} {sg : L2.St} {G : Hp} {st : Shared} {blk : Scope} {ow : List (Str × Nat)} {fpl : List Addr} (hq : q ∈ X.pn) (iv : Inv X pns sg G st) (bok : BlkOk X.N X.env.scope blk ow) (nod : X.N.Nodup) (fo : ∀ b ∈ fpl, FpOk X pns G b ∧ b < st.heap.objs.size) :
    Inv (blkH X q st G blk (compEnvC blk (cellsFrom (st.heap.objs.size + 1) blk.names (cloFrom X.env.cells blk.names [])) st.heap.objs.size X.env) fpl) [] (wipe sg (ow.map (·.2))) G { st with heap := pushCells (st.heap.push { cls := .type "dict", data := .dict #[] }) blk.names } := by
  have J := block_start iv bok nod fo
  obtain ⟨k1, k2, k3, k4, k5⟩ := iv.pin q (List.mem_append_left _ hq)
  refine ⟨J.ok.toTry _ _, J.os, J.bare, J.base, J.loc, J.cell, J.free, J.freeC, fun p inP => ?_, J.hok, J.len⟩
  cases (show p = q from by simpa using (show p ∈ [q] ++ ([] : List (Addr × Obj)) from inP))
  refine ⟨pushCells_keeps _ _ _ _ (Heap.get?_push_of_some _ k1), k2, Nat.ne_of_lt (Heap.lt_size k1), fun inF => ?_, k5⟩
  exact (List.mem_cons.mp (iv.stkSub q.1 inF)).elim k3 k4
theorem lc_coreH {X : Cx} {q : Addr × Obj} {pns : List (Addr × Obj)} {st : Shared} {sg : L2.St} {G : Hp} {Qv : VK} {el tgt itr : Expr} {cs : List Expr} {blk : Scope} {ow : List (Str × Nat)} {pos pos' : Pos} {ti : TI} {gg : TG} {tc : TT} {tl : TE} {us : Option (Value → Sem Unit)} {Qg : Value → Shared → Prop}
    (hot : Hot1 X.A q) (hq : q ∈ X.pn) (nod : X.N.Nodup) (iv : Inv X pns sg G st) (dI : PIH X tgt itr ti) (bok : BlkOk X.N X.env.scope blk ow)
    (dG : ∀ (st : Shared) (G : Hp) (cA : Addr) (cls : List (Str × Addr)) (fpl : List Addr), PG (blkH X q st G blk (compEnvC blk cls cA X.env) fpl) tgt gg) (dT : ∀ (st : Shared) (G : Hp) (cA : Addr) (cls : List (Str × Addr)) (fpl : List Addr), PTs (blkH X q st G blk (compEnvC blk cls cA X.env) fpl) cs tc)
    (dE : ∀ (st : Shared) (G : Hp) (cA : Addr) (cls : List (Str × Addr)) (fpl : List Addr), PE (blkH X q st G blk (compEnvC blk cls cA X.env) fpl) el tl) (fold : ∀ x, foldedSetIterable itr X.env x = pure x)
    (hw : tLc ti gg tc tl (ow.map (·.2)) sg G Qv)
    (back : ∀ L cA s' m H', Inv X pns sg H' s' → Qv (.ref L) H' → s'.heap.Ns cA m → FpOk X pns H' cA → compPost (model X.prog X.w) X.A X.xe us Qg (.ref L) cA (.ok .next) s') :
    wpAny (model X.prog X.w) X.A (comprehension (.ListComp el [⟨tgt, itr, cs, 0⟩] blk pos) blk X.env pos' (newList []) false (eval itr X.env) us) Qg X.xe st := by
  have frees : ∀ y ∈ blk.names, y.2 = .free → ∃ c, X.env.cells.lookup y.1 = some c := fun y hy e => by
    rcases bok.free y hy e with k | k
    · exact iv.ok.has _ (.inl k)
    · exact iv.ok.has _ (.inr k)
  refine wpAny_comprehension_free (use := us) rfl fold (closure_ok frees) bok.kind (fun y hy e => (bok.uniq y hy).trans (by rw [e]))
    (thn (dI.run pns st sg G _ iv hw) fun xv s1 hx => thn hx fun itv st2 h2 => ?_)
  obtain ⟨itr1, fpl, tnn, Jt, G2, e, iv2, Tn, tn2, fo2, qd⟩ := h2
  cases e
  refine (wpAny_newObj_type (newEnv_comp ?_) (by show 0 ≤ sizeLine; decide))
  generalize eL : st2.heap.objs.size = L
  have nL : G2 L = none := iv2.hok.fresh (Nat.le_of_eq eL)
  obtain ⟨Wt, ⟨mz, wz⟩, trn⟩ := qd L nL
  -- the new list
  generalize e3 : ({ st2 with heap := st2.heap.push { cls := .type "list", data := .seq ([] : List Value).toArray } } : Shared) = st3
  have iv3 : Inv X pns sg (upd G2 L (.lst [])) st3 := by
    rw [← e3]
    refine iv2.laid (t' := st2.toks) (fun b o e => Heap.get?_push_of_some _ e) (Nat.le_of_eq eL) ⟨Nat.zero_le _, [], 0, .nil, ?_⟩
    rw [← eL]
    exact (Heap.get?_push_size _ rfl)
  have hh3 : st3.heap = st2.heap.push { cls := .type "list", data := .seq ([] : List Value).toArray } := by rw [← e3]
  have below : ∀ b ∈ fpl, b < st2.heap.objs.size := fun b hb => by
    obtain ⟨o, e, _⟩ := Tn.obj _ _ tn2 b hb
    exact Heap.lt_size e
  have fo3 : ∀ b ∈ fpl, FpOk X pns (upd G2 L (.lst [])) b ∧ b < st3.heap.objs.size := fun b hb => by
    have hlt := below b hb
    refine ⟨⟨?_, (fo2 b hb).2⟩, by rw [hh3, Heap.size_push]; exact Nat.lt_succ_of_lt hlt⟩
    rw [upd_ne (by rw [← eL]; exact Nat.ne_of_lt hlt)]
    exact (fo2 b hb).1
  have tn3 : tnn 0 st3.heap := Tn.keep _ _ _ tn2 fun b _ o e => by rw [hh3]; exact Heap.get?_push_of_some _ e
  have iv4 := blockH (q := q) hq iv3 bok nod fo3
  have hcB : ∀ {ev : Env}, HotC (blkH X q st3 (upd G2 L (.lst [])) blk ev fpl) := fun {_} => ⟨q, hot, List.mem_singleton_self _⟩
  have pg := dG st3 (upd G2 L (.lst [])) st3.heap.objs.size (cellsFrom (st3.heap.objs.size + 1) blk.names (cloFrom X.env.cells blk.names [])) fpl
  have pt := dT st3 (upd G2 L (.lst [])) st3.heap.objs.size (cellsFrom (st3.heap.objs.size + 1) blk.names (cloFrom X.env.cells blk.names [])) fpl
  have pe := dE st3 (upd G2 L (.lst [])) st3.heap.objs.size (cellsFrom (st3.heap.objs.size + 1) blk.names (cloFrom X.env.cells blk.names [])) fpl
  show codeAny _ _ (.compStart (.ListComp el [⟨tgt, itr, cs, 0⟩] blk pos) 0 (.ref itr1) (.ref L) (compEnvC blk (cellsFrom (st3.heap.objs.size + 1) blk.names (cloFrom X.env.cells blk.names [])) st3.heap.objs.size X.env)) (compPost (model X.prog X.w) X.A X.xe us Qg (.ref L) st3.heap.objs.size) { st3 with heap := pushCells (st3.heap.push { cls := .type "dict", data := .dict #[] }) blk.names }
  have nofp : ∀ b ∈ fpl, (upd G2 L (.lst [])) b = none := fun b hb => (fo3 b hb).1.1
  generalize ece : compEnvC blk (cellsFrom (st3.heap.objs.size + 1) blk.names (cloFrom X.env.cells blk.names [])) st3.heap.objs.size X.env = ev at iv4 pg pt pe ⊢
  have evL : ev.locals = st3.heap.objs.size := by subst ece; rfl
  generalize eG3 : upd G2 L (.lst []) = G3 at iv3 iv4 pg pt pe wz nofp fo3 hcB
  generalize e4 : ({ st3 with heap := pushCells (st3.heap.push { cls := .type "dict", data := .dict #[] }) blk.names } : Shared) = st4 at iv4 ⊢
  have tn4 : tnn 0 st4.heap := Tn.keep _ _ _ tn3 fun b _ o e => by rw [← e4]; exact pushCells_keeps _ _ _ _ (Heap.get?_push_of_some _ e)
  have stay : ∀ {σ' : L2.St} {H' : Hp} {s' : Shared}, Inv (blkH X q st3 G3 blk ev fpl) [] σ' H' s' → (∀ b ∈ fpl, H' b = none) → ∀ b ∈ fpl, FpOk (blkH X q st3 G3 blk ev fpl) [] H' b := fun {σ' H' s'} I' hn b hb =>
    ⟨hn b hb, (I'.ok.exf b hb).1, I'.ok.exfs b hb, .inl hb, fun x c e => (I'.ok.exf b hb).2 x c e, fun p hp => by rw [show p = q from by simpa using (show p ∈ [q] ++ ([] : List (Addr × Obj)) from hp)]; exact (fo3 b hb).1.2.2.2.2.2 q (List.mem_append_left _ hq)⟩
  have lp : codeAny (model X.prog X.w) X.A (.compLoop (.ListComp el [⟨tgt, itr, cs, 0⟩] blk pos) 0 (.ref itr1) (.ref L) ev) (compPost (model X.prog X.w) X.A X.xe us Qg (.ref L) st3.heap.objs.size) st4 := by
    refine compLoop_any (fun n s' => ∃ i H', Inv (blkH X q st3 G3 blk ev fpl) [] (wipe sg (ow.map (·.2))) H' s' ∧ tnn i s'.heap ∧ (∀ b ∈ fpl, H' b = none) ∧ Wt i n H') ?_ mz ⟨0, G3, iv4, tn4, nofp, wz⟩
    rintro n st5 ⟨i, G5, iv5, tn5, nn5, wt5⟩
    rcases trn i n G5 wt5 with ⟨stp0, qq⟩ | ⟨goo, Nxt, hNxt, stp⟩
    · have tdn := Tn.done (blkH X q st3 G3 blk ev fpl) rfl rfl rfl hcB i [] st5 _ G5 (fun _ _ => False) iv5 (stay iv5 nn5) tn5 stp0
      refine thnF tdn fun r st6 ⟨hr, iv6⟩ => ?_
      subst hr
      -- back in the def's context
      have iv7 : Inv X pns sg G5 st6 := iv3.call' (ch := fpl) iv6.os iv6.base iv6.hok iv6.bare fun b hb => ⟨(fo3 b hb).1.2.2.2.1, (fo3 b hb).1.2.1, (fo3 b hb).1.2.2.2.2.1, (fo3 b hb).1.2.2.2.2.2⟩
      have nC : G5 st3.heap.objs.size = none := by
        have z : G5 ev.locals = none := iv6.free
        rw [evL] at z
        exact z
      obtain ⟨m, hn, _⟩ := iv6.loc
      have hn : st6.heap.Ns ev.locals m := hn
      rw [evL] at hn
      exact back L st3.heap.objs.size st6 m G5 iv7 qq hn (iv3.fpOk (Nat.le_refl _) nC)
    · have tit := Tn.item (blkH X q st3 G3 blk ev fpl) rfl rfl rfl hcB i [] st5 _ G5 (fun _ _ => False) iv5 (stay iv5 nn5) tn5 goo
      refine thnF tit fun r st6 ⟨u, hr, h6⟩ => ?_
      subst hr
      refine thnF h6 fun _ st7 ⟨x, G7, iv7, r7, y7, tn7, nn7⟩ => ?_
      have iv7p := iv7.pinned (stay iv7 nn7) (Tn.obj _ _ tn7)
      refine thnF (pg.run _ st7 _ G7 x u _ iv7p r7 (stp x G7 y7)) fun _ st8 ⟨σ8, G8, iv8, hw8, q8⟩ => ?_
      refine thnF (pt.run _ st8 σ8 G8 _ iv8 q8) fun b st9 ⟨G9, iv9, q9⟩ => ?_
      -- the turn's end
      have fine : ∀ {s' : Shared} {H' : Hp}, Inv (blkH X q st3 G3 blk ev fpl) ([] ++ pinsAt fpl st7.heap) σ8 H' s' → Nxt H' → ∃ m, m < n ∧ ∃ i H', Inv (blkH X q st3 G3 blk ev fpl) [] (wipe sg (ow.map (·.2))) H' s' ∧ tnn i s'.heap ∧ (∀ b ∈ fpl, H' b = none) ∧ Wt i m H' := fun {s' H'} I' nx => by
        obtain ⟨m', hm, wn⟩ := hNxt H' nx
        have pinq : ∀ b ∈ fpl, ∀ o, st7.heap.get? b = some o → s'.heap.get? b = some o ∧ H' b = none := fun b hb o e =>
          let z := (I'.pin (b, o) (List.mem_append_right _ (List.mem_append_right _ (mem_pinsAt hb e))))
          ⟨z.1, z.2.1⟩
        have hl : (wipe sg (ow.map (·.2))).length = σ8.length := by rw [← hw8, wipe_length]
        refine ⟨m', hm, i + 1, H', (I'.unpinned (pins := [])).weak hl (fun j v e => ?_), Tn.keep _ _ _ tn7 fun b hb o e => (pinq b hb o e).1, fun b hb => ?_, wn⟩
        · rw [← hw8] at e
          exact (wipe_some e).1
        · obtain ⟨o, e, _⟩ := Tn.obj _ _ tn7 b hb
          exact (pinq b hb o e).2
      cases b with
      | false =>
        (simp only [Bool.false_eq_true, if_false] at q9 ⊢)
        exact fine iv9 q9
      | true =>
        simp only [if_true] at q9 ⊢
        refine thnF (pe.run _ st9 σ8 G9 _ iv9 q9) fun z st10 ⟨yv, G10, iv10, r10, acc, hD10, hz10, nx⟩ => ?_
        exact app_ok (X := blkH X q st3 G3 blk ev fpl) iv10 hD10 hz10 r10 fun st11 iv11 => fine iv11 nx
  exact codeAny_compStart_list lp (Tn.self X.A 0 _ _ _ tn4 lp)
theorem ps_setLcH {X : Cx} {q : Addr × Obj} {i : Nat} {y : Str} {py : Pos} {el tgt itr : Expr} {cs : List Expr} {blk : Scope} {ow : List (Str × Nat)} {pos spos : Pos} {ti : TI} {gg : TG} {tc : TT} {tl : TE} (hot : Hot1 X.A q) (hq : q ∈ X.pn) (nod : X.N.Nodup) (iy : X.N[i]? = some y)
    (loc : X.env.scope.names.lookup y = some .local) (hsw : swapsWith (.ListComp el [⟨tgt, itr, cs, 0⟩] blk pos) (some (.Name y py)) spos.line X.env = pure true) (dI : PIH X tgt itr ti) (bok : BlkOk X.N X.env.scope blk ow)
    (dG : ∀ (st : Shared) (G : Hp) (cA : Addr) (cls : List (Str × Addr)) (fpl : List Addr), PG (blkH X q st G blk (compEnvC blk cls cA X.env) fpl) tgt gg) (dT : ∀ (st : Shared) (G : Hp) (cA : Addr) (cls : List (Str × Addr)) (fpl : List Addr), PTs (blkH X q st G blk (compEnvC blk cls cA X.env) fpl) cs tc)
    (dE : ∀ (st : Shared) (G : Hp) (cA : Addr) (cls : List (Str × Addr)) (fpl : List Addr), PE (blkH X q st G blk (compEnvC blk cls cA X.env) fpl) el tl) (fold : ∀ x, foldedSetIterable itr X.env x = pure x := by intro _; rfl) :
    PS X (.Assign [.Name y py] (.ListComp el [⟨tgt, itr, cs, 0⟩] blk pos) spos) (tAsg (tLc ti gg tc tl (ow.map (·.2))) (gName i)) := by
  refine ⟨fun pns st sg G D iv hw => ?_⟩
  (rw [exec_Assign_Name_used _ _ _ _ hsw])
  refine (wpAny_bind (wpAny_standAt (wpAny_bind ?_)))
  show wpAny _ X.A (do let _ ← comprehension (.ListComp el [⟨tgt, itr, cs, 0⟩] blk pos) blk X.env (firstIterPos [⟨tgt, itr, cs, 0⟩] pos) (newList []) false (eval itr X.env) (some (assign (.Name y py) X.env))) _ _ st
  refine wpAny_bind (thn (lc_coreH (Qg := fun _ s' => SP X pns D .next s') hot hq nod iv dI bok dG dT dE fold (Qv := fun x H1 => gName i x sg H1 D.nx) hw fun L cA st1 m G1 iv1 want hn fo => ?_) fun _ st2 told => wpAny_pure (wpAny_pure told))
  show (wpAny _ _ (assign (.Name y py) X.env (.ref L)) _ _ _)
  refine wpAny_assign_Name (store_ok2 (v := V.ref L) iv1 nod iy (.inl loc) rfl (fun st2 iv2 told => ?_) (.inr loc))
  obtain ⟨b, same, isB⟩ := told
  obtain ⟨k0, k1, k2, k3, k4, k5⟩ := fo
  have nb : cA ≠ b := isB.elim (fun z => by rw [z]; exact k1) fun z e => k4 y b z e.symm
  exact ⟨m, hn.sameBut same nb, fun h3 same3 => ⟨_, G1, iv2.turned (t' := st2.toks) (fun b o nb e => (same3.2 b nb).trans e) k0 k1 k3 k4 k5, want⟩⟩
/-! ### what the printed derivations lean on -/
theorem takes0 {X : Cx} : L2N.Takes X (fun _ _ _ _ => False) := fun _ _ ⟨_, _, _, _, _, _, _, _, _, _, _, _, _, _, _, _, w⟩ => w.elim
theorem passE {X : Cx} {E : XK} (tk : L2N.Takes X (fun c d _ H => E c d H)) : Passes (L2N.CX X.prog X.w) X E := L2N.passes_call tk fun _ _ _ _ h => h
theorem hotE_suite {X : Cx} {a : Addr} {oe : Obj} {c : Value} {d : Option Addr} {pn : List (Addr × Obj)} (zn : L2N.Zn c d oe) (hf : ∃ vs, oe.data = .fields vs) : HotE (X.suite a ((a, oe) :: pn)) (a, oe) c d := by
  obtain ⟨vs, e⟩ := hf
  exact ⟨⟨rfl, vs, e, zn.2.2 vs e⟩, List.mem_cons_self, zn⟩
def tTry (K : PySem.W.Frag) (c : Value) (i : Nat) (tb : WX → TS) (ts : Addr → Value → Option Addr → TS) : TS := fun D σ H => tb (wAs K c i ts (fun _ _ _ _ => False) D) D σ H
/-- raise C(..) -/
def tRz (C : Addr) (sp : Sp) (E : XK) (ta : TA) : TS := fun _ σ H => tMkO C sp [] ta σ H fun cls d H' => E cls d H'
/-- a def that calls nothing but by name, a keyword's value behind the others -/
def kwG {α : Type} (n m : Nat) (vs zs : List α) : List α := if vs.length = n ∧ zs.length = m then vs ++ zs else []
theorem kwG_rel {n m : Nat} {vs : List V} {us : List Value} {zs : List V} {ws : List Value} (r : Vals vs us) (r2 : Vals zs ws) : Vals (kwG n m vs zs) (kwG n m us ws) := by
  unfold kwG
  rw [r.length, r2.length]
  split
  · exact r.append r2
  · exact .nil
theorem kbinds_of {K : PySem.W.Frag} {x qual : Str} {params : Arguments} {body : List Stmt} {scope : Scope} {f : Addr} {fd : FuncData} {ps ks : List Str} {n : Nat} (F : FunD K x qual params body scope [] [] f fd) (hp : ps ≠ [])
    (h : ∀ (kV doc pm : Value) (an : Option Addr) (cdv ct : Value) (us ws : List Value), us.length = n → ws.length = ks.length → bindArgs (PySem.W.fnOf x qual params body scope .none kV doc pm an cdv ct) ⟨us, ks.zip ws⟩ = pure (ps.zip (us ++ ws))) :
    KBinds K fd ps ks (kwG n ks.length) (kwG n ks.length) := by
  obtain ⟨oc, od, dV, kV, doc, pm, an, cdv, ct, osl, rfl, lk, hcd, hD, hK⟩ := (F.ex)
  refine ⟨fun s us ws inK len => ?_, fun r r2 => kwG_rel r r2⟩
  (rcases hD with ⟨_, rfl⟩ | ⟨e, _⟩)
  · unfold kwG at len ⊢
    split at len
    · rename_i hh
      rw [if_pos hh]
      exact .of_eq (h kV doc pm an cdv ct us ws hh.1 hh.2)
    · cases ps with
      | nil => exact absurd rfl hp
      | cons a r => cases len
  · exact absurd rfl e
structure OkKw (P : Program) (w : World) (K : PySem.W.Frag) (mg : Str → Option Value) (base : Heap) (k : Nat) (x : Str) (fd : FuncData) (ps ks : List Str) (sp : Sp) : Prop where
  fn : FnOk P w K mg base (L2N.CX P w) k (He.ga K x) fd ps sp
  kb : KBinds K fd ps ks (kwG (ps.length - ks.length) ks.length) (kwG (ps.length - ks.length) ks.length)
  kp : PySem.W.keepIn K (.ref (He.ga K x)) = true
structure OkH (P : Program) (w : World) (K : PySem.W.Frag) (mg : Str → Option Value) (base : Heap) (k : Nat) (x : Str) (fd : FuncData) (ps : List Str) (sp : SpH) : Prop where
  fn : FnP P w K mg base (L2N.CX P w) k (He.ga K x) fd ps sp
  bd : Binds K fd ps []
  kp : PySem.W.keepIn K (.ref (He.ga K x)) = true
/-- __init__ of the class x: what it promises, with its defaults left out -/
structure OkI (P : Program) (w : World) (K : PySem.W.Frag) (mg : Str → Option Value) (base : Heap) (k : Nat) (x : Str) (ps : List Str) (sp : Sp) : Prop where
  ex : ∃ fd, FnOk P w K mg base (L2N.CX P w) k (He.ma K (He.ga K x) "__init__") fd ps sp ∧ Binds K fd ps []
section
variable {X : Cx} {k : Nat} {x m : Str} {ps : List Str} {sp : Sp} {E : XK} {q pos apos pos2 : Pos} {e o : Expr} {es : List Expr} {t : TA} {ta : TE}
theorem pe_mk (G : OkI X.prog X.w X.K X.mg X.base k x ps sp) (M : Mk X.K (He.ga X.K x) (He.ma X.K (He.ga X.K x) "__init__")) (hr : Room (k + 1) X.A) (hg : Gl X x) (hm : X.mg x = some (.ref (He.ga X.K x))) (hx : Passes (L2N.CX X.prog X.w) X E) (ha : PA X (e :: es) t)
    (hd : (x == ("__debug__" : Str)) = false := by decide) (he : starEach (e :: es) X.env = (false, eval e X.env) :: starEach es X.env := by rfl) (hpl : (backTo pos (starEach es X.env)).any (·.1) = false := by rfl) :
    PE X (.Call (.Name x q) (e :: es) [] pos) (tMake (He.ga X.K x) sp [] E t) := by
  obtain ⟨fd, fo, b⟩ := G.ex
  exact pe_make M fo hr hg hm b .nil hx ha hd he hpl
theorem ps_rz (tk : L2N.Takes X (fun c d _ H => E c d H)) (hc : X.calm = true) (T : OexC X.K (He.ga X.K x) ∧ PySem.W.findIn X.K (.ref (He.ga X.K x)) "__init__" = some (some (.ref (He.ma X.K (He.ga X.K x) "__init__"))) ∧ PySem.W.typeIn X.K (.ref (He.ma X.K (He.ga X.K x) "__init__")) = some (.type "function") ∧ X.mg x = some (.ref (He.ga X.K x)))
    (G : OkI X.prog X.w X.K X.mg X.base k x ps sp) (hr : Room (k + 1) X.A) (ha : PA X (e :: es) t) (hg : Gl X x := by rfl)
    (hd : (x == ("__debug__" : Str)) = false := by decide) (he : starEach (e :: es) X.env = (false, eval e X.env) :: starEach es X.env := by rfl) (hpl : (backTo pos (starEach es X.env)).any (·.1) = false := by rfl) :
    PS X (.Raise (some (.Call (.Name x q) (e :: es) [] pos)) none pos2) (tRz (He.ga X.K x) sp E t) := by
  obtain ⟨fd, fo, b⟩ := G.ex
  exact L2N.ps_raise hc tk (pmk_ownN T.1 T.2.1 T.2.2.1 fo hr b hg T.2.2.2 ha hd he hpl)
/-- a method of the class x -/
structure OkM (P : Program) (w : World) (K : PySem.W.Frag) (mg : Str → Option Value) (base : Heap) (k : Nat) (x m : Str) (ps : List Str) (sp : Sp) (dvs : List V) : Prop where
  ex : ∃ fd ds, FnOk P w K mg base (L2N.CX P w) k (He.ma K (He.ga K x) m) fd ps sp ∧ Vals dvs ds ∧ Binds K fd ps ds
theorem pe_omt {dvs : List V} {pl : Sem Bool} (G : OkM X.prog X.w X.K X.mg X.base k x m ps sp dvs) (c : Cls X.K (He.ga X.K x)) (M : Meth X.K (He.ga X.K x) m (He.ma X.K (He.ga X.K x) m)) (hr : Room k X.A) (hx : Passes (L2N.CX X.prog X.w) X E) (he : PE X o ta) (ha : PA X (e :: es) t)
    (hst : starEach (e :: es) X.env = (false, eval e X.env) :: starEach es X.env := by exact rfl) (hpl : (backTo pos (starEach es X.env)).any (·.1) = false := by exact rfl)
    (ht : eval (.Call (.Attribute o m apos) (e :: es) ([]) pos) X.env = (do
      let v0 ← eval o X.env
      standAt apos.atName
      let (fn, fst) ← holding [v0] (getMethod v0 m pl)
      callWith pos fn fst (backTo pos (starEach (e :: es) X.env)) (backToKw pos (keywordEach [] X.env))) := by rfl) :
    PE X (.Call (.Attribute o m apos) (e :: es) [] pos) (tMeth (He.ga X.K x) m sp dvs E ta t) := by
  obtain ⟨fd, ds, fo, vd, b⟩ := G.ex
  exact pe_meth (pl := pl) he c M fo hr b vd hx ha hst hpl ht
/-- a def with defaults left out -/
structure OkD (P : Program) (w : World) (K : PySem.W.Frag) (mg : Str → Option Value) (base : Heap) (k : Nat) (x : Str) (ps : List Str) (sp : Sp) (dvs : List V) : Prop where
  ex : ∃ fd ds, FnOk P w K mg base (L2N.CX P w) k (He.ga K x) fd ps sp ∧ Vals dvs ds ∧ Binds K fd ps ds
  kp : PySem.W.keepIn K (.ref (He.ga K x)) = true
theorem pe_ownD {dvs : List V} (G : OkD X.prog X.w X.K X.mg X.base k x ps sp dvs) (hr : Room k X.A) (hg : Gl X x) (hm : X.mg x = some (.ref (He.ga X.K x))) (hx : Passes (L2N.CX X.prog X.w) X E) (ha : PA X (e :: es) t)
    (hd : (x == ("__debug__" : Str)) = false := by decide) (he : starEach (e :: es) X.env = (false, eval e X.env) :: starEach es X.env := by rfl) (hpl : (backTo pos (starEach es X.env)).any (·.1) = false := by rfl) :
    PE X (.Call (.Name x q) (e :: es) [] pos) (tCall sp dvs E t) := by
  obtain ⟨fd, ds, fo, vd, b⟩ := G.ex
  exact pe_call fo hr hg hm G.kp b vd hx ha hd he hpl
end
theorem pe_constI {X : Cx} {x : Str} {i : Int} {pos : Pos} (hg : Gl X x) (h : ∃ t, X.mg x = some (.int i t)) (hd : (x == ("__debug__" : Str)) = false := by decide) : PE X (.Name x pos) (tC (.int i)) := by
  obtain ⟨t, e⟩ := h
  exact (pe_glob hg e ⟨t, rfl⟩ hd)
theorem un64 {k : Nat} {A : Around} (r : Room k A) : A.units + 64 < cLine := by have := r.un; omega
theorem un64H {k : Nat} {A : Around} (r : RoomH k A) : A.units + 64 < cLine := by have := r.un; omega
/-- the rule for a def of the hot kind -/
theorem okH_of {P : Program} {w : World} {K : PySem.W.Frag} {mg : Str → Option Value} {base : Heap} {k : Nat} {x : Str} {params : Arguments} {body : List Stmt} {scope : Scope} {N ps : List Str} {sp : SpH} {fd : FuncData} (F : FunD K x x params body scope [] [] (He.ga K x) fd) (S : FnScope N ps scope)
    (len : ∀ a c d vs H Q E, sp a c d vs H Q E → vs.length = ps.length) (bd : Binds K fd ps [])
    (hbody : ∀ (cdv : Value) (A : Around) (outer : List Env) (s : Shared) (H : Hp) (vs : List V) (Q : VK) (E : XK) (p : Addr × Obj) (c : Value) (d : Option Addr), HotE (cxH (L2N.CX P w) P w K mg base N x scope (He.ga K x) cdv A outer s H E p) p c d → RoomH k (A.deeper (envOfC x scope s.heap.objs.size (He.ga K x) cdv)) → sp p.1 c d vs H Q E →
      ∃ t, PSs (cxH (L2N.CX P w) P w K mg base N x scope (He.ga K x) cdv A outer s H E p) body t ∧ t { nx := fun _ H' => Q .non H', rt := Q } (L2.start N vs) H) : OkH P w K mg base (k + 1) x fd ps sp := by
  refine ⟨?_, bd, F.kp⟩
  obtain ⟨oc, od, dV, kV, doc, pm, an, cdv, ct, osl, rfl, lk, hcd, _, _⟩ := (F.ex)
  exact fn_ofP lk hcd S len fun A outer s H vs Q E p c d hot zn room hw => hbody cdv A outer s H vs Q E p c d ⟨hot, List.mem_singleton_self p, zn⟩ room hw
theorem ps_tryN {X : Cx} {x n : Str} {c : Value} {i : Nat} {body suite : List Stmt} {b₀ : Stmt} {np pos pos' : Pos} {tb : WX → TS} {ts : Addr → Value → Option Addr → TS} (hs : X.stack = X.env :: X.outer) (hf : X.env.frame = some X.env.locals) (nod : X.N.Nodup) (hi : X.N[i]? = some n) (loc : X.env.kindOf n = some .local)
    (hc : Names X x c) (dB : ∀ (W : WX) (pn : List (Addr × Obj)) (xe : Value → Shared → Prop), L2N.Takes (X.tr pn xe) W → PassesOwn (model X.prog X.w) X.A X.env xe → PSs (X.tr pn xe) body (tb W))
    (dS : ∀ (a : Addr) (oe : Obj) (cls : Value) (d : Option Addr) (pn : List (Addr × Obj)), L2N.Zn cls d oe → (∃ vs, oe.data = .fields vs) → PSs (X.suite a ((a, oe) :: pn)) (b₀ :: suite) (ts a cls d)) :
    PS X (.Try body [.ExceptHandler (some (.Name x np)) (some n) (b₀ :: suite) pos'] [] [] pos) (tTry X.K c i tb ts) := L2N.ps_try_as hs hf nod hi loc hc takes0 dB dS
/-! ### facts of the written part by one Bool -/
def oexB (K : PySem.W.Frag) (C : Addr) : Bool := (match K.lookup C with
  | some ⟨.type "type", _, .cls cdat, sl⟩ => (match cdat.mro, sl.toList with
    | .ref D :: bm, [_, _, _, _, some (.builtin n), _] => decide (D = C) && (decide (n = "ValueError.__new__") && (cdat.hasDict && (!cdat.hasDel && HandSPX.refsVE bm)))
    | _, _ => false)
  | _ => false) && (decide (PySem.W.findIn K (.ref C) "__setattr__" = some (some (.builtin "object.__setattr__"))) && (decide (PySem.W.subIn K (.ref C) (.type "BaseException") = some true) && (decide (PySem.W.typeIn K (.ref C) = some (.type "type")) && PySem.W.keepIn K (.ref C))))
theorem oexB_ok {K : PySem.W.Frag} {C : Addr} (h : oexB K C = true) : OexC K C := by
  obtain ⟨h0, h⟩ := He.ba h
  obtain ⟨h1, h⟩ := He.ba h
  obtain ⟨h2, h⟩ := He.ba h
  obtain ⟨h3, h4⟩ := He.ba h
  refine ⟨?_, of_decide_eq_true h1, of_decide_eq_true h2, of_decide_eq_true h3, h4⟩
  split at h0
  · rename_i dd cd sl ho
    split at h0
    · rename_i D bm k0 k1 k2 k3 n k5 hm hs
      obtain ⟨g1, h0⟩ := He.ba h0
      obtain ⟨g2, h0⟩ := He.ba h0
      obtain ⟨g3, h0⟩ := He.ba h0
      obtain ⟨g4, g5⟩ := He.ba h0
      cases of_decide_eq_true g1
      cases of_decide_eq_true g2
      obtain ⟨nm, bs, mro, ns, qn, hd, sn, sub, ab, col, del⟩ := (cd)
      dsimp only at hm g3 g4
      subst hm
      subst g3
      cases del with
      | true => cases g4
      | false =>
        have e : sl = #[k0, k1, k2, k3, some (.builtin "ValueError.__new__"), k5] := by
          obtain ⟨l⟩ := sl
          simp only at hs
          rw [hs]
        subst e
        exact ⟨nm, qn, ns, bs, bm, sn, sub, ab, col, dd, k0, k1, k2, k3, k5, ho, g5⟩
    · cases h0
  · cases h0
def excB (K : PySem.W.Frag) (C : Addr) : Bool := xfB K C && (decide (PySem.W.findIn K (.ref C) "__class__" = some (some (.builtin "object.__class__"))) && (decide (PySem.W.specialIn K (.builtin "object.__class__") "__get__" = some (some (.builtin "getset_descriptor.__get__"))) &&
  (decide (PySem.W.takesIn K (.builtin "object.__class__") = some true) && decide (PySem.W.mroIn K C (.type "object") = some true))))
theorem excB_ok {K : PySem.W.Frag} {C : Addr} (h : excB K C = true) : XfC K C ∧ ExcC K C := by
  obtain ⟨h0, h⟩ := He.ba h
  obtain ⟨h1, h⟩ := He.ba h
  obtain ⟨h2, h⟩ := He.ba h
  obtain ⟨h3, h4⟩ := He.ba h
  have x := xfB_ok h0
  exact ⟨x, ⟨x.ga, x.gg, x.exC, x.hdC, of_decide_eq_true h1, of_decide_eq_true h2, of_decide_eq_true h3, of_decide_eq_true h4⟩⟩
end Tw
namespace Tw
open PySem
/-! ## Plain numbers: rests and fractions -/
inductive Nu where
  | r (i : Int)
  | f (q : Rat)
/-- the data of a plain number -/
def Nu.d : Nu → PyData
  | .r i => .int i
  | .f q => .tuple [.int q.num, .int (q.den : Int)]
/-- it is one over the ground p (0: fractions) -/
def Nu.ok (p : Int) : Nu → Prop
  | .r i => 0 < p ∧ 0 ≤ i ∧ i < p
  | .f _ => p = 0
/-- its size: at most n bits, top and bottom -/
def Nu.le (n : Nat) : Nu → Prop
  | .r i => i.natAbs < 2 ^ n
  | .f q => q.num.natAbs < 2 ^ n ∧ q.den < 2 ^ n
def Nu.add (p : Int) : Nu → Nu → Nu
  | .r i, .r j => .r ((i + j) % p)
  | .f a, .f b => .f (a + b)
  | x, _ => x
def Nu.mul (p : Int) : Nu → Nu → Nu
  | .r i, .r j => .r (i * j % p)
  | .f a, .f b => .f (a * b)
  | x, _ => x
def ofInt (p k : Int) : Nu := if 0 < p then .r (k % p) else .f (k : Rat)
theorem Nu.le_mono {n m : Nat} (h : n ≤ m) : ∀ {x : Nu}, x.le n → x.le m
  | .r _, k => Nat.lt_of_lt_of_le k (Nat.pow_le_pow_right (by decide) h)
  | .f _, k => ⟨Nat.lt_of_lt_of_le k.1 (Nat.pow_le_pow_right (by decide) h), Nat.lt_of_lt_of_le k.2 (Nat.pow_le_pow_right (by decide) h)⟩
theorem pow2_pos (n : Nat) : 0 < 2 ^ n := Nat.pow_pos (by decide)
theorem lt_pow_mul {a b n m : Nat} (ha : a < 2 ^ n) (hb : b < 2 ^ m) : a * b < 2 ^ (n + m) := by
  rw [Nat.pow_add]
  exact Nat.mul_lt_mul'' ha hb
theorem lt_pow_add {a b n : Nat} (ha : a < 2 ^ n) (hb : b < 2 ^ n) : a + b < 2 ^ (n + 1) := by
  rw [Nat.pow_succ]
  omega
/-- the lowest terms of t / b, for a positive bottom -/
theorem frac_num (t b : Int) (hb : 0 < b) : (Rat.divInt t b).num = t / ((Nat.gcd t.natAbs b.natAbs : Nat) : Int) := by
  rw [Rat.num_divInt, Int.sign_eq_one_of_pos hb, Int.one_mul, Int.gcd, Nat.gcd_comm]
theorem frac_den (t b : Int) (hb : 0 < b) : ((Rat.divInt t b).den : Int) = b / ((Nat.gcd t.natAbs b.natAbs : Nat) : Int) := by
  rw [Rat.den_divInt, if_neg (by omega), Int.gcd, Nat.gcd_comm b.natAbs, Int.natCast_ediv, Int.natAbs_of_nonneg (by omega)]
theorem frac_num_le (t b : Int) (hb : 0 < b) : (Rat.divInt t b).num.natAbs ≤ t.natAbs := by
  rw [frac_num t b hb]
  exact Int.natAbs_ediv_le_natAbs _ _
theorem frac_den_le (t b : Int) (hb : 0 < b) : (Rat.divInt t b).den ≤ b.natAbs := by
  have h := frac_den t b hb
  have e : ((Rat.divInt t b).den : Int) = ((b.natAbs / Nat.gcd t.natAbs b.natAbs : Nat) : Int) := by
    rw [h, Int.natCast_ediv, Int.natAbs_of_nonneg (by omega)]
  rw [Int.ofNat.inj e]
  exact Nat.div_le_self _ _
theorem add_frac (a b : Rat) : a + b = Rat.divInt (a.num * (b.den : Int) + b.num * (a.den : Int)) ((a.den : Int) * (b.den : Int)) := by
  have ha : (a.den : Int) ≠ 0 := by have := a.den_pos; omega
  have hb : (b.den : Int) ≠ 0 := by have := b.den_pos; omega
  rw [← Rat.divInt_add_divInt _ _ ha hb, Rat.num_divInt_den, Rat.num_divInt_den]
theorem mul_frac (a b : Rat) : a * b = Rat.divInt (a.num * b.num) ((a.den : Int) * (b.den : Int)) := by
  rw [← Rat.divInt_mul_divInt, Rat.num_divInt_den, Rat.num_divInt_den]
theorem den_pos' (a : Rat) : 0 < (a.den : Int) := by have := a.den_pos; omega
theorem den_mul_pos (a b : Rat) : 0 < (a.den : Int) * (b.den : Int) := Int.mul_pos (den_pos' a) (den_pos' b)
theorem emod_le {a p : Int} (ha : 0 ≤ a) (hp : 0 < p) : a % p ≤ a := by
  have h := Int.mul_ediv_add_emod a p
  have h2 : 0 ≤ p * (a / p) := Int.mul_nonneg (by omega) (Int.ediv_nonneg ha (by omega))
  omega
theorem Nu.add_le {p : Int} {n m : Nat} : ∀ {x y : Nu}, x.ok p → y.ok p → x.le n → y.le m → (Nu.add p x y).le (n + m + 1)
  | .r i, .r j, hx, hy, kx, ky => by
    have h1 : i.natAbs < 2 ^ (n + m) := Nat.lt_of_lt_of_le kx (Nat.pow_le_pow_right (by decide) (by omega))
    have h2 : j.natAbs < 2 ^ (n + m) := Nat.lt_of_lt_of_le ky (Nat.pow_le_pow_right (by decide) (by omega))
    have h3 := lt_pow_add h1 h2
    obtain ⟨hp, i0, _⟩ := hx
    obtain ⟨_, j0, _⟩ := hy
    show ((i + j) % p).natAbs < _
    have h4 : (i + j) % p ≤ i + j := emod_le (by omega) hp
    have h5 : 0 ≤ (i + j) % p := Int.emod_nonneg _ (by omega)
    omega
  | .f a, .f b, _, _, ⟨k1, k2⟩, ⟨l1, l2⟩ => by
    show (a + b).num.natAbs < _ ∧ (a + b).den < _
    rw [add_frac]
    have h := den_mul_pos a b
    have e1 := frac_num_le (a.num * (b.den : Int) + b.num * (a.den : Int)) _ h
    have e2 := frac_den_le (a.num * (b.den : Int) + b.num * (a.den : Int)) _ h
    have z1 : (a.num * (b.den : Int)).natAbs < 2 ^ (n + m) := by rw [Int.natAbs_mul]; exact lt_pow_mul k1 l2
    have z2 : (b.num * (a.den : Int)).natAbs < 2 ^ (n + m) := by rw [Int.natAbs_mul, Nat.add_comm]; exact lt_pow_mul l1 k2
    have z3 : ((a.den : Int) * (b.den : Int)).natAbs < 2 ^ (n + m) := by rw [Int.natAbs_mul]; exact lt_pow_mul k2 l2
    have z4 := lt_pow_add z1 z2
    have z5 := pow2_pos (n + m)
    have z6 : 2 ^ (n + m + 1) = 2 ^ (n + m) * 2 := Nat.pow_succ ..
    omega
  | .r _, .f _, hx, hy, _, _ => by
    have h1 : 0 < p := hx.1
    have h2 : p = 0 := hy
    omega
  | .f _, .r _, hx, hy, _, _ => by
    have h1 : 0 < p := hy.1
    have h2 : p = 0 := hx
    omega
theorem Nu.mul_le {p : Int} {n m : Nat} : ∀ {x y : Nu}, x.ok p → y.ok p → x.le n → y.le m → (Nu.mul p x y).le (n + m)
  | .r i, .r j, hx, hy, kx, ky => by
    have h3 : (i * j).natAbs < 2 ^ (n + m) := by rw [Int.natAbs_mul]; exact lt_pow_mul kx ky
    obtain ⟨hp, i0, _⟩ := hx
    obtain ⟨_, j0, _⟩ := hy
    show (i * j % p).natAbs < _
    have h4 : i * j % p ≤ i * j := emod_le (Int.mul_nonneg i0 j0) hp
    have h5 : 0 ≤ i * j % p := Int.emod_nonneg _ (by omega)
    omega
  | .f a, .f b, _, _, ⟨k1, k2⟩, ⟨l1, l2⟩ => by
    show (a * b).num.natAbs < _ ∧ (a * b).den < _
    rw [mul_frac]
    have h := den_mul_pos a b
    have e1 := frac_num_le (a.num * b.num) _ h
    have e2 := frac_den_le (a.num * b.num) _ h
    have z1 : (a.num * b.num).natAbs < 2 ^ (n + m) := by rw [Int.natAbs_mul]; exact lt_pow_mul k1 l1
    have z3 : ((a.den : Int) * (b.den : Int)).natAbs < 2 ^ (n + m) := by rw [Int.natAbs_mul]; exact lt_pow_mul k2 l2
    omega
  | .r _, .f _, hx, hy, _, _ => by
    have h1 : 0 < p := hx.1
    have h2 : p = 0 := hy
    omega
  | .f _, .r _, hx, hy, _, _ => by
    have h1 : 0 < p := hy.1
    have h2 : p = 0 := hx
    omega
theorem Nu.add_ok {p : Int} : ∀ {x y : Nu}, x.ok p → y.ok p → (Nu.add p x y).ok p
  | .r i, .r j, hx, _ => ⟨hx.1, Int.emod_nonneg _ (by have := hx.1; omega), Int.emod_lt_of_pos _ hx.1⟩
  | .f _, .f _, hx, _ => hx
  | .r _, .f _, hx, _ => hx
  | .f _, .r _, hx, _ => hx
theorem Nu.mul_ok {p : Int} : ∀ {x y : Nu}, x.ok p → y.ok p → (Nu.mul p x y).ok p
  | .r i, .r j, hx, _ => ⟨hx.1, Int.emod_nonneg _ (by have := hx.1; omega), Int.emod_lt_of_pos _ hx.1⟩
  | .f _, .f _, hx, _ => hx
  | .r _, .f _, hx, _ => hx
  | .f _, .r _, hx, _ => hx
theorem ofInt_ok {p k : Int} (hp : 0 ≤ p) : (ofInt p k).ok p := by
  unfold ofInt
  by_cases h : 0 < p
  · rw [if_pos h]; exact ⟨h, Int.emod_nonneg _ (by omega), Int.emod_lt_of_pos _ h⟩
  · rw [if_neg h]; show p = 0; omega
theorem Nu.ok_r {p : Int} (hp : 0 < p) : ∀ {x : Nu}, x.ok p → ∃ i, x = .r i ∧ 0 ≤ i ∧ i < p
  | .r i, h => ⟨i, rfl, h.2⟩
  | .f _, h => by have : p = 0 := h; omega
theorem Nu.ok_f {p : Int} (hp : p = 0) : ∀ {x : Nu}, x.ok p → ∃ q, x = .f q
  | .r i, h => by have := h.1; omega
  | .f q, _ => ⟨q, rfl⟩
/-! ### gcd, by its loop -/
theorem gcd_step (a b : Nat) (hb : 0 < b) : Nat.gcd b (a % b) = Nat.gcd a b := by
  rw [Nat.gcd_comm, ← Nat.gcd_rec, Nat.gcd_comm]
end Tw
namespace Tw
open PySem PySem.Spec PyProof.Rows L2 Evl RZ
/-! ## Data in the heap -/
mutual
inductive Dx (H : Hp) : V → PyData → Prop
  | non : Dx H .non .none
  | bl (b : Bool) : Dx H (.bl b) (.bool b)
  | int (i : Int) : Dx H (.int i) (.int i)
  | str (x : Str) : Dx H (.str x) (.str x)
  | lst {a : Addr} {xs : List V} {ds : List PyData} : H a = some (.lst xs) → DxA H xs ds → Dx H (.ref a) (.list ds)
  | tup {a : Addr} {xs : List V} {ds : List PyData} : H a = some (.tup xs) → DxA H xs ds → Dx H (.ref a) (.tuple ds)
inductive DxA (H : Hp) : List V → List PyData → Prop
  | nil : DxA H [] []
  | cons {v : V} {vs : List V} {d : PyData} {ds : List PyData} : Dx H v d → DxA H vs ds → DxA H (v :: vs) (d :: ds)
end
mutual
theorem Dx.ex {H H' : Hp} (e : Ex H H') : ∀ (d : PyData) {v : V}, Dx H v d → Dx H' v d
  | .none, _, .non => .non
  | .bool _, _, .bl b => .bl b
  | .int _, _, .int i => .int i
  | .str _, _, .str x => .str x
  | .list ds, _, .lst h r => .lst (e _ _ h) (DxA.ex e ds r)
  | .tuple ds, _, .tup h r => .tup (e _ _ h) (DxA.ex e ds r)
theorem DxA.ex {H H' : Hp} (e : Ex H H') : ∀ (ds : List PyData) {vs : List V}, DxA H vs ds → DxA H' vs ds
  | [], _, .nil => .nil
  | d :: ds, _, .cons h r => .cons (Dx.ex e d h) (DxA.ex e ds r)
end
theorem Dx.mono {H H' : Hp} {d : PyData} {v : V} (h : Dx H v d) (e : Ex H H') : Dx H' v d := h.ex e d
theorem DxA.mono {H H' : Hp} {ds : List PyData} {vs : List V} (h : DxA H vs ds) (e : Ex H H') : DxA H' vs ds := h.ex e ds
theorem DxA.length {H : Hp} : ∀ {vs : List V} {ds : List PyData}, DxA H vs ds → vs.length = ds.length
  | _, _, .nil => rfl
  | _, _, .cons _ r => by rw [List.length_cons, List.length_cons, r.length]
theorem DxA.append {H : Hp} : ∀ {vs ws : List V} {ds es : List PyData}, DxA H vs ds → DxA H ws es → DxA H (vs ++ ws) (ds ++ es)
  | _, _, _, _, .nil, s => s
  | _, _, _, _, .cons h r, s => .cons h (r.append s)
theorem DxA.get {H : Hp} : ∀ {vs : List V} {ds : List PyData} {i : Nat} {v : V}, DxA H vs ds → vs[i]? = some v → ∃ d, ds[i]? = some d ∧ Dx H v d
  | _, _, 0, _, .cons h _, e => by
    have e' := Option.some.inj e
    subst e'
    exact ⟨_, rfl, h⟩
  | _, _, i + 1, _, .cons _ r, e => by
    obtain ⟨d, h1, h2⟩ := DxA.get (i := i) r (by simpa using e)
    exact ⟨d, by simpa using h1, h2⟩
theorem DxA.get' {H : Hp} {vs : List V} {ds : List PyData} {i : Nat} {d : PyData} (h : DxA H vs ds) (e : ds[i]? = some d) : ∃ v, vs[i]? = some v ∧ Dx H v d := by
  have hi : i < vs.length := by
    rw [h.length]
    exact ((List.getElem?_eq_some_iff.mp e).1)
  obtain ⟨d', e', hx⟩ := h.get (i := i) (v := vs[i]) (List.getElem?_eq_getElem hi)
  rw [e] at e'
  cases e'
  exact ⟨vs[i], List.getElem?_eq_getElem hi, hx⟩
theorem DxA.take {H : Hp} (n : Nat) : ∀ {vs : List V} {ds : List PyData}, DxA H vs ds → DxA H (vs.take n) (ds.take n) := by
  induction n with
  | zero => intro vs ds h; exact .nil
  | succ n ih =>
    intro vs ds h
    cases h with
    | nil => exact .nil
    | cons h1 r1 => exact .cons h1 (ih r1)
theorem DxA.drop {H : Hp} (n : Nat) : ∀ {vs : List V} {ds : List PyData}, DxA H vs ds → DxA H (vs.drop n) (ds.drop n) := by
  induction n with
  | zero => intro vs ds h; exact h
  | succ n ih =>
    intro vs ds h
    cases h with
    | nil => exact .nil
    | cons h r => exact ih r
mutual
theorem Dx.dp {K : PySem.W.Frag} {H : Hp} : ∀ (d : PyData) {v : V}, Dx H v d → Dp K H v d
  | .none, _, .non => .non
  | .bool _, _, .bl b => .bl b
  | .int _, _, .int i => .int i
  | .str _, _, .str x => .str x
  | .list ds, _, .lst h r => .lst (SqL.of h) (DxA.dp ds r)
  | .tuple ds, _, .tup h r => .tup (SqT.of h) (DxA.dp ds r)
theorem DxA.dp {K : PySem.W.Frag} {H : Hp} : ∀ (ds : List PyData) {vs : List V}, DxA H vs ds → DpAll K H vs ds
  | [], _, .nil => .nil
  | d :: ds, _, .cons h r => .cons (Dx.dp d h) (DxA.dp ds r)
end
/-- what is solid behind: G, and what is new since H -/
def grow (G H H2 : Hp) : Hp := fun a => match H a with
  | none => H2 a
  | some _ => G a
theorem grow_new {G H H2 : Hp} {a : Addr} {o : HO} (h : H a = none) (h2 : H2 a = some o) : grow G H H2 a = some o := by
  unfold grow; rw [h]; exact h2
theorem grow_old {G H H2 : Hp} {a : Addr} {o : HO} (h : H a = some o) : grow G H H2 a = G a := by
  unfold grow; rw [h]
theorem grow_ex {G H H2 : Hp} (e : Ex G H) : Ex G (grow G H H2) := fun a o h => by rw [grow_old (e a o h)]; exact h
theorem grow_in {G H H2 : Hp} (e : Ex G H2) : Ex (grow G H H2) H2 := fun a o h => by
  cases q : H a with
  | none => unfold grow at h; rw [q] at h; exact h
  | some u => rw [grow_old q] at h; exact e a o h
/-- two steps are one; H1 keeps H's places, H2 what is new in H1 -/
theorem grow_grow {G H H1 H2 : Hp} (e1 : ∀ a o, H a = some o → ∃ u, H1 a = some u) (e2 : ∀ a o, H a = none → H1 a = some o → H2 a = some o) : grow (grow G H H1) H1 H2 = grow G H H2 := by
  funext a
  cases q : H a with
  | some u =>
    obtain ⟨u', q1⟩ := e1 a u q
    rw [grow_old q1, grow_old q, grow_old q]
  | none =>
    cases q1 : H1 a with
    | none => unfold grow; rw [q, q1]
    | some u =>
      rw [grow_old q1, grow_new q q1, grow_new q (e2 a u q q1)]
theorem grow_ex2 {G H H1 H2 : Hp} (e1 : Ex H H1) (e2 : Ex H1 H2) : grow (grow G H H1) H1 H2 = grow G H H2 := grow_grow (fun a o h => ⟨o, e1 a o h⟩) fun a o _ h => e2 a o h
theorem grow_mono {G G' H H2 H3 : Hp} (g : Ex G G') (e : Ex H2 H3) : Ex (grow G H H2) (grow G' H H3) := fun a o h => by
  cases q : H a with
  | none => rw [grow_new q (e a o (by unfold grow at h; rw [q] at h; exact h))]
  | some u => rw [grow_old q] at h ⊢; exact g a o h
/-- data handed back (solid: of what was solid, or new), all that was tracked kept -/
def RetD (d : PyData) (G H : Hp) (Q : VK) : Prop := ∀ v H2, Ex H H2 → Dx (grow G H H2) v d → Q v H2
theorem RetD.go {d : PyData} {G H H1 : Hp} {Q : VK} (q : RetD d G H Q) (e : Ex H H1) : RetD d (grow G H H1) H1 Q := fun v H2 e2 h => q v H2 (e.trans e2) (by rw [← grow_ex2 e e2]; exact h)
theorem RetD.int {i : Int} {G H : Hp} {Q : VK} (q : RetD (.int i) G H Q) : Q (.int i) H := q _ _ (Ex.refl _) (.int _)
theorem RetD.weak {d : PyData} {G G' H : Hp} {Q : VK} (q : RetD d G' H Q) (e : Ex G G') : RetD d G H Q := fun v H2 e2 h => q v H2 e2 (h.mono (grow_mono e (Ex.refl _)))
/-- inversions -/
theorem Dx.int_inv {H : Hp} {v : V} {i : Int} (h : Dx H v (.int i)) : v = .int i := by cases h; rfl
theorem Dx.str_inv {H : Hp} {v : V} {i : Str} (h : Dx H v (.str i)) : v = .str i := by cases h; rfl
theorem Dx.tup_inv {H : Hp} {v : V} {ds : List PyData} (h : Dx H v (.tuple ds)) : ∃ a xs, v = .ref a ∧ H a = some (.tup xs) ∧ DxA H xs ds := by
  cases h with
  | tup h r => exact ⟨_, _, rfl, h, r⟩
theorem Dx.lst_inv {H : Hp} {v : V} {ds : List PyData} (h : Dx H v (.list ds)) : ∃ a xs, v = .ref a ∧ H a = some (.lst xs) ∧ DxA H xs ds := by
  cases h with
  | lst h r => exact ⟨_, _, rfl, h, r⟩
theorem DxA.two_int {H : Hp} {xs : List V} {i j : Int} (h : DxA H xs [.int i, .int j]) : xs = [.int i, .int j] := by
  cases h with
  | cons a r =>
    cases r with
    | cons b r =>
      cases r
      rw [a.int_inv, b.int_inv]
theorem Dx.frac_inv {H : Hp} {v : V} {q : Rat} (h : Dx H v (Nu.f q).d) : ∃ a, v = .ref a ∧ H a = some (.tup [.int q.num, .int (q.den : Int)]) := by
  obtain ⟨a, xs, e, ha, r⟩ := Dx.tup_inv h
  rw [r.two_int] at ha
  exact ⟨a, e, ha⟩
theorem Dx.frac {H : Hp} {a : Addr} {t b : Int} {q : Rat} (h : H a = some (.tup [.int t, .int b])) (ht : t = q.num) (hb : b = (q.den : Int)) : Dx H (.ref a) (Nu.f q).d := by
  subst ht hb
  exact .tup h (.cons (.int _) (.cons (.int _) .nil))
/-! ### what isinstance says of data -/
inductive Ty5 where | list | tuple | int | bool | str
def tyOf : PyData → String
  | .none => "NoneType"
  | .bool _ => "bool"
  | .int _ => "int"
  | .str _ => "str"
  | .list _ => "list"
  | .tuple _ => "tuple"
  | .dict _ => "dict"
def Ty5.name : Ty5 → String
  | .list => "list"
  | .tuple => "tuple"
  | .int => "int"
  | .bool => "bool"
  | .str => "str"
def isB : PyData → Ty5 → Bool
  | .list _, .list => true
  | .tuple _, .tuple => true
  | .int _, .int => true
  | .bool _, .bool => true
  | .bool _, .int => true
  | .str _, .str => true
  | _, _ => false
theorem kit_is {K : PySem.W.Frag} {H : Hp} {v : V} : ∀ {d : PyData} (_ : Dx H v d) (t : Ty5), kitB (tyOf d) t.name = some (isB d t)
  | .none, _, .list => by decide +kernel
  | .none, _, .tuple => by decide +kernel
  | .none, _, .int => by decide +kernel
  | .none, _, .bool => by decide +kernel
  | .none, _, .str => by decide +kernel
  | .bool _, _, .list => by show kitB "bool" "list" = some false; decide +kernel
  | .bool _, _, .tuple => by show kitB "bool" "tuple" = some false; decide +kernel
  | .bool _, _, .int => by show kitB "bool" "int" = some true; decide +kernel
  | .bool _, _, .bool => by show kitB "bool" "bool" = some true; decide +kernel
  | .bool _, _, .str => by show kitB "bool" "str" = some false; decide +kernel
  | .int _, _, .list => by show kitB "int" "list" = some false; decide +kernel
  | .int _, _, .tuple => by show kitB "int" "tuple" = some false; decide +kernel
  | .int _, _, .int => by show kitB "int" "int" = some true; decide +kernel
  | .int _, _, .bool => by show kitB "int" "bool" = some false; decide +kernel
  | .int _, _, .str => by show kitB "int" "str" = some false; decide +kernel
  | .str _, _, .list => by show kitB "str" "list" = some false; decide +kernel
  | .str _, _, .tuple => by show kitB "str" "tuple" = some false; decide +kernel
  | .str _, _, .int => by show kitB "str" "int" = some false; decide +kernel
  | .str _, _, .bool => by show kitB "str" "bool" = some false; decide +kernel
  | .str _, _, .str => by show kitB "str" "str" = some true; decide +kernel
  | .list _, _, .list => by show kitB "list" "list" = some true; decide +kernel
  | .list _, _, .tuple => by show kitB "list" "tuple" = some false; decide +kernel
  | .list _, _, .int => by show kitB "list" "int" = some false; decide +kernel
  | .list _, _, .bool => by show kitB "list" "bool" = some false; decide +kernel
  | .list _, _, .str => by show kitB "list" "str" = some false; decide +kernel
  | .tuple _, _, .list => by show kitB "tuple" "list" = some false; decide +kernel
  | .tuple _, _, .tuple => by show kitB "tuple" "tuple" = some true; decide +kernel
  | .tuple _, _, .int => by show kitB "tuple" "int" = some false; decide +kernel
  | .tuple _, _, .bool => by show kitB "tuple" "bool" = some false; decide +kernel
  | .tuple _, _, .str => by show kitB "tuple" "str" = some false; decide +kernel
theorem Dx.ty {K : PySem.W.Frag} {H : Hp} {v : V} : ∀ {d : PyData}, Dx H v d → TyX K H v (.type (tyOf d))
  | .none, .non => .base .non
  | .bool _, .bl b => .base (.bl b)
  | .int _, .int i => .base (.int i)
  | .str _, .str x => .base (.str x)
  | .list _, .lst h _ => .base (.lst h)
  | .tuple _, .tup h _ => .base (.tup h)
section
variable {K : PySem.W.Frag} {H : Hp} {Q : VK} {v : V} {d : PyData}
theorem c_isiD (t : Ty5) (h : Dx H v d) (q : Q (.bl (isB d t)) H) : uIsi K [v, .ty t.name] H Q := c_isi (.ty _) h.ty (kit_ty (kit_is (K := K) h t)) q
theorem c_isi_list (h : Dx H v d) (q : Q (.bl (isB d .list)) H) : uIsi K [v, .ty "list"] H Q := c_isiD .list h q
theorem c_isi_tuple (h : Dx H v d) (q : Q (.bl (isB d .tuple)) H) : uIsi K [v, .ty "tuple"] H Q := c_isiD .tuple h q
theorem c_isi_int (h : Dx H v d) (q : Q (.bl (isB d .int)) H) : uIsi K [v, .ty "int"] H Q := c_isiD .int h q
theorem c_isi_bool (h : Dx H v d) (q : Q (.bl (isB d .bool)) H) : uIsi K [v, .ty "bool"] H Q := c_isiD .bool h q
theorem c_isi_str (h : Dx H v d) (q : Q (.bl (isB d .str)) H) : uIsi K [v, .ty "str"] H Q := c_isiD .str h q
theorem c_eqD {w : V} {e : PyData} (h : Dx H v d) (h' : Dx H w e) (s : SeqAt.shaped d = true) (s' : SeqAt.shaped e = true) (q : Q (.bl (PyData.eqv d e)) H) : uEq K v w H Q := .inr ⟨d, e, Dx.dp d h, Dx.dp e h', s, s', q⟩
theorem c_neD {w : V} {e : PyData} (h : Dx H v d) (h' : Dx H w e) (s : SeqAt.shaped d = true) (s' : SeqAt.shaped e = true) (q : Q (.bl (!PyData.eqv d e)) H) : uNe K v w H Q := .inr ⟨d, e, Dx.dp d h, Dx.dp e h', s, s', q⟩
end
end Tw
/-! ### the step tactic (local rows: they stand once in the text that is handed in) -/
local macro_rules | `(tactic| walk_at "look") => `(tactic| first
  | assumption
  | with_reducible exact L2.upd_same
  | with_reducible refine Evl.Ex.new (by assumption) _ _ (by walk_at "look")
  | with_reducible refine (L2.upd_ne (by first | assumption | exact Ne.symm (by assumption))).trans (by walk_at "look")
  | with_reducible exact Tw.ex_app (by assumption) (by assumption)
  | with_reducible exact Tw.ex_app (by assumption) (Tw.ex_app (by assumption) (by assumption)))
local macro_rules | `(tactic| walk_at "sql") => `(tactic| first
  | assumption
  | exact L2.SqL.of (by walk_at "look")
  | exact L2.SqT.of (by walk_at "look"))
local macro_rules | `(tactic| walk_at "num") => `(tactic| first | omega | decide)
local macro_rules | `(tactic| walk_at "ati") => `(tactic| first
  | exact rfl
  | assumption
  | exact L2.atI_nat (by first | assumption | exact rfl))
local macro_rules | `(tactic| walk_at "mulok") => `(tactic| first
  | assumption
  | exact Or.inl (Or.inl ⟨by omega, by omega⟩)
  | exact Or.inl (Or.inr ⟨by omega, by omega⟩)
  | exact Or.inl (by assumption)
  | exact Or.inr (by assumption))
local macro_rules | `(tactic| walk_at "divok") => `(tactic| first
  | assumption
  | exact ⟨by omega, by decide⟩)
local macro_rules | `(tactic| walk_at "yes") => `(tactic| first
  | exact rfl
  | exact decide_eq_true (by omega)
  | (rw [decide_eq_true (by omega)]; exact rfl)
  | (rw [decide_eq_false (by omega)]; exact rfl))
local macro_rules | `(tactic| walk_at "no") => `(tactic| first
  | exact rfl
  | exact decide_eq_false (by omega)
  | (rw [decide_eq_true (by omega)]; exact rfl)
  | (rw [decide_eq_false (by omega)]; exact rfl))
local macro_rules | `(tactic| walk_at "tw1") => `(tactic| first
  | ((with_reducible show L2.tVar _ _ _ _); refine Tw.c_var (by exact rfl) ?_)
  | with_reducible refine Tw.c_c ?_
  | with_reducible refine Tw.c_op ?_
  | with_reducible refine Tw.c_un ?_
  | with_reducible refine Tw.c_cb ?_
  | with_reducible refine Tw.c_cons ?_
  | with_reducible refine Tw.c_nil ?_
  | with_reducible refine Tw.c_seq ?_
  | with_reducible refine Tw.c_asg ?_
  | with_reducible refine Tw.c_name ?_
  | with_reducible refine Tw.c_sub ?_
  | with_reducible refine Tw.c_ifS ?_
  | with_reducible refine Tw.c_ret ?_
  | with_reducible refine Tw.c_next ?_
  | with_reducible refine Tw.c_drop ?_
  | with_reducible refine Tw.c_par ?_
  | with_reducible refine Tw.c_par3 ?_
  | with_reducible refine Tw.c_vw ?_
  | with_reducible refine Tw.c_uvw ?_
  | with_reducible refine Tw.c_test ?_
  | with_reducible refine Tw.c_B ?_
  | with_reducible refine Tw.c_bl ?_
  | with_reducible refine Tw.c_not ?_
  | with_reducible refine Tw.c_and ?_
  | with_reducible refine Tw.c_or ?_
  | with_reducible refine Tw.c_andV ?_
  | with_reducible refine Tw.c_orV ?_
  | with_reducible refine Tw.c_notV ?_
  | with_reducible refine Tw.c_if ?_
  | with_reducible refine Tw.c_call ?_
  | with_reducible refine Tw.c_for ?_
  | with_reducible refine Tw.c_yes ?_
  | with_reducible refine Tw.c_lc ?_
  | with_reducible refine Tw.c_iList ?_
  | with_reducible refine Tw.c_iTup ?_
  | with_reducible refine Tw.c_iSeq ?_
  | with_reducible refine Tw.c_make ?_
  | with_reducible refine Tw.c_m0 ?_
  | with_reducible refine Tw.c_m1 ?_
  | with_reducible refine Tw.c_asc ?_
  | with_reducible refine Tw.c_dig ?_
  | with_reducible refine Tw.c_sta ?_
  | with_reducible refine Tw.c_sx ?_
  | with_reducible refine Tw.c_sFld ?_
  | with_reducible refine Tw.c_gcons ?_
  | with_reducible refine Tw.c_gnil ?_
  | ((with_reducible show L2.gTup _ _ _ _ _ _ _); refine Tw.c_tupG (by walk_at "look") rfl ?_)
  | with_reducible refine Tw.c_iR1 ?_
  | with_reducible refine Tw.c_iR2 ?_
  | with_reducible refine Tw.c_sl ?_
  | with_reducible refine Tw.c_part ?_
  | with_reducible refine Tw.c_noPart ?_
  | with_reducible refine Tw.c_i1 ?_
  | with_reducible refine Tw.c_bm ?_
  | with_reducible refine Tw.c_bm0 ?_
  | with_reducible refine Tw.c_addI ?_
  | with_reducible refine Tw.c_subI ?_
  | with_reducible refine Tw.c_negI ?_
  | with_reducible refine Tw.c_eqI ?_
  | with_reducible refine Tw.c_neI ?_
  | with_reducible refine Tw.c_eqS ?_
  | with_reducible refine Tw.c_neS ?_
  | with_reducible refine Tw.c_ltI ?_
  | with_reducible refine Tw.c_leI ?_
  | with_reducible refine Tw.c_gtI ?_
  | with_reducible refine Tw.c_geI ?_
  | with_reducible refine Tw.c_isN ?_
  | with_reducible refine Tw.c_notN ?_
  | with_reducible refine Tw.c_intI ?_
  | with_reducible refine Tw.c_intB ?_
  | with_reducible refine Tw.c_absI ?_
  | ((with_reducible show Tw.uMod _ _ _ _); refine Tw.c_modI (by walk_at "num") ?_)
  | ((with_reducible show Tw.uMul _ _ _ _ _); refine Tw.c_mulI (by walk_at "mulok") ?_)
  | ((with_reducible show Tw.uFdiv _ _ _ _); refine Tw.c_fdivI (by walk_at "divok") ?_)
  | ((with_reducible show Tw.uLen _ _ _ _); refine Tw.c_lenL (by walk_at "sql") ?_)
  | ((with_reducible show Tw.uLen _ _ _ _); refine Tw.c_lenT (by walk_at "sql") ?_)
  | ((with_reducible show Tw.uIx _ _ _ _ _); refine Tw.c_ixL (by walk_at "sql") (by walk_at "ati") ?_)
  | ((with_reducible show Tw.uIx _ _ _ _ _); refine Tw.c_ixT (by walk_at "sql") (by walk_at "ati") ?_)
  | ((with_reducible show L2.rSetL _ _ _ _ _); refine Tw.c_setL (by walk_at "look") (by exact rfl) ?_)
  | (with_reducible refine Tw.c_tup ?_)
  | (with_reducible refine Tw.c_lst ?_)
  | ((with_reducible show Tw.uIsi _ _ _ _); first
      | refine Tw.c_isi_list (by assumption) ?_ | refine Tw.c_isi_tuple (by assumption) ?_ | refine Tw.c_isi_int (by assumption) ?_ | refine Tw.c_isi_bool (by assumption) ?_ | refine Tw.c_isi_str (by assumption) ?_)
  | ((with_reducible show (if _ = true then _ else _)); first | refine Tw.c_iteT (by walk_at "yes") ?_ | refine Tw.c_iteF (by walk_at "no") ?_))
local macro_rules | `(tactic| walk_at "tw") => `(tactic| repeat (walk_at "tw1"))
namespace Tw
open PySem PySem.Spec PyProof.Rows L2 Evl RZ
/-! ## The law's own reckoning with plain numbers: readings -/
def sp__law_gcd : Sp := fun vs H Q _ => ∃ a b : Int, vs = [.int a, .int b] ∧ Q (.int ((Nat.gcd a.natAbs b.natAbs : Nat) : Int)) H
def t_f_law_gcd (K : PySem.W.Frag) : TS :=
    (tSeq (tPar 0 1 (tCons (tCB (rAbs) (tCons (tVar 0) tNil)) (tCons (tCB (rAbs) (tCons (tVar 1) tNil)) tNil)))
    (tSeq (tWhile (tTest (tOp (uGt K) (tVar 1) (tC (.int 0)))) (tPar 0 1 (tCons (tVar 1) (tCons (tOp uMod (tCB (uInt) (tCons (tVar 0) tNil)) (tVar 1)) tNil))))
    (tRet (tVar 0))))
theorem abs_if (a : Int) : (if a < 0 then -a else a) = ((a.natAbs : Nat) : Int) := by
  split <;> omega
theorem pure_gcd (K : PySem.W.Frag) (vs : List V) (H : Hp) (Q : VK) (E : XK) (h : sp__law_gcd vs H Q E) : t_f_law_gcd K { nx := fun _ H' => Q .non H', rt := Q } (start ["one", "two"] vs) H := by
  obtain ⟨a, b, rfl, q⟩ := h
  unfold t_f_law_gcd
  walk_at "tw"
  refine ⟨fun m σ H' => ∃ x y : Nat, σ = [some (.int (x : Int)), some (.int (y : Int))] ∧ H' = H ∧ Nat.gcd x y = Nat.gcd a.natAbs b.natAbs ∧ y = m,
    ⟨b.natAbs, a.natAbs, b.natAbs, by rw [abs_if, abs_if]; rfl, rfl, rfl, rfl⟩, ?_⟩
  rintro m σ H' ⟨x, y, rfl, rfl, hg, rfl⟩
  walk_at "tw"
  refine c_ite (fun hy => ?_) (fun hy => ?_)
  · have y0 : 0 < y := by have := of_decide_eq_true hy; omega
    refine ⟨_, fun _ _ z => z, ?_⟩
    walk_at "tw"
    refine ⟨x % y, Nat.mod_lt _ y0, y, x % y, ?_, rfl, ?_, rfl⟩
    · rw [← Int.natCast_emod]; rfl
    · rw [gcd_step x y y0]; exact hg
  · have y0 : y = 0 := by have := of_decide_eq_false hy; omega
    walk_at "tw"
    rw [y0, Nat.gcd_zero_right] at hg
    rw [hg]
    exact q
/-- the fraction top / bottom in lowest terms, the bottom positive -/
def sp__law_num : Sp := fun vs H Q _ => ∃ (G : Hp) (t b : Int), vs = [.int 0, .int t, .int b] ∧ 0 < b ∧ b.natAbs < 2 ^ 8000 ∧ RetD (Nu.f (Rat.divInt t b)).d G H Q
def t_f_law_num (K : PySem.W.Frag) : TS :=
    (tSeq (tIfS (tTest (tOp (uGt K) (tVar 0) (tC (.int 0)))) (tSeq (tPar3 3 4 5 (tCons (tC (.int 1)) (tCons (tOp uSub (tVar 0) (tC (.int 2))) (tCons (tOp uMod (tCB (uInt) (tCons (tVar 2) tNil)) (tVar 0)) tNil))))
    (tSeq (tWhile (tTest (tOp (uGt K) (tVar 4) (tC (.int 0)))) (tSeq (tAsg (tIf (tTest (tOp (uEq K) (tOp uMod (tCB (uInt) (tCons (tVar 4) tNil)) (tC (.int 2))) (tC (.int 1)))) (tOp uMod (tCB (uInt) (tCons (tOp (uMul K) (tVar 3) (tVar 5)) tNil)) (tVar 0)) (tVar 3)) (gName 3))
    (tSeq (tAsg (tOp uMod (tCB (uInt) (tCons (tOp (uMul K) (tVar 5) (tVar 5)) tNil)) (tVar 0)) (gName 5))
    (tAsg (tOp uFdiv (tVar 4) (tC (.int 2))) (gName 4)))))
    (tRet (tOp uMod (tCB (uInt) (tCons (tOp (uMul K) (tVar 1) (tVar 3)) tNil)) (tVar 0))))) tNext)
    (tSeq (tAsg (tOp (uMul K) (tCall sp__law_gcd [] E0 (tCons (tVar 1) (tCons (tVar 2) tNil))) (tIf (tTest (tOp (uGt K) (tVar 2) (tC (.int 0)))) (tC (.int 1)) (tUn uNeg (tC (.int 1))))) (gName 6))
    (tRet (tTup (tCons (tOp uFdiv (tVar 1) (tVar 6)) (tCons (tOp uFdiv (tVar 2) (tVar 6)) tNil))))))
theorem gcd_bits (t b : Int) (hb : 0 < b) (h : b.natAbs < 2 ^ 8000) : CDivW t ((Nat.gcd t.natAbs b.natAbs : Nat) : Int) := by
  have h1 : 0 < Nat.gcd t.natAbs b.natAbs := Nat.gcd_pos_of_pos_right _ (by omega)
  have h2 : Nat.gcd t.natAbs b.natAbs ≤ b.natAbs := Nat.gcd_le_right _ (by omega)
  exact wide_div (b := 8000) (by omega) (by rw [Int.natAbs_natCast]; omega) (by decide) (by decide)
theorem pure_num (K : PySem.W.Frag) (vs : List V) (H : Hp) (Q : VK) (E : XK) (h : sp__law_num vs H Q E) : t_f_law_num K { nx := fun _ H' => Q .non H', rt := Q } (start ["p", "top", "bottom", "told", "left", "power", "part"] vs) H := by
  obtain ⟨G, t, b, rfl, hb, hz, q⟩ := h
  have d1 := gcd_bits t b hb hz
  have d2 : CDivW b ((Nat.gcd t.natAbs b.natAbs : Nat) : Int) := d1
  unfold t_f_law_num
  walk_at "tw"
  refine ⟨t, b, rfl, ?_⟩
  walk_at "tw"
  refine c_fdivI (by rw [Int.mul_one]; exact d1) ?_
  walk_at "tw"
  refine c_fdivI (by rw [Int.mul_one]; exact d2) ?_
  walk_at "tw"
  refine ⟨by show 2 ≤ sizeLine; decide, fun a ha => q _ _ (Ex.new ha) (Dx.frac (grow_new ha upd_same) ?_ ?_)⟩
  · rw [Int.mul_one, frac_num t b hb]
  · rw [Int.mul_one, frac_den t b hb]
def sp__law_int : Sp := fun vs H Q _ => ∃ (G : Hp) (p k : Int), vs = [.int p, .int k] ∧ 0 ≤ p ∧ RetD (ofInt p k).d G H Q
def t_f_law_int (K : PySem.W.Frag) : TS :=
    (tRet (tIf (tTest (tOp (uGt K) (tVar 0) (tC (.int 0)))) (tOp uMod (tCB (uInt) (tCons (tVar 1) tNil)) (tVar 0)) (tTup (tCons (tVar 1) (tCons (tC (.int 1)) tNil)))))
theorem pure_int (K : PySem.W.Frag) (vs : List V) (H : Hp) (Q : VK) (E : XK) (h : sp__law_int vs H Q E) : t_f_law_int K { nx := fun _ H' => Q .non H', rt := Q } (start ["p", "k"] vs) H := by
  obtain ⟨G, p, k, rfl, hp, q⟩ := h
  unfold t_f_law_int
  walk_at "tw"
  unfold ofInt at q
  refine c_ite (fun hy => ?_) (fun hy => ?_)
  · have p0 : 0 < p := of_decide_eq_true hy
    rw [if_pos p0] at q
    walk_at "tw"
    exact q _ _ (Ex.refl _) (.int _)
  · have p0 : ¬ 0 < p := of_decide_eq_false hy
    rw [if_neg p0] at q
    walk_at "tw"
    refine ⟨by show 2 ≤ sizeLine; decide, fun a ha => q _ _ (Ex.new ha) (Dx.frac (grow_new ha upd_same) rfl rfl)⟩
def sp__law_add : Sp := fun vs H Q _ => ∃ (G : Hp) (p : Int) (x y : Nu) (v w : V) (n m : Nat), vs = [.int p, v, w] ∧ 0 ≤ p ∧ x.ok p ∧ y.ok p ∧ Dx H v x.d ∧ Dx H w y.d ∧ x.le n ∧ y.le m ∧ n + m ≤ 8000 ∧ RetD (Nu.add p x y).d G H Q
def t_f_law_add (K : PySem.W.Frag) : TS :=
    (tSeq (tIfS (tTest (tOp (uGt K) (tVar 0) (tC (.int 0)))) (tRet (tOp uMod (tCB (uInt) (tCons (tOp (uAdd K) (tVar 1) (tVar 2)) tNil)) (tVar 0))) tNext)
    (tSeq (tIfS (tAnd (tTest (tOp (uEq K) (tOp (uIx K) (tVar 1) (tC (.int 1))) (tC (.int 1)))) (tTest (tOp (uEq K) (tOp (uIx K) (tVar 2) (tC (.int 1))) (tC (.int 1))))) (tRet (tTup (tCons (tOp (uAdd K) (tOp (uIx K) (tVar 1) (tC (.int 0))) (tOp (uIx K) (tVar 2) (tC (.int 0)))) (tCons (tC (.int 1)) tNil)))) tNext)
    (tRet (tCall sp__law_num [] E0 (tCons (tC (.int 0)) (tCons (tOp (uAdd K) (tOp (uMul K) (tOp (uIx K) (tVar 1) (tC (.int 0))) (tOp (uIx K) (tVar 2) (tC (.int 1)))) (tOp (uMul K) (tOp (uIx K) (tVar 2) (tC (.int 0))) (tOp (uIx K) (tVar 1) (tC (.int 1))))) (tCons (tOp (uMul K) (tOp (uIx K) (tVar 1) (tC (.int 1))) (tOp (uIx K) (tVar 2) (tC (.int 1)))) tNil)))))))
theorem mul_wide {i j : Int} {n m : Nat} (hi : i.natAbs < 2 ^ n) (hj : j.natAbs < 2 ^ m) (h : n + m ≤ 900000) : CMul i j ∨ CMulW i j :=
  .inr (wide_mul (a := n + 1) (b := m + 1) (Nat.lt_of_lt_of_le hi (Nat.pow_le_pow_right (by decide) (by omega))) (Nat.lt_of_lt_of_le hj (Nat.pow_le_pow_right (by decide) (by omega))) (by omega) (by omega) (by omega))
theorem pure_add (K : PySem.W.Frag) (vs : List V) (H : Hp) (Q : VK) (E : XK) (h : sp__law_add vs H Q E) : t_f_law_add K { nx := fun _ H' => Q .non H', rt := Q } (start ["p", "one", "two"] vs) H := by
  obtain ⟨G, p, x, y, v, w, n, m, rfl, hp, hx, hy, dx, dy, lx, ly, hz, q⟩ := h
  unfold t_f_law_add
  walk_at "tw"
  refine c_ite (fun hq => ?_) (fun hq => ?_)
  · have p0 : 0 < p := of_decide_eq_true hq
    obtain ⟨i, rfl, _⟩ := Nu.ok_r p0 hx
    obtain ⟨j, rfl, _⟩ := Nu.ok_r p0 hy
    cases Dx.int_inv dx
    cases Dx.int_inv dy
    walk_at "tw"
    exact q _ _ (Ex.refl _) (.int _)
  · have p0 : p = 0 := by have := of_decide_eq_false hq; omega
    obtain ⟨a, rfl⟩ := Nu.ok_f p0 hx
    obtain ⟨b, rfl⟩ := Nu.ok_f p0 hy
    obtain ⟨va, rfl, ha⟩ := dx.frac_inv
    obtain ⟨vb, rfl, hb⟩ := dy.frac_inv
    obtain ⟨l1, l2⟩ := lx
    obtain ⟨k1, k2⟩ := ly
    walk_at "tw"
    have go : sp__law_num [.int 0, .int (a.num * (b.den : Int) + b.num * (a.den : Int)), .int ((a.den : Int) * (b.den : Int))] H Q E := by
      refine ⟨G, _, _, rfl, den_mul_pos a b, ?_, ?_⟩
      · rw [Int.natAbs_mul]
        exact Nat.lt_of_lt_of_le (lt_pow_mul l2 k2) (Nat.pow_le_pow_right (by decide) hz)
      · rw [← add_frac]; exact q
    refine c_ite (fun e1 => ?_) (fun e1 => ?_)
    · walk_at "tw"
      refine c_ite (fun e2 => ?_) (fun e2 => ?_)
      · have d1 : a.den = 1 := by have := of_decide_eq_true e1; omega
        have d2 : b.den = 1 := by have := of_decide_eq_true e2; omega
        walk_at "tw"
        refine ⟨by show 2 ≤ sizeLine; decide, fun c hc => q _ _ (Ex.new hc) (Dx.frac (grow_new hc upd_same) ?_ ?_)⟩
        · rw [add_frac, frac_num _ _ (den_mul_pos a b), d1, d2]; simp
        · rw [add_frac, frac_den _ _ (den_mul_pos a b), d1, d2]; simp
      · walk_at "tw"
        refine c_mulI (mul_wide l1 k2 (by omega)) ?_
        walk_at "tw"
        refine c_mulI (mul_wide k1 l2 (by omega)) ?_
        walk_at "tw"
        refine c_mulI (mul_wide l2 k2 (by omega)) ?_
        walk_at "tw"
        exact go
    · walk_at "tw"
      refine c_mulI (mul_wide l1 k2 (by omega)) ?_
      walk_at "tw"
      refine c_mulI (mul_wide k1 l2 (by omega)) ?_
      walk_at "tw"
      refine c_mulI (mul_wide l2 k2 (by omega)) ?_
      walk_at "tw"
      exact go
def sp__law_mul : Sp := fun vs H Q _ => ∃ (G : Hp) (p : Int) (x y : Nu) (v w : V) (n m : Nat), vs = [.int p, v, w] ∧ 0 ≤ p ∧ x.ok p ∧ y.ok p ∧ Dx H v x.d ∧ Dx H w y.d ∧ x.le n ∧ y.le m ∧ n + m ≤ 8000 ∧ RetD (Nu.mul p x y).d G H Q
def t_f_law_mul (K : PySem.W.Frag) : TS :=
    (tSeq (tIfS (tTest (tOp (uGt K) (tVar 0) (tC (.int 0)))) (tRet (tOp uMod (tCB (uInt) (tCons (tOp (uMul K) (tVar 1) (tVar 2)) tNil)) (tVar 0))) tNext)
    (tSeq (tIfS (tAnd (tTest (tOp (uEq K) (tOp (uIx K) (tVar 1) (tC (.int 1))) (tC (.int 1)))) (tTest (tOp (uEq K) (tOp (uIx K) (tVar 2) (tC (.int 1))) (tC (.int 1))))) (tRet (tTup (tCons (tOp (uMul K) (tOp (uIx K) (tVar 1) (tC (.int 0))) (tOp (uIx K) (tVar 2) (tC (.int 0)))) (tCons (tC (.int 1)) tNil)))) tNext)
    (tRet (tCall sp__law_num [] E0 (tCons (tC (.int 0)) (tCons (tOp (uMul K) (tOp (uIx K) (tVar 1) (tC (.int 0))) (tOp (uIx K) (tVar 2) (tC (.int 0)))) (tCons (tOp (uMul K) (tOp (uIx K) (tVar 1) (tC (.int 1))) (tOp (uIx K) (tVar 2) (tC (.int 1)))) tNil)))))))
theorem pure_mul (K : PySem.W.Frag) (vs : List V) (H : Hp) (Q : VK) (E : XK) (h : sp__law_mul vs H Q E) : t_f_law_mul K { nx := fun _ H' => Q .non H', rt := Q } (start ["p", "one", "two"] vs) H := by
  obtain ⟨G, p, x, y, v, w, n, m, rfl, hp, hx, hy, dx, dy, lx, ly, hz, q⟩ := h
  unfold t_f_law_mul
  walk_at "tw"
  refine c_ite (fun hq => ?_) (fun hq => ?_)
  · have p0 : 0 < p := of_decide_eq_true hq
    obtain ⟨i, rfl, _⟩ := Nu.ok_r p0 hx
    obtain ⟨j, rfl, _⟩ := Nu.ok_r p0 hy
    cases Dx.int_inv dx
    cases Dx.int_inv dy
    walk_at "tw"
    refine c_mulI (mul_wide lx ly (by omega)) ?_
    walk_at "tw"
    exact q _ _ (Ex.refl _) (.int _)
  · have p0 : p = 0 := by have := of_decide_eq_false hq; omega
    obtain ⟨a, rfl⟩ := Nu.ok_f p0 hx
    obtain ⟨b, rfl⟩ := Nu.ok_f p0 hy
    obtain ⟨va, rfl, ha⟩ := dx.frac_inv
    obtain ⟨vb, rfl, hb⟩ := dy.frac_inv
    obtain ⟨l1, l2⟩ := lx
    obtain ⟨k1, k2⟩ := ly
    walk_at "tw"
    have go : sp__law_num [.int 0, .int (a.num * b.num), .int ((a.den : Int) * (b.den : Int))] H Q E := by
      refine ⟨G, _, _, rfl, den_mul_pos a b, ?_, ?_⟩
      · rw [Int.natAbs_mul]
        exact Nat.lt_of_lt_of_le (lt_pow_mul l2 k2) (Nat.pow_le_pow_right (by decide) hz)
      · rw [← mul_frac]; exact q
    refine c_ite (fun e1 => ?_) (fun e1 => ?_)
    · walk_at "tw"
      refine c_ite (fun e2 => ?_) (fun e2 => ?_)
      · have d1 : a.den = 1 := by have := of_decide_eq_true e1; omega
        have d2 : b.den = 1 := by have := of_decide_eq_true e2; omega
        walk_at "tw"
        refine c_mulI (mul_wide l1 k1 (by omega)) ?_
        walk_at "tw"
        refine ⟨by show 2 ≤ sizeLine; decide, fun c hc => q _ _ (Ex.new hc) (Dx.frac (grow_new hc upd_same) ?_ ?_)⟩
        · rw [mul_frac, frac_num _ _ (den_mul_pos a b), d1, d2]; simp
        · rw [mul_frac, frac_den _ _ (den_mul_pos a b), d1, d2]; simp
      · walk_at "tw"
        refine c_mulI (mul_wide l1 k1 (by omega)) ?_
        walk_at "tw"
        refine c_mulI (mul_wide l2 k2 (by omega)) ?_
        walk_at "tw"
        exact go
    · walk_at "tw"
      refine c_mulI (mul_wide l1 k1 (by omega)) ?_
      walk_at "tw"
      refine c_mulI (mul_wide l2 k2 (by omega)) ?_
      walk_at "tw"
      exact go
end Tw
namespace Tw
open PySem PySem.Spec PyProof.Rows L2 Evl RZ
/-! ## The law's draws -/
/-- all but b's object kept -/
def ExB (b : Addr) (H H' : Hp) : Prop := ∀ a o, a ≠ b → H a = some o → H' a = some o
theorem ExB.refl (b : Addr) (H : Hp) : ExB b H H := fun _ _ _ h => h
theorem ExB.trans {b : Addr} {H H1 H2 : Hp} (x : ExB b H H1) (y : ExB b H1 H2) : ExB b H H2 := fun a o n h => y a o n (x a o n h)
theorem ExB.of {b : Addr} {H H' : Hp} (e : Ex H H') : ExB b H H' := fun a o _ h => e a o h
theorem ExB.free {b : Addr} {H H' : Hp} (x : ExB b H H') {o : HO} (hb : H b = some o) {p : Addr} {u : HO} (hb' : H' b = some u) (h : H' p = none) : H p = none := by
  cases e : H p with
  | none => rfl
  | some v =>
    by_cases hp : p = b
    · rw [hp, hb'] at h; cases h
    · rw [x p v hp e] at h; cases h
/-- the bag: the cells, the place of the next one, what is left of a great one, a mixed number, the draws so far -/
def BagAt (b L : Addr) (H : Hp) : Prop := ∃ (cs : List Int) (i : Nat) (g m c : Int), L ≠ b ∧ H b = some (.lst [.ref L, .int (i : Int), .int g, .int m, .int c]) ∧ H L = some (.lst (cs.map V.int)) ∧ 0 ≤ g ∧ 0 ≤ m ∧ m < 2147483629
theorem BagAt.ex {b L : Addr} {H H' : Hp} (h : BagAt b L H) (e : Ex H H') : BagAt b L H' := by
  obtain ⟨cs, i, g, m, c, n, h1, h2, h3⟩ := h
  exact ⟨cs, i, g, m, c, n, e _ _ h1, e _ _ h2, h3⟩
theorem BagAt.some {b L : Addr} {H : Hp} (h : BagAt b L H) : ∃ o, H b = some o := by
  obtain ⟨cs, i, g, m, c, n, h1, _⟩ := h
  exact ⟨_, h1⟩
def sp__law_draw : Sp := fun vs H Q _ => ∃ (b L : Addr) (size : Int), vs = [.ref b, .int size] ∧ BagAt b L H ∧ 0 < size ∧ size < 4611686018427387904 ∧ ∀ d H', ExB b H H' → BagAt b L H' → 0 ≤ d → d < size → Q (.int d) H'
def t_f_law_draw (K : PySem.W.Frag) : TS :=
    (tSeq (tAsg (tOp (uAdd K) (tOp (uIx K) (tVar 0) (tC (.int 4))) (tC (.int 1))) (gSub (tVar 0) (tC (.int 4)) rSetL))
    (tCut (tIfS (tAnd (tTest (tOp (uEq K) (tOp (uIx K) (tVar 0) (tC (.int 2))) (tC (.int 0)))) (tTest (tOp (uLt K) (tOp (uIx K) (tVar 0) (tC (.int 1))) (tCB (uLen K) (tCons (tOp (uIx K) (tVar 0) (tC (.int 0))) tNil))))) (tSeq (tAsg (tOp (uIx K) (tOp (uIx K) (tVar 0) (tC (.int 0))) (tOp (uIx K) (tVar 0) (tC (.int 1)))) (gName 2))
    (tSeq (tAsg (tOp (uAdd K) (tOp (uIx K) (tVar 0) (tC (.int 1))) (tC (.int 1))) (gSub (tVar 0) (tC (.int 1)) rSetL))
    (tIfS (tTest (tOp (uGe K) (tVar 2) (tOp uPow (tC (.int 10)) (tC (.int 18))))) (tAsg (tCB (uInt) (tCons (tVar 2) tNil)) (gSub (tVar 0) (tC (.int 2)) rSetL)) (tAsg (tOp uMod (tCB (uInt) (tCons (tOp (uAdd K) (tOp (uAdd K) (tOp (uMul K) (tOp (uIx K) (tVar 0) (tC (.int 3))) (tC (.int 39989))) (tOp (uMul K) (tOp uMod (tCB (uInt) (tCons (tVar 2) tNil)) (tC (.int 2147483587))) (tC (.int 52361)))) (tC (.int 211))) tNil)) (tC (.int 2147483629))) (gSub (tVar 0) (tC (.int 3)) rSetL))))) tNext)
    (tSeq (tIfS (tTest (tOp (uGt K) (tOp (uIx K) (tVar 0) (tC (.int 2))) (tC (.int 0)))) (tSeq (tAsg (tOp uMod (tCB (uInt) (tCons (tOp (uIx K) (tVar 0) (tC (.int 2))) tNil)) (tVar 1)) (gName 3))
    (tSeq (tAsg (tOp uFdiv (tOp (uIx K) (tVar 0) (tC (.int 2))) (tVar 1)) (gSub (tVar 0) (tC (.int 2)) rSetL))
    (tRet (tVar 3)))) tNext)
    (tSeq (tAsg (tOp uMod (tCB (uInt) (tCons (tOp (uAdd K) (tOp (uAdd K) (tOp uPow (tOp (uIx K) (tVar 0) (tC (.int 3))) (tC (.int 3))) (tOp (uMul K) (tOp (uIx K) (tVar 0) (tC (.int 4))) (tC (.int 1300021)))) (tC (.int 70003))) tNil)) (tC (.int 2147483629))) (gSub (tVar 0) (tC (.int 3)) rSetL))
    (tRet (tOp uMod (tCB (uInt) (tCons (tOp (uAdd K) (tOp uFdiv (tOp (uIx K) (tVar 0) (tC (.int 3))) (tC (.int 101))) (tOp (uMul K) (tOp uMod (tCB (uInt) (tCons (tOp (uIx K) (tVar 0) (tC (.int 3))) tNil)) (tC (.int 7993))) (tC (.int 61)))) tNil)) (tVar 1)))))))
theorem divW {i j : Int} (h : 0 < j) (h2 : j < 4611686018427387904) : CDivW i j := wide_div (b := 63) h (by omega) (by decide) (by decide)
theorem pure_draw (K : PySem.W.Frag) (vs : List V) (H : Hp) (Q : VK) (E : XK) (h : sp__law_draw vs H Q E) : t_f_law_draw K { nx := fun _ H' => Q .non H', rt := Q } (start ["bag", "size", "cell", "digit"] vs) H := by
  obtain ⟨b, L, size, rfl, ⟨cs, i, g, m, c, hL, h1, h2, g0, m0, m1⟩, s0, s1, q⟩ := h
  have dw := fun x => divW (i := x) s0 s1
  have dw101 : ∀ x : Int, CDivW x 101 := fun x => divW (by decide) (by decide)
  unfold t_f_law_draw
  walk_at "tw"
  refine c_cut (fun σ' H' => ∃ cv : Option V, σ' = [some (.ref b), some (.int size), cv, none] ∧ ExB b H H' ∧ BagAt b L H') ?_ ?_
  · walk_at "tw"
    refine c_ite (fun hg => ?_) (fun hg => ?_)
    · walk_at "tw"
      refine c_ite (fun hi => ?_) (fun hi => ?_)
      · have hi' : i < cs.length := by have := of_decide_eq_true hi; rw [List.length_map] at this; omega
        obtain ⟨z, hz⟩ : ∃ z, (cs.map V.int)[i]? = some (V.int z) := ⟨cs[i], by rw [List.getElem?_map, List.getElem?_eq_getElem hi']; rfl⟩
        walk_at "tw"
        refine c_powI ⟨by decide, by decide, by decide⟩ ?_
        walk_at "tw"
        refine c_ite (fun hc => ?_) (fun hc => ?_)
        · walk_at "tw"
          refine ⟨_, rfl, (fun a o ne e => by walk_at "look"), cs, i + 1, z, m, c + 1, hL, upd_same, by walk_at "look", ?_, m0, m1⟩
          exact Int.le_trans (by decide) (of_decide_eq_true hc)
        · walk_at "tw"
          refine ⟨_, rfl, (fun a o ne e => by walk_at "look"), cs, i + 1, g, _, c + 1, hL, upd_same, by walk_at "look", g0, ?_, ?_⟩
          · exact Int.emod_nonneg _ (by decide)
          · exact Int.emod_lt_of_pos _ (by decide)
      · walk_at "tw"
        exact ⟨_, rfl, (fun a o ne e => by walk_at "look"), cs, i, g, m, c + 1, hL, upd_same, by walk_at "look", g0, m0, m1⟩
    · walk_at "tw"
      exact ⟨_, rfl, (fun a o ne e => by walk_at "look"), cs, i, g, m, c + 1, hL, upd_same, by walk_at "look", g0, m0, m1⟩

  · clear h1 h2 g0 m0 m1 hL
    rintro σ' H' ⟨cv, rfl, x, cs, i, g, m, c, hL, h1, h2, g0, m0, m1⟩
    walk_at "tw"
    refine c_ite (fun hg => ?_) (fun hg => ?_)
    · walk_at "tw"
      refine c_fdivI (dw _) ?_
      walk_at "tw"
      refine q _ _ (x.trans fun a o ne e => by walk_at "look") ⟨cs, i, g / size, m, c, hL, upd_same, by walk_at "look", ?_, m0, m1⟩ (Int.emod_nonneg _ (by omega)) (Int.emod_lt_of_pos _ s0)
      exact Int.ediv_nonneg g0 (by omega)
    · walk_at "tw"
      refine c_powI ⟨by decide, by decide, by omega⟩ ?_
      walk_at "tw"
      refine q _ _ (x.trans fun a o ne e => by walk_at "look") ⟨cs, i, g, _, c, hL, upd_same, by walk_at "look", g0, ?_, ?_⟩ (Int.emod_nonneg _ (by omega)) (Int.emod_lt_of_pos _ s0)
      · exact Int.emod_nonneg _ (by decide)
      · exact Int.emod_lt_of_pos _ (by decide)
end Tw
namespace Tw
open PySem PySem.Spec PyProof.Rows L2 Evl RZ
/-! ## More draws -/
def sp__law_pick : Sp := fun vs H Q _ => ∃ (b L l : Addr) (xs : List V), vs = [.ref b, .ref l] ∧ BagAt b L H ∧ l ≠ b ∧ H l = some (.lst xs) ∧ 0 < xs.length ∧ xs.length < 1000000 ∧ ∀ (j : Nat) v H', xs[j]? = some v → ExB b H H' → BagAt b L H' → Q v H'
def t_f_law_pick (K : PySem.W.Frag) : TS :=
    (tRet (tOp (uIx K) (tVar 1) (tCall sp__law_draw [] E0 (tCons (tVar 0) (tCons (tCB (uLen K) (tCons (tVar 1) tNil)) tNil)))))
theorem pure_pick (K : PySem.W.Frag) (vs : List V) (H : Hp) (Q : VK) (E : XK) (h : sp__law_pick vs H Q E) : t_f_law_pick K { nx := fun _ H' => Q .non H', rt := Q } (start ["bag", "menu"] vs) H := by
  obtain ⟨b, L, l, xs, rfl, hb, hl, hx, n0, n1, q⟩ := h
  unfold t_f_law_pick
  walk_at "tw"
  refine ⟨b, L, _, rfl, hb, by omega, by omega, fun d H' x hb' d0 d1 => ?_⟩
  have hx' := x _ _ hl hx
  obtain ⟨j, rfl⟩ : ∃ j : Nat, d = (j : Int) := ⟨d.toNat, by omega⟩
  have hj : xs[j]? = some xs[j] := List.getElem?_eq_getElem (by omega)
  walk_at "tw"
  exact q j _ _ hj x hb'
def sp__law_small : Sp := fun vs H Q _ => ∃ (b L : Addr) (p : Int), vs = [.ref b, .int p] ∧ BagAt b L H ∧ 0 ≤ p ∧ p ≤ 10007 ∧ ∀ (x : Nu) v H', ExB b H H' → BagAt b L H' → x.ok p → x.le 14 → Dx (grow (fun _ => none) H H') v x.d → Q v H'
def t_f_law_small (K : PySem.W.Frag) : TS :=
    (tSeq (tIfS (tTest (tOp (uGt K) (tVar 1) (tC (.int 0)))) (tRet (tCall sp__law_draw [] E0 (tCons (tVar 0) (tCons (tVar 1) tNil)))) tNext)
    (tSeq (tAsg (tCall sp__law_pick [] E0 (tCons (tVar 0) (tCons (tLst (tCons (tC (.int 1)) (tCons (tC (.int 1)) (tCons (tC (.int 1)) (tCons (tC (.int 2)) (tCons (tC (.int 3)) tNil)))))) tNil))) (gName 2))
    (tRet (tCall sp__law_num [] E0 (tCons (tC (.int 0)) (tCons (tOp uSub (tCall sp__law_draw [] E0 (tCons (tVar 0) (tCons (tC (.int 9)) tNil))) (tC (.int 4))) (tCons (tVar 2) tNil)))))))
theorem pure_small (K : PySem.W.Frag) (vs : List V) (H : Hp) (Q : VK) (E : XK) (h : sp__law_small vs H Q E) : t_f_law_small K { nx := fun _ H' => Q .non H', rt := Q } (start ["bag", "p", "bottom"] vs) H := by
  obtain ⟨b, L, p, rfl, hb, p0, p1, q⟩ := h
  unfold t_f_law_small
  walk_at "tw"
  refine c_ite (fun hp => ?_) (fun hp => ?_)
  · have hp' : 0 < p := of_decide_eq_true hp
    walk_at "tw"
    refine ⟨b, L, p, rfl, hb, hp', by omega, fun d H' x hb' d0 d1 => q (.r d) _ _ x hb' ⟨hp', d0, d1⟩ ?_ (.int _)⟩
    show d.natAbs < 2 ^ 14
    omega
  · have hp' : p = 0 := by have := of_decide_eq_false hp; omega
    walk_at "tw"
    refine ⟨by show 5 ≤ sizeLine; decide, fun l hl => ?_⟩
    obtain ⟨ob, hbo⟩ := hb.some
    have hlb : l ≠ b := fun z => by rw [z, hbo] at hl; cases hl
    have e1 : Ex H (upd H l (.lst [.int 1, .int 1, .int 1, .int 2, .int 3])) := Ex.new hl
    refine ⟨b, L, l, _, rfl, hb.ex e1, hlb, upd_same, by decide, by decide, fun j v H1 hj x1 hb1 => ?_⟩
    obtain ⟨w, rfl, w0, w1⟩ : ∃ w : Int, v = .int w ∧ 0 < w ∧ w ≤ 3 := by
      match j, hj with
      | 0, hj => cases hj; exact ⟨1, rfl, by decide, by decide⟩
      | 1, hj => cases hj; exact ⟨1, rfl, by decide, by decide⟩
      | 2, hj => cases hj; exact ⟨1, rfl, by decide, by decide⟩
      | 3, hj => cases hj; exact ⟨2, rfl, by decide, by decide⟩
      | 4, hj => cases hj; exact ⟨3, rfl, by decide, by decide⟩
      | n + 5, hj => cases hj
    walk_at "tw"
    refine ⟨b, L, 9, rfl, hb1, by decide, by decide, fun d H2 x2 hb2 d0 d1 => ?_⟩
    walk_at "tw"
    have x02 : ExB b H H2 := (ExB.of e1).trans (x1.trans x2)
    have lt3 : w.natAbs < 2 ^ 14 := by have : (2 : Nat) ^ 14 = 16384 := by decide
                                       omega
    refine ⟨fun _ => none, d - 4, w, rfl, w0, Nat.lt_of_lt_of_le lt3 (Nat.pow_le_pow_right (by decide) (by decide)), fun v H3 e3 hv => ?_⟩
    refine q (.f (Rat.divInt (d - 4) w)) v H3 (x02.trans (ExB.of e3)) (hb2.ex e3) hp' ⟨?_, ?_⟩ (hv.mono ?_)
    · have := frac_num_le (d - 4) w w0
      have : (2 : Nat) ^ 14 = 16384 := by decide
      omega
    · have := frac_den_le (d - 4) w w0
      omega
    · intro a o h
      cases q2 : H2 a with
      | some u => rw [grow_old q2] at h; cases h
      | none =>
        obtain ⟨o2, hb2o⟩ := hb2.some
        have h0 : H a = none := x02.free hbo hb2o q2
        unfold grow at h
        rw [q2] at h
        exact grow_new h0 h
/-! ## A list that is built, turn by turn -/
def hp0 : Hp := fun _ => none
/-- behind H (the bag at b may have changed) a list of vs stands at L, new since H; its items are data, new since L was laid -/
structure Bld (b c L : Addr) (H H2 : Hp) (vs : List V) (ds : List PyData) : Prop where
  ex : ExB b H H2
  bag : BagAt b c H2
  bag0 : BagAt b c H
  new : H L = none
  at_ : H2 L = some (.lst vs)
  data : DxA (grow hp0 (upd H L (.lst [])) H2) vs ds
theorem Bld.ne {b c L : Addr} {H H2 : Hp} {vs : List V} {ds : List PyData} (B : Bld b c L H H2 vs ds) : L ≠ b := fun z => by
  obtain ⟨o, h⟩ := B.bag0.some
  rw [← z, B.new] at h
  cases h
theorem Bld.start {b c L : Addr} {H : Hp} (hL : H L = none) (hb : BagAt b c H) : Bld b c L H (upd H L (.lst [])) [] [] :=
  ⟨ExB.of (Ex.new hL), hb.ex (Ex.new hL), hb, hL, upd_same, .nil⟩
theorem Bld.step {b c L : Addr} {H H2 H3 : Hp} {vs : List V} {ds : List PyData} {v : V} {d : PyData} (B : Bld b c L H H2 vs ds) (x : ExB b H2 H3) (hb : BagAt b c H3) (hd : Dx (grow hp0 H2 H3) v d) : Bld b c L H (upd H3 L (.lst (vs ++ [v]))) (vs ++ [v]) (ds ++ [d]) := by
  have ne := B.ne
  have dom : ∀ a, H2 a = none → upd H L (.lst []) a = none := fun a h => by
    by_cases e : a = L
    · rw [e, B.at_] at h; cases h
    · rw [upd_ne e]
      obtain ⟨o, ho⟩ := B.bag0.some
      obtain ⟨o2, ho2⟩ := B.bag.some
      exact B.ex.free ho ho2 h
  have e1 : Ex (grow hp0 (upd H L (.lst [])) H2) (grow hp0 (upd H L (.lst [])) (upd H3 L (.lst (vs ++ [v])))) := fun a o h => by
    cases q : upd H L (.lst []) a with
    | some u => rw [grow_old q] at h; cases h
    | none =>
      unfold grow at h
      rw [q] at h
      have aL : a ≠ L := fun z => by rw [z, upd_same] at q; cases q
      have ab : a ≠ b := fun z => by
        obtain ⟨o2, ho2⟩ := B.bag0.some
        rw [upd_ne aL, z, ho2] at q
        cases q
      refine grow_new q ?_
      rw [upd_ne aL]
      exact x _ _ ab h
  have e2 : Ex (grow hp0 H2 H3) (grow hp0 (upd H L (.lst [])) (upd H3 L (.lst (vs ++ [v])))) := fun a o h => by
    cases q : H2 a with
    | some u => rw [grow_old q] at h; cases h
    | none =>
      unfold grow at h
      rw [q] at h
      have aL : a ≠ L := fun z => by rw [z, B.at_] at q; cases q
      refine grow_new (dom a q) ?_
      rw [upd_ne aL]
      exact h
  refine ⟨fun a o na h => ?_, ?_, B.bag0, B.new, upd_same, (B.data.mono e1).append (.cons (hd.mono e2) .nil)⟩
  · have aL : a ≠ L := fun z => by rw [z, B.new] at h; cases h
    rw [upd_ne aL]
    exact x _ _ na (B.ex _ _ na h)
  · obtain ⟨cs, i, g, m, k, n, h1, h2, h3⟩ := hb
    have n2 : c ≠ L := fun z => by
      obtain ⟨_, _, _, _, _, _, _, k2, _⟩ := B.bag0
      rw [z, B.new] at k2
      cases k2
    exact ⟨cs, i, g, m, k, n, by rw [upd_ne ne.symm]; exact h1, by rw [upd_ne n2]; exact h2, h3⟩
theorem Bld.done {b c L : Addr} {H H2 : Hp} {vs : List V} {ds : List PyData} (B : Bld b c L H H2 vs ds) : Dx (grow hp0 H H2) (.ref L) (.list ds) := by
  refine .lst (grow_new B.new B.at_) (B.data.mono fun a o h => ?_)
  cases q : upd H L (.lst []) a with
  | some u => rw [grow_old q] at h; cases h
  | none =>
    unfold grow at h
    rw [q] at h
    have aL : a ≠ L := fun z => by rw [z, upd_same] at q; cases q
    rw [upd_ne aL] at q
    exact grow_new q h
end Tw
namespace Tw
open PySem PySem.Spec PyProof.Rows L2 Evl RZ
def sp__law_row : Sp := fun vs H Q _ => ∃ (b L : Addr) (p size : Int), vs = [.ref b, .int p, .int size] ∧ BagAt b L H ∧ 0 ≤ p ∧ p ≤ 10007 ∧ 0 ≤ size ∧ size ≤ 10000 ∧ ∀ (xs : List Nu) a H', ExB b H H' → BagAt b L H' → xs.length = size.toNat → (∀ x ∈ xs, x.ok p ∧ x.le 14) → Dx (grow hp0 H H') (.ref a) (.list (xs.map Nu.d)) → Q (.ref a) H'
def t_f_law_row (K : PySem.W.Frag) : TS :=
    (tRet (tLc (iRng1 (tCons (tVar 2) tNil)) (gName 3) tYes (tCall sp__law_small [] E0 (tCons (tVar 0) (tCons (tVar 1) tNil))) [3]))
theorem sz_of_le {n : Nat} (h : n ≤ 100000) : n < sizeLine := Nat.lt_of_le_of_lt h (by decide)
theorem pure_row (K : PySem.W.Frag) (vs : List V) (H : Hp) (Q : VK) (E : XK) (h : sp__law_row vs H Q E) : t_f_law_row K { nx := fun _ H' => Q .non H', rt := Q } (start ["bag", "p", "size", "k"] vs) H := by
  obtain ⟨b, c, p, size, rfl, hb, p0, p1, s0, s1, q⟩ := h
  unfold t_f_law_row
  walk_at "tw"
  · refine ⟨size, rfl, by omega, by omega, fun L hL => lc_range (lo := 0) (n := size.toNat) (fun i H2 => ∃ (xs : List Nu) (ws : List V), xs.length = i ∧ (∀ x ∈ xs, x.ok p ∧ x.le 14) ∧ Bld b c L H H2 ws (xs.map Nu.d)) ?_ ?_ ?_⟩
    · exact ⟨[], [], rfl, fun _ z => (nomatch z), Bld.start hL hb⟩
    · rintro i H2 hi ⟨xs, ws, rfl, hx, B⟩
      walk_at "tw"
      refine ⟨rfl, ?_⟩
      walk_at "tw"
      refine ⟨b, c, p, rfl, B.bag, p0, p1, fun x v H3 x3 hb3 ok le hv => ?_⟩
      have hl := x3 _ _ B.ne B.at_
      have hlen : ws.length = xs.length := by rw [B.data.length, List.length_map]
      refine ⟨ws, hl, sz_of_le (by omega), xs ++ [x], ws ++ [v], by simp, fun y hy => ?_, ?_⟩
      · rcases List.mem_append.mp hy with z | z
        · exact hx y z
        · rw [List.mem_singleton.mp z]; exact ⟨ok, le⟩
      · rw [List.map_append]
        exact B.step x3 hb3 hv
    · rintro H2 ⟨xs, ws, hl, hx, B⟩
      exact q xs L H2 B.ex B.bag hl hx B.done
end Tw
namespace Tw
open PySem PySem.Spec PyProof.Rows L2 Evl RZ
/-! ## The law's own: the bag made, lines, dues, copies, comparisons, spoiling -/
theorem cut_map (ns : List Int) (lo hi : Option Int) : ∃ ms : List Int, cutV (ns.map V.int) lo hi = ms.map V.int := by
  unfold cutV
  exact ⟨_, by rw [← List.map_drop, ← List.map_take]⟩
theorem cut_len (xs : List V) (lo hi : Option Int) : (cutV xs lo hi).length ≤ xs.length := cutV_length xs lo hi
def sp__law_bag (K : PySem.W.Frag) : Sp := fun vs H Q _ => ∃ (a : Addr) (ns : List Int), vs = [.ref a] ∧ SqL K H a (ns.map V.int) ∧ ns.length ≤ 63 ∧ ∀ b L H', Ex H H' → H b = none → H L = none → BagAt b L H' → Q (.ref b) H'
def t_f_law_bag (K : PySem.W.Frag) : TS :=
    (tSeq (tAsg (tC (.int 17798)) (gName 1))
    (tSeq (tFor (iSeq K (tSl (uSl K) (tVar 0) tNoPart (tPart (tC (.int 63))))) (gName 2) (tAsg (tOp uMod (tCB (uInt) (tCons (tOp (uAdd K) (tOp (uAdd K) (tOp (uMul K) (tVar 1) (tC (.int 48271))) (tOp uMod (tCB (uInt) (tCons (tVar 2) tNil)) (tC (.int 2147483587)))) (tC (.int 91))) tNil)) (tC (.int 2147483629))) (gName 1)))
    (tRet (tLst (tCons (tCB (uList K) (tCons (tSl (uSl K) (tVar 0) tNoPart (tPart (tC (.int 63)))) tNil)) (tCons (tC (.int 0)) (tCons (tC (.int 0)) (tCons (tVar 1) (tCons (tC (.int 0)) tNil)))))))))
theorem pure_bag (K : PySem.W.Frag) (vs : List V) (H : Hp) (Q : VK) (E : XK) (h : sp__law_bag K vs H Q E) : t_f_law_bag K { nx := fun _ H' => Q .non H', rt := Q } (start ["script", "mixed", "cell"] vs) H := by
  obtain ⟨a, ns, rfl, hs, hn, q⟩ := h
  unfold t_f_law_bag
  walk_at "tw"
  refine c_slL hs (fun l hl => ?_)
  obtain ⟨ms, hm⟩ := cut_map ns none (some 63)
  have hml : ms.length ≤ 63 := by
    have := cut_len (ns.map V.int) none (some 63)
    rw [hm, List.length_map, List.length_map] at this
    omega
  rw [hm]
  have e1 : Ex H (upd H l (.lst (ms.map V.int))) := Ex.new hl
  refine ⟨l, rfl, .inl ⟨⟨_, SqL.of upd_same⟩, ?_⟩⟩
  refine for_list (K := K) (a := l) (xs := ms.map V.int) (fun i σ H' => ∃ (z : Int) (cv : Option V), σ = [some (.ref a), some (.int z), cv] ∧ 0 ≤ z ∧ z < 2147483629 ∧ H' = upd H l (.lst (ms.map V.int))) ⟨17798, none, rfl, by decide, by decide, rfl⟩ (fun i σ H' _ ⟨_, _, _, _, _, e⟩ => by rw [e]; exact SqL.of upd_same) ?_ ?_
  · rintro i y σ H' hi ⟨z, cv, rfl, z0, z1, rfl⟩
    obtain ⟨u, rfl⟩ : ∃ u, y = V.int u := by
      rw [List.getElem?_map] at hi
      cases e : ms[i]? with
      | none => rw [e] at hi; cases hi
      | some u => rw [e] at hi; exact ⟨u, (Option.some.inj hi).symm⟩
    walk_at "tw"
    exact ⟨_, _, rfl, Int.emod_nonneg _ (by decide), Int.emod_lt_of_pos _ (by decide), rfl⟩
  · rintro σ H' ⟨z, cv, rfl, z0, z1, rfl⟩
    walk_at "tw"
    refine c_slL (Evl.ex_l e1 hs) (fun l2 hl2 => ?_)
    rw [hm]
    walk_at "tw"
    refine c_listL (SqL.of upd_same) (fun l3 hl3 => ?_)
    walk_at "tw"
    refine ⟨by show 5 ≤ sizeLine; decide, fun b hb => ?_⟩
    have n23 : l3 ≠ b := ne_of_none upd_same hb
    have e3 : Ex H (upd (upd (upd H l (.lst (ms.map V.int))) l2 (.lst (ms.map V.int))) l3 (.lst (ms.map V.int))) := e1.trans ((Ex.new hl2).trans (Ex.new hl3))
    refine q b l3 _ (e3.trans (Ex.new hb)) (fresh_back e3 hb) (fresh_back (e1.trans (Ex.new hl2)) hl3) ⟨ms, 0, 0, z, 0, n23, upd_same, by walk_at "look", by decide, z0, z1⟩
/-! ### the line of a ground -/
def lineOf (p : Int) : Str := if 0 < p then ("rests " : Str) ++ (toString p : Str) else "fractions"
def sp__law_line : Sp := fun vs H Q _ => ∃ p : Int, vs = [.int p] ∧ 0 ≤ p ∧ p < 100 ∧ Q (.str (lineOf p)) H
def t_f_law_line (K : PySem.W.Frag) : TS :=
    (tRet (tIf (tTest (tOp (uGt K) (tVar 0) (tC (.int 0)))) (tOp (uAdd K) (tC (.str "rests ")) (tCB (uStr) (tCons (tVar 0) tNil))) (tC (.str "fractions"))))
theorem small_texts : ∀ p : Fin 100, ((toString ((p.val : Nat) : Int) : Str)).length ≤ 100 := by decide +kernel
theorem small_text {p : Int} (h0 : 0 < p) (h1 : p < 100) : ((toString p : Str)).length ≤ 100 := by
  have h := small_texts ⟨p.toNat, by omega⟩
  have e : ((p.toNat : Nat) : Int) = p := by omega
  rw [show (((⟨p.toNat, by omega⟩ : Fin 100).val : Nat) : Int) = p from e] at h
  exact h
theorem pure_line (K : PySem.W.Frag) (vs : List V) (H : Hp) (Q : VK) (E : XK) (h : sp__law_line vs H Q E) : t_f_law_line K { nx := fun _ H' => Q .non H', rt := Q } (start ["p"] vs) H := by
  obtain ⟨p, rfl, p0, p1, q⟩ := h
  unfold t_f_law_line
  walk_at "tw"
  unfold lineOf at q
  refine c_ite (fun hp => ?_) (fun hp => ?_)
  · have hp' : 0 < p := of_decide_eq_true hp
    rw [if_pos hp'] at q
    walk_at "tw"
    refine ⟨p, rfl, ?_, ?_⟩
    · have h2 : p.natAbs.log2 ≤ p.natAbs := Nat.log2_le_self _
      omega
    · refine c_addS ?_ q
      have := small_text hp' p1
      have h6 : ("rests " : Str).length = 6 := by decide +kernel
      rw [h6]
      exact Nat.le_trans (by omega : _ ≤ 106) (by decide)
  · have hp' : ¬ 0 < p := of_decide_eq_false hp
    rw [if_neg hp'] at q
    walk_at "tw"
    exact q
/-- data of at most n storeys, its lists not too long, no dict in it -/
def Dep : Nat → PyData → Prop
  | _, .dict _ => False
  | 0, .list _ => False
  | 0, .tuple _ => False
  | n + 1, .list ds => ds.length ≤ 30000 ∧ ∀ d ∈ ds, Dep n d
  | n + 1, .tuple ds => ds.length ≤ 30000 ∧ ∀ d ∈ ds, Dep n d
  | _, _ => True
/-! ### _law_copied -/
/-- new data handed back -/
def RetN (d : PyData) (H : Hp) (Q : VK) : Prop := ∀ v H2, Ex H H2 → Dx (grow hp0 H H2) v d → Q v H2
theorem RetN.of {d : PyData} {H : Hp} {Q : VK} (q : RetN d H Q) : RetD d hp0 H Q := q
def spC : Nat → Sp
  | 0 => fun _ _ _ _ => False
  | n + 1 => fun vs H Q _ => ∃ (v : V) (d : PyData), vs = [v] ∧ Dx H v d ∧ Dep n d ∧ RetN d H Q
def t_f_law_copied (K : PySem.W.Frag) (sp__law_copied : Sp) : TS :=
    (tSeq (tIfS (tB (tCB (uIsi K) (tCons (tVar 0) (tCons (tC (.ty "list")) tNil)))) (tRet (tLc (iSeq K (tVar 0)) (gName 1) tYes (tCall sp__law_copied [] E0 (tCons (tVar 1) tNil)) [1])) tNext)
    (tSeq (tIfS (tB (tCB (uIsi K) (tCons (tVar 0) (tCons (tC (.ty "tuple")) tNil)))) (tRet (tCB (uTuple K) (tCons (tLc (iSeq K (tVar 0)) (gName 1) tYes (tCall sp__law_copied [] E0 (tCons (tVar 1) tNil)) [1]) tNil))) tNext)
    (tRet (tVar 0))))
/-- a list that is built without a bag: what stands at L, its data of G or new -/
structure BldP (L : Addr) (G H H2 : Hp) (vs : List V) (ds : List PyData) : Prop where
  ex : Ex H H2
  new : H L = none
  at_ : H2 L = some (.lst vs)
  data : DxA (grow G (upd H L (.lst [])) H2) vs ds
theorem BldP.start {L : Addr} {G H : Hp} (hL : H L = none) : BldP L G H (upd H L (.lst [])) [] [] := ⟨Ex.new hL, hL, upd_same, .nil⟩
theorem BldP.step {L : Addr} {G H H2 H3 : Hp} {vs : List V} {ds : List PyData} {v : V} {d : PyData} (B : BldP L G H H2 vs ds) (eG : Ex G H) (x : Ex H2 H3) (hd : Dx (grow (grow G (upd H L (.lst [])) H2) H2 H3) v d) : BldP L G H (upd H3 L (.lst (vs ++ [v]))) (vs ++ [v]) (ds ++ [d]) := by
  have GL : G L = none := fresh_back eG B.new
  have dom : ∀ a o, upd H L (.lst []) a = some o → ∃ u, H2 a = some u := fun a o h => by
    by_cases e : a = L
    · exact ⟨_, e ▸ B.at_⟩
    · rw [upd_ne e] at h; exact ⟨_, B.ex _ _ h⟩
  rw [grow_grow dom fun a o _ h => x a o h] at hd
  have e1 : Ex (grow G (upd H L (.lst [])) H2) (grow G (upd H L (.lst [])) (upd H3 L (.lst (vs ++ [v])))) := fun a o h => by
    cases q : upd H L (.lst []) a with
    | some u => rw [grow_old q] at h ⊢; exact h
    | none =>
      unfold grow at h
      rw [q] at h
      have aL : a ≠ L := fun z => by rw [z, upd_same] at q; cases q
      refine grow_new q ?_
      rw [upd_ne aL]
      exact x _ _ h
  have e2 : Ex (grow G (upd H L (.lst [])) H3) (grow G (upd H L (.lst [])) (upd H3 L (.lst (vs ++ [v])))) := fun a o h => by
    cases q : upd H L (.lst []) a with
    | some u => rw [grow_old q] at h ⊢; exact h
    | none =>
      unfold grow at h
      rw [q] at h
      have aL : a ≠ L := fun z => by rw [z, upd_same] at q; cases q
      refine grow_new q ?_
      rw [upd_ne aL]
      exact h
  refine ⟨(B.ex.trans x).mut B.new, B.new, upd_same, (B.data.mono e1).append (.cons (hd.mono e2) .nil)⟩
theorem BldP.items {L : Addr} {G H H2 : Hp} {vs : List V} {ds : List PyData} (B : BldP L G H H2 vs ds) (eG : Ex G H) : DxA (grow G H H2) vs ds := B.data.mono fun a o h => by
  cases q : upd H L (.lst []) a with
  | some u =>
    rw [grow_old q] at h
    rw [grow_old (eG a o h)]
    exact h
  | none =>
    unfold grow at h
    rw [q] at h
    have aL : a ≠ L := fun z => by rw [z, upd_same] at q; cases q
    rw [upd_ne aL] at q
    exact grow_new q h
theorem BldP.done {L : Addr} {G H H2 : Hp} {vs : List V} {ds : List PyData} (B : BldP L G H H2 vs ds) (eG : Ex G H) : Dx (grow G H H2) (.ref L) (.list ds) := by
  exact .lst (grow_new B.new B.at_) (B.items eG)
theorem BldP.len {L : Addr} {G H H2 : Hp} {vs : List V} {ds : List PyData} (B : BldP L G H H2 vs ds) : vs.length = ds.length := B.data.length
theorem ex0 (H : Hp) : Ex hp0 H := fun _ _ h => by cases h
theorem DxA.mem {H : Hp} {vs : List V} {ds : List PyData} {i : Nat} {v : V} (h : DxA H vs ds) (e : vs[i]? = some v) : ∃ d, ds[i]? = some d ∧ d ∈ ds ∧ Dx H v d := by
  obtain ⟨d, h1, h2⟩ := h.get e
  exact ⟨d, h1, List.mem_of_getElem? h1, h2⟩
theorem take_succ {α : Type} {l : List α} {i : Nat} {x : α} (h : l[i]? = some x) : l.take (i + 1) = l.take i ++ [x] := by
  rw [List.take_add_one, h]; rfl
theorem pure_copied (K : PySem.W.Frag) (n : Nat) (vs : List V) (H : Hp) (Q : VK) (E : XK) (h : spC (n + 1) vs H Q E) : t_f_law_copied K (spC n) { nx := fun _ H' => Q .non H', rt := Q } (start ["thing", "one"] vs) H := by
  obtain ⟨v, d, rfl, hv, hd, q⟩ := h
  unfold t_f_law_copied
  have B0 : ∀ {L : Addr} {xs : List V} {ds : List PyData} {i : Nat} {x : V} {ws : List V} {H2 : Hp} {Q2 : VK}, DxA H xs ds → ds.length ≤ 30000 → (∀ d ∈ ds, ∃ m, n = m + 1 ∧ Dep m d) → xs[i]? = some x → BldP L hp0 H H2 ws (ds.take i) →
      (∀ y H4, (∃ acc, H4 L = some (.lst acc) ∧ acc.length < sizeLine ∧ ∃ ws, BldP L hp0 H (upd H4 L (.lst (acc ++ [y]))) ws (ds.take (i + 1))) → Q2 y H4) → spC n [x] H2 Q2 E0 := by
    intro L xs ds i x ws H2 Q2 hx hz hdp hi B hq
    obtain ⟨d, h1, h2, h3⟩ := hx.mem hi
    obtain ⟨m, rfl, hm⟩ := hdp d h2
    refine ⟨x, d, rfl, h3.mono B.ex, hm, fun y H3 e3 hy => hq y H3 ⟨ws, e3 _ _ B.at_, ?_, ws ++ [y], ?_⟩⟩
    · rw [B.len]
      exact sz_of_le (Nat.le_trans (List.length_take_le' _ _) (by omega))
    · rw [take_succ h1]
      exact B.step (ex0 H) e3 (hy.mono (grow_mono (ex0 _) (Ex.refl _)))
  cases d with
  | dict _ => cases hv
  | none => walk_at "tw"; exact q _ _ (Ex.refl _) (by cases hv; exact .non)
  | bool _ => walk_at "tw"; exact q _ _ (Ex.refl _) (by cases hv; exact .bl _)
  | int _ => walk_at "tw"; exact q _ _ (Ex.refl _) (by cases hv; exact .int _)
  | str _ => walk_at "tw"; exact q _ _ (Ex.refl _) (by cases hv; exact .str _)
  | list ds =>
    have hd2 : ds.length ≤ 30000 ∧ ∀ d ∈ ds, ∃ m, n = m + 1 ∧ Dep m d := by
      cases n with
      | zero => exact False.elim hd
      | succ m => exact ⟨hd.1, fun d hm => ⟨m, rfl, hd.2 d hm⟩⟩
    obtain ⟨a, xs, rfl, ha, hx⟩ := hv.lst_inv
    walk_at "tw"
    refine ⟨a, rfl, .inl ⟨⟨_, SqL.of ha⟩, ?_⟩⟩
    intro L hL
    refine lc_list (K := K) (xs := xs) (fun i H2 => ∃ ws, BldP L hp0 H H2 ws (ds.take i)) ⟨[], BldP.start hL⟩ (fun i H2 _ ⟨_, B⟩ => SqL.of (B.ex _ _ ha)) ?_ ?_
    · rintro i x H2 hi ⟨ws, B⟩
      walk_at "tw"
      refine ⟨rfl, ?_⟩
      walk_at "tw"
      exact B0 hx hd2.1 hd2.2 hi B fun y H4 z => z
    · rintro H2 ⟨ws, B⟩
      rw [hx.length, List.take_length] at B
      walk_at "tw"
      exact q _ _ B.ex (B.done (ex0 H))
  | tuple ds =>
    have hd2 : ds.length ≤ 30000 ∧ ∀ d ∈ ds, ∃ m, n = m + 1 ∧ Dep m d := by
      cases n with
      | zero => exact False.elim hd
      | succ m => exact ⟨hd.1, fun d hm => ⟨m, rfl, hd.2 d hm⟩⟩
    obtain ⟨a, xs, rfl, ha, hx⟩ := hv.tup_inv
    walk_at "tw"
    refine ⟨a, rfl, .inr ⟨⟨_, SqT.of ha⟩, ?_⟩⟩
    intro L hL
    refine lc_tup (K := K) (xs := xs) (fun i H2 => ∃ ws, BldP L hp0 H H2 ws (ds.take i)) ⟨[], BldP.start hL⟩ (fun i H2 _ ⟨_, B⟩ => SqT.of (B.ex _ _ ha)) ?_ ?_
    · rintro i x H2 hi ⟨ws, B⟩
      walk_at "tw"
      refine ⟨rfl, ?_⟩
      walk_at "tw"
      exact B0 hx hd2.1 hd2.2 hi B fun y H4 z => z
    · rintro H2 ⟨ws, B⟩
      rw [hx.length, List.take_length] at B
      walk_at "tw"
      refine c_tupleL (SqL.of B.at_) fun p hp => ?_
      walk_at "tw"
      exact q _ _ (B.ex.trans (Ex.new hp)) (.tup (grow_new (fresh_back B.ex hp) upd_same) ((B.items (ex0 H)).mono (grow_mono (ex0 _) (Ex.new hp))))
end Tw
namespace Tw
open PySem PySem.Spec PyProof.Rows L2 Evl RZ
/-! ### _law_same, of equal data -/
def spS : Nat → Sp
  | 0 => fun _ _ _ _ => False
  | n + 1 => fun vs H Q _ => ∃ (v w : V) (d : PyData), vs = [v, w] ∧ Dx H v d ∧ Dx H w d ∧ Dep n d ∧ ∀ H2, Ex H H2 → Q (.bl true) H2
def t_f_law_same (K : PySem.W.Frag) (sp__law_same : Sp) : TS :=
    (tSeq (tIfS (tOr (tAnd (tB (tCB (uIsi K) (tCons (tVar 1) (tCons (tC (.ty "list")) tNil)))) (tB (tCB (uIsi K) (tCons (tVar 0) (tCons (tC (.ty "list")) tNil))))) (tAnd (tB (tCB (uIsi K) (tCons (tVar 1) (tCons (tC (.ty "tuple")) tNil)))) (tB (tCB (uIsi K) (tCons (tVar 0) (tCons (tC (.ty "tuple")) tNil)))))) (tRet (tAndV (tOp (uEq K) (tCB (uLen K) (tCons (tVar 0) tNil)) (tCB (uLen K) (tCons (tVar 1) tNil))) (tOp (uEq K) (tLc (iRng1 (tCons (tCB (uLen K) (tCons (tVar 1) tNil)) tNil)) (gName 2) (tNot (tB (tCall sp__law_same [] E0 (tCons (tOp (uIx K) (tVar 0) (tVar 2)) (tCons (tOp (uIx K) (tVar 1) (tVar 2)) tNil))))) (tVar 2) [2]) (tLst tNil)))) tNext)
    (tSeq (tIfS (tOr (tB (tCB (uIsi K) (tCons (tVar 1) (tCons (tC (.ty "bool")) tNil)))) (tB (tCB (uIsi K) (tCons (tVar 0) (tCons (tC (.ty "bool")) tNil))))) (tRet (tAndV (tCB (uIsi K) (tCons (tVar 1) (tCons (tC (.ty "bool")) tNil))) (tAndV (tCB (uIsi K) (tCons (tVar 0) (tCons (tC (.ty "bool")) tNil))) (tOp (uEq K) (tVar 0) (tVar 1))))) tNext)
    (tSeq (tIfS (tOr (tAnd (tB (tCB (uIsi K) (tCons (tVar 1) (tCons (tC (.ty "int")) tNil)))) (tB (tCB (uIsi K) (tCons (tVar 0) (tCons (tC (.ty "int")) tNil))))) (tAnd (tB (tCB (uIsi K) (tCons (tVar 1) (tCons (tC (.ty "str")) tNil)))) (tB (tCB (uIsi K) (tCons (tVar 0) (tCons (tC (.ty "str")) tNil)))))) (tRet (tOp (uEq K) (tVar 0) (tVar 1))) tNext)
    (tRet (tAndV (tOp uIsN (tVar 0) (tC .non)) (tOp uIsN (tVar 1) (tC .non)))))))
theorem shaped_nil : SeqAt.shaped (.list []) = true := by decide +kernel
theorem Dep.sub {n : Nat} : ∀ {d : PyData} {ds : List PyData}, (d = .list ds ∨ d = .tuple ds) → Dep n d → ds.length ≤ 30000 ∧ ∀ d ∈ ds, ∃ m, n = m + 1 ∧ Dep m d := by
  intro d ds h hd
  rcases h with rfl | rfl
  · cases n with
    | zero => exact False.elim hd
    | succ m => exact ⟨hd.1, fun d hm => ⟨m, rfl, hd.2 d hm⟩⟩
  · cases n with
    | zero => exact False.elim hd
    | succ m => exact ⟨hd.1, fun d hm => ⟨m, rfl, hd.2 d hm⟩⟩
theorem zero_add_nat (i : Nat) : (0 : Int) + (i : Int) = (i : Int) := Int.zero_add _
theorem pure_same (K : PySem.W.Frag) (n : Nat) (vs : List V) (H : Hp) (Q : VK) (E : XK) (h : spS (n + 1) vs H Q E) : t_f_law_same K (spS n) { nx := fun _ H' => Q .non H', rt := Q } (start ["told", "due", "k"] vs) H := by
  obtain ⟨v, w, d, rfl, hv, hw, hd, q⟩ := h
  unfold t_f_law_same
  cases d with
  | dict _ => cases hv
  | none =>
    walk_at "tw"
    cases hv
    cases hw
    walk_at "tw"
    exact q _ (Ex.refl _)
  | bool b =>
    walk_at "tw"
    cases hv
    cases hw
    refine .inl ⟨rfl, ?_⟩
    walk_at "tw"
    rw [decide_eq_true rfl]
    exact q _ (Ex.refl _)
  | int i =>
    walk_at "tw"
    cases hv
    cases hw
    walk_at "tw"
    rw [decide_eq_true rfl]
    exact q _ (Ex.refl _)
  | str x =>
    walk_at "tw"
    cases hv
    cases hw
    walk_at "tw"
    rw [decide_eq_true rfl]
    exact q _ (Ex.refl _)
  | list ds =>
    obtain ⟨hz, hdp⟩ := hd.sub (.inl rfl)
    have hv' := hv
    have hw' := hw
    obtain ⟨a, xs, rfl, ha, hx⟩ := hv.lst_inv
    obtain ⟨b, ys, rfl, hb, hy⟩ := hw.lst_inv
    have lx := hx.length
    have ly := hy.length
    walk_at "tw"
    refine ⟨_, rfl, by omega, by omega, fun L hL => ?_⟩
    refine lc_range (lo := 0) (n := (ys.length : Int).toNat) (fun i H2 => Ex H H2 ∧ H2 L = some (.lst [])) ⟨Ex.new hL, upd_same⟩ ?_ ?_
    · rintro i H2 hi ⟨e2, h2⟩
      have hi' : i < ds.length := by omega
      obtain ⟨x, hx1, hx2⟩ := hx.get' (List.getElem?_eq_getElem hi')
      obtain ⟨y, hy1, hy2⟩ := hy.get' (List.getElem?_eq_getElem hi')
      obtain ⟨m, rfl, hm⟩ := hdp _ (List.getElem_mem hi')
      have ha2 := e2 _ _ ha
      have hb2 := e2 _ _ hb
      rw [zero_add_nat]
      refine ⟨rfl, ?_⟩
      walk_at "tw"
      refine ⟨x, y, ds[i], rfl, hx2.mono e2, hy2.mono e2, hm, fun H3 e3 => ?_⟩
      walk_at "tw"
      exact ⟨e2.trans e3, e3 _ _ h2⟩
    · rintro H2 ⟨e2, h2⟩
      walk_at "tw"
      refine ⟨Nat.zero_le _, fun p hp => ?_⟩
      refine c_eqD (d := .list []) (e := .list []) (.lst (Ex.new hp _ _ h2) .nil) (.lst upd_same .nil) shaped_nil shaped_nil ?_
      exact q _ (e2.trans (Ex.new hp))
  | tuple ds =>
    obtain ⟨hz, hdp⟩ := hd.sub (.inr rfl)
    have hv' := hv
    have hw' := hw
    obtain ⟨a, xs, rfl, ha, hx⟩ := hv.tup_inv
    obtain ⟨b, ys, rfl, hb, hy⟩ := hw.tup_inv
    have lx := hx.length
    have ly := hy.length
    walk_at "tw"
    refine ⟨_, rfl, by omega, by omega, fun L hL => ?_⟩
    refine lc_range (lo := 0) (n := (ys.length : Int).toNat) (fun i H2 => Ex H H2 ∧ H2 L = some (.lst [])) ⟨Ex.new hL, upd_same⟩ ?_ ?_
    · rintro i H2 hi ⟨e2, h2⟩
      have hi' : i < ds.length := by omega
      obtain ⟨x, hx1, hx2⟩ := hx.get' (List.getElem?_eq_getElem hi')
      obtain ⟨y, hy1, hy2⟩ := hy.get' (List.getElem?_eq_getElem hi')
      obtain ⟨m, rfl, hm⟩ := hdp _ (List.getElem_mem hi')
      have ha2 := e2 _ _ ha
      have hb2 := e2 _ _ hb
      rw [zero_add_nat]
      refine ⟨rfl, ?_⟩
      walk_at "tw"
      refine ⟨x, y, ds[i], rfl, hx2.mono e2, hy2.mono e2, hm, fun H3 e3 => ?_⟩
      walk_at "tw"
      exact ⟨e2.trans e3, e3 _ _ h2⟩
    · rintro H2 ⟨e2, h2⟩
      walk_at "tw"
      refine ⟨Nat.zero_le _, fun p hp => ?_⟩
      refine c_eqD (d := .list []) (e := .list []) (.lst (Ex.new hp _ _ h2) .nil) (.lst upd_same .nil) shaped_nil shaped_nil ?_
      exact q _ (e2.trans (Ex.new hp))
end Tw
namespace Tw
open PySem PySem.Spec PyProof.Rows L2 Evl RZ
/-! ### _law_spoil: it changes the lists of a thing alone -/
mutual
inductive Foot (H : Hp) : Nat → V → List Addr → Prop
  | flat {n : Nat} {v : V} {d : PyData} : Dx H v d → Dep 0 d → Foot H (n + 1) v []
  | tup {n : Nat} {a : Addr} {xs : List V} {fp : List Addr} : H a = some (.tup xs) → FootA H n xs fp → Foot H (n + 1) (.ref a) fp
  | lst {n : Nat} {a : Addr} {xs : List V} {fp : List Addr} : H a = some (.lst xs) → FootA H n xs fp → a ∉ fp → xs.length ≤ 30000 → Foot H (n + 1) (.ref a) (a :: fp)
inductive FootA (H : Hp) : Nat → List V → List Addr → Prop
  | nil {n : Nat} : FootA H n [] []
  | cons {n : Nat} {v : V} {vs : List V} {f g : List Addr} : Foot H n v f → FootA H n vs g → (∀ a ∈ f, a ∉ g) → FootA H n (v :: vs) (f ++ g)
end
theorem Dx.flat {H H' : Hp} {v : V} {d : PyData} (h : Dx H v d) (k : Dep 0 d) : Dx H' v d := by
  cases h with
  | non => exact .non
  | bl b => exact .bl b
  | int b => exact .int b
  | str b => exact .str b
  | lst _ _ => exact False.elim k
  | tup _ _ => exact False.elim k
mutual
theorem Foot.lists {H : Hp} : ∀ (n : Nat) {v : V} {f : List Addr}, Foot H n v f → ∀ a ∈ f, ∃ ys, H a = some (.lst ys)
  | _, _, _, .flat _ _, a, ha => by cases ha
  | n + 1, _, _, .tup _ r, a, ha => FootA.lists n r a ha
  | n + 1, _, _, .lst h r _ _, a, ha => by
    rcases List.mem_cons.mp ha with e | e
    · rw [e]; exact ⟨_, h⟩
    · exact FootA.lists n r a e
theorem FootA.lists {H : Hp} : ∀ (n : Nat) {vs : List V} {f : List Addr}, FootA H n vs f → ∀ a ∈ f, ∃ ys, H a = some (.lst ys)
  | _, _, _, .nil, a, ha => by cases ha
  | n, _, _, .cons h r _, a, ha => by
    rcases List.mem_append.mp ha with e | e
    · exact Foot.lists n h a e
    · exact FootA.lists n r a e
end
mutual
theorem Foot.keep {H H' : Hp} {f0 : List Addr} (k : ∀ a o, a ∉ f0 → H a = some o → H' a = some o) (l : ∀ a ∈ f0, ∃ ys, H a = some (.lst ys)) : ∀ (n : Nat) {v : V} {f : List Addr}, Foot H n v f → (∀ a ∈ f, a ∉ f0) → Foot H' n v f
  | _, _, _, .flat h z, _ => .flat (h.flat z) z
  | n + 1, _, _, .tup (a := a) h r, d => .tup (k _ _ (fun z => by obtain ⟨ys, e⟩ := l a z; rw [h] at e; cases e) h) (FootA.keep k l n r d)
  | n + 1, _, _, .lst h r ne z, d => .lst (k _ _ (d _ List.mem_cons_self) h) (FootA.keep k l n r fun a ha => d a (List.mem_cons_of_mem _ ha)) ne z
theorem FootA.keep {H H' : Hp} {f0 : List Addr} (k : ∀ a o, a ∉ f0 → H a = some o → H' a = some o) (l : ∀ a ∈ f0, ∃ ys, H a = some (.lst ys)) : ∀ (n : Nat) {vs : List V} {f : List Addr}, FootA H n vs f → (∀ a ∈ f, a ∉ f0) → FootA H' n vs f
  | _, _, _, .nil, _ => .nil
  | n, _, _, .cons h r ds, d => .cons (Foot.keep k l n h fun a ha => d a (List.mem_append_left _ ha)) (FootA.keep k l n r fun a ha => d a (List.mem_append_right _ ha)) ds
end
def Chg (f : List Addr) (H H' : Hp) : Prop := (∀ a o, a ∉ f → H a = some o → H' a = some o) ∧ ∀ a ∈ f, ∃ o, H' a = some o
def spP : Nat → Sp
  | 0 => fun _ _ _ _ => False
  | n + 1 => fun vs H Q _ => ∃ (v : V) (f : List Addr), vs = [v] ∧ Foot H (n + 1) v f ∧ ∀ H2, Chg f H H2 → Q v H2
def t_f_law_spoil (K : PySem.W.Frag) (sp__law_spoil : Sp) : TS :=
    (tCut (tIfS (tB (tCB (uIsi K) (tCons (tVar 0) (tCons (tC (.ty "tuple")) tNil)))) (tFor (iSeq K (tVar 0)) (gName 1) (tDrop (tCall sp__law_spoil [] E0 (tCons (tVar 1) tNil)))) tNext)
    (tCut (tIfS (tB (tCB (uIsi K) (tCons (tVar 0) (tCons (tC (.ty "list")) tNil)))) (tSeq (tFor (iSeq K (tVar 0)) (gName 1) (tDrop (tCall sp__law_spoil [] E0 (tCons (tVar 1) tNil))))
    (tSeq (tDrop (tBM0 K "list" rReverse (tVar 0)))
    (tDrop (tBM K "list" rAppend (tVar 0) (tCons (tC (.str "spoilt")) tNil))))) tNext)
    (tRet (tVar 0))))
theorem c_isi_tup {K : PySem.W.Frag} {H : Hp} {Q : VK} {a : Addr} {xs : List V} (h : H a = some (.tup xs)) (t : Ty5) (q : Q (.bl (isB (.tuple []) t)) H) : uIsi K [.ref a, .ty t.name] H Q := by
  have k : kitB "tuple" t.name = some (isB (.tuple []) t) := kit_is (K := K) (d := .tuple []) (H := fun _ => some (.tup [])) (v := .ref 0) (.tup rfl .nil) t
  exact c_isi (.ty _) (.base (.tup h)) (kit_ty k) q
theorem c_isi_lst {K : PySem.W.Frag} {H : Hp} {Q : VK} {a : Addr} {xs : List V} (h : H a = some (.lst xs)) (t : Ty5) (q : Q (.bl (isB (.list []) t)) H) : uIsi K [.ref a, .ty t.name] H Q := by
  have k : kitB "list" t.name = some (isB (.list []) t) := kit_is (K := K) (d := .list []) (H := fun _ => some (.lst [])) (v := .ref 0) (.lst rfl .nil) t
  exact c_isi (.ty _) (.base (.lst h)) (kit_ty k) q
/-- the loop over the items -/
structure SpI (H : Hp) (n : Nat) (xs : List V) (fp : List Addr) (i : Nat) (H2 : Hp) : Prop where
  w : ∃ f g, fp = f ++ g ∧ (∀ a ∈ f, a ∉ g) ∧ Chg f H H2 ∧ FootA H n (xs.drop i) g
theorem SpI.start {H : Hp} {n : Nat} {xs : List V} {fp : List Addr} (h : FootA H n xs fp) : SpI H n xs fp 0 H :=
  ⟨[], fp, rfl, fun _ z => (nomatch z), ⟨fun _ _ _ e => e, fun _ z => (nomatch z)⟩, h⟩
theorem SpI.done {H H2 : Hp} {n : Nat} {xs : List V} {fp : List Addr} (h : SpI H n xs fp xs.length H2) : Chg fp H H2 := by
  obtain ⟨f, g, rfl, _, c, r⟩ := h.w
  rw [List.drop_length] at r
  cases r
  rw [List.append_nil]
  exact c
theorem SpI.turn {H H2 : Hp} {n i : Nat} {xs : List V} {fp : List Addr} {x : V} {Q : VK} {E : XK} (l0 : ∀ a ∈ fp, ∃ ys, H a = some (.lst ys)) (h : SpI H (n + 1) xs fp i H2) (hx : xs[i]? = some x) (q : ∀ H3, SpI H (n + 1) xs fp (i + 1) H3 → Q x H3) : spP (n + 1) [x] H2 Q E := by
  obtain ⟨f, g, rfl, d, c, r⟩ := h.w
  have hi : i < xs.length := (List.getElem?_eq_some_iff.mp hx).1
  rw [List.drop_eq_getElem_cons hi] at r
  have ex : xs[i] = x := (List.getElem?_eq_some_iff.mp hx).2
  rw [ex] at r
  cases r with
  | @cons _ _ _ f1 g1 hf hr hd =>
    have l1 : ∀ a ∈ f, ∃ ys, H a = some (.lst ys) := fun a ha => l0 a (List.mem_append_left _ ha)
    have hf2 : Foot H2 (n + 1) x f1 := Foot.keep c.1 l1 _ hf fun a ha z => d a z (List.mem_append_left _ ha)
    refine ⟨x, f1, rfl, hf2, fun H3 c3 => q H3 ⟨f ++ f1, g1, by rw [List.append_assoc], fun a ha => ?_, ⟨fun a o na e => ?_, fun a ha => ?_⟩, hr⟩⟩
    · rcases List.mem_append.mp ha with z | z
      · exact fun y => d a z (List.mem_append_right _ y)
      · exact hd a z
    · exact c3.1 a o (fun z => na (List.mem_append_right _ z)) (c.1 a o (fun z => na (List.mem_append_left _ z)) e)
    · by_cases z : a ∈ f1
      · exact c3.2 a z
      · rcases List.mem_append.mp ha with y | y
        · obtain ⟨o, e⟩ := c.2 a y
          exact ⟨o, c3.1 a o z e⟩
        · exact absurd y z
theorem pure_spoil (K : PySem.W.Frag) (n : Nat) (vs : List V) (H : Hp) (Q : VK) (E : XK) (h : spP (n + 1) vs H Q E) : t_f_law_spoil K (spP n) { nx := fun _ H' => Q .non H', rt := Q } (start ["thing", "one"] vs) H := by
  obtain ⟨v, fp, rfl, hf, q⟩ := h
  unfold t_f_law_spoil
  walk_at "tw"
  cases hf with
  | @flat _ _ d hd hk =>
    have hs : ∀ t : Ty5, t = .list ∨ t = .tuple → isB d t = false := fun t ht => by
      cases d with
      | list _ => exact False.elim hk
      | tuple _ => exact False.elim hk
      | _ => rcases ht with rfl | rfl <;> rfl
    refine c_cut (fun σ' H' => σ' = [some v, none] ∧ H' = H) ?_ ?_
    · walk_at "tw"
      refine c_iteF (hs .tuple (.inr rfl)) ?_
      walk_at "tw"
      exact ⟨rfl, rfl⟩
    · rintro σ' H' ⟨rfl, rfl⟩
      walk_at "tw"
      refine c_cut (fun σ' H2 => σ' = [some v, none] ∧ H2 = H') ?_ ?_
      · walk_at "tw"
        refine c_iteF (hs .list (.inl rfl)) ?_
        walk_at "tw"
        exact ⟨rfl, rfl⟩
      · rintro σ' H2 ⟨rfl, rfl⟩
        walk_at "tw"
        exact q _ ⟨fun _ _ _ e => e, fun _ z => (nomatch z)⟩
  | @tup _ a xs _ ha hr =>
    have l0 := FootA.lists n hr
    refine c_cut (fun σ' H' => ∃ w, σ' = [some (.ref a), w] ∧ Chg fp H H') ?_ ?_
    · walk_at "tw"
      refine c_isi_tup ha .tuple ?_
      walk_at "tw"
      refine ⟨a, rfl, .inr ⟨⟨_, SqT.of ha⟩, ?_⟩⟩
      refine for_tup (K := K) (xs := xs) (fun i σ' H' => ∃ w, σ' = [some (.ref a), w] ∧ SpI H n xs fp i H') ⟨none, rfl, SpI.start hr⟩ (fun i σ' H' hi ⟨w, _, I⟩ => ?_) ?_ ?_
      · obtain ⟨f, g, e, _, c, _⟩ := I.w
        refine SqT.of (c.1 _ _ (fun z => ?_) ha)
        obtain ⟨ys, e2⟩ := l0 a (by rw [e]; exact List.mem_append_left _ z)
        rw [ha] at e2
        cases e2
      · rintro i x σ' H' hi ⟨w, rfl, I⟩
        walk_at "tw"
        cases n with
        | zero =>
          obtain ⟨f, g, e, _, c, r⟩ := I.w
          have hi' : i < xs.length := (List.getElem?_eq_some_iff.mp hi).1
          rw [List.drop_eq_getElem_cons hi'] at r
          cases r with
          | cons hz _ _ => cases hz
        | succ m =>
          refine I.turn l0 hi fun H3 I3 => ?_
          exact ⟨_, rfl, I3⟩
      · rintro σ' H' ⟨w, rfl, I⟩
        exact ⟨w, rfl, I.done⟩
    · rintro σ' H' ⟨w, rfl, c⟩
      have ha' : H' a = some (.tup xs) := c.1 _ _ (fun z => by obtain ⟨ys, e⟩ := l0 a z; rw [ha] at e; cases e) ha
      walk_at "tw"
      refine c_cut (fun σ' H2 => σ' = [some (.ref a), w] ∧ H2 = H') ?_ ?_
      · walk_at "tw"
        refine c_isi_tup ha' .list ?_
        walk_at "tw"
        exact ⟨rfl, rfl⟩
      · rintro σ' H2 ⟨rfl, rfl⟩
        walk_at "tw"
        exact q _ c
  | @lst _ a xs f ha hr hna hz =>
    have l0 := FootA.lists n hr
    refine c_cut (fun σ' H' => σ' = [some (.ref a), none] ∧ H' = H) ?_ ?_
    · walk_at "tw"
      refine c_isi_lst ha .tuple ?_
      walk_at "tw"
      exact ⟨rfl, rfl⟩
    · rintro σ' H' ⟨rfl, rfl⟩
      walk_at "tw"
      refine c_cut (fun σ' H2 => ∃ w, σ' = [some (.ref a), w] ∧ Chg (a :: f) H' H2) ?_ ?_
      · walk_at "tw"
        refine c_isi_lst ha .list ?_
        walk_at "tw"
        refine ⟨a, rfl, .inl ⟨⟨_, SqL.of ha⟩, ?_⟩⟩
        refine for_list (K := K) (xs := xs) (fun i σ' H2 => ∃ w, σ' = [some (.ref a), w] ∧ SpI H' n xs f i H2) ⟨none, rfl, SpI.start hr⟩ (fun i σ' H2 hi ⟨w, _, I⟩ => ?_) ?_ ?_
        · obtain ⟨f1, g, e, _, c, _⟩ := I.w
          exact SqL.of (c.1 _ _ (fun z => hna (by rw [e]; exact List.mem_append_left _ z)) ha)
        · rintro i x σ' H2 hi ⟨w, rfl, I⟩
          walk_at "tw"
          cases n with
          | zero =>
            obtain ⟨f1, g, e, _, c, r⟩ := I.w
            have hi' : i < xs.length := (List.getElem?_eq_some_iff.mp hi).1
            rw [List.drop_eq_getElem_cons hi'] at r
            cases r with
            | cons hz _ _ => cases hz
          | succ m =>
            refine I.turn l0 hi fun H3 I3 => ?_
            exact ⟨_, rfl, I3⟩
        · rintro σ' H2 ⟨w, rfl, I⟩
          have c := I.done
          have ha2 : H2 a = some (.lst xs) := c.1 _ _ hna ha
          walk_at "tw"
          refine ⟨c_tyL ha2, ?_⟩
          refine c_rev ha2 ?_
          walk_at "tw"
          refine ⟨c_tyL upd_same, ?_⟩
          walk_at "tw"
          refine c_app upd_same (by rw [List.length_reverse]; exact sz_of_le (by omega)) ?_
          refine ⟨w, rfl, fun b o nb e => ?_, fun b hb => ?_⟩
          · have n1 : b ≠ a := fun z => nb (by rw [z]; exact List.mem_cons_self)
            rw [upd_ne n1, upd_ne n1]
            exact c.1 _ _ (fun z => nb (List.mem_cons_of_mem _ z)) e
          · by_cases e : b = a
            · rw [e]; exact ⟨_, upd_same⟩
            · rw [upd_ne e, upd_ne e]
              (rcases List.mem_cons.mp hb with z | z)
              · exact absurd z e
              · exact c.2 b z
      · rintro σ' H2 ⟨w, rfl, c⟩
        walk_at "tw"
        exact q _ c
end Tw
namespace Tw
open PySem PySem.Spec PyProof.Rows L2 Evl RZ
/-! ### _law_due -/
def haltedL : List V := [.str "Stops", .str "Enough", .str "Endless", .str "NothingLeft"]
def sp__law_due : Sp := fun vs H Q _ => ∃ (G : Hp) (x : Str) (v : V) (d : PyData), vs = [.str x, v] ∧ Ex G H ∧ Dx G v d ∧ decide (x = "NoSuch") = false ∧ inV (.str x) haltedL = false ∧
  RetD (.list [.str "fault", .str "Refused", .list [.str x], d, .str x]) G H Q
def t_f_law_due (K : PySem.W.Frag) : TS :=
    (tSeq (tAsg (tIf (tTest (tOp (uEq K) (tVar 0) (tC (.str "NoSuch")))) (tC (.str "Missing")) (tIf (tTest (tOp (uIn K) (tVar 0) (tLst (tCons (tC (.str "Stops")) (tCons (tC (.str "Enough")) (tCons (tC (.str "Endless")) (tCons (tC (.str "NothingLeft")) tNil))))))) (tC (.str "Halted")) (tC (.str "Refused")))) (gName 2))
    (tRet (tLst (tCons (tC (.str "fault")) (tCons (tVar 2) (tCons (tLst (tCons (tVar 0) tNil)) (tCons (tVar 1) (tCons (tVar 0) tNil))))))))
theorem c_inL {K : PySem.W.Frag} {H : Hp} {Q : VK} {v : V} {p : Addr} {xs : List V} (h : H p = some (.lst xs)) (f : flatV v = true) (fs : xs.all flatV = true) (q : Q (.bl (inV v xs)) H) : uIn K v (.ref p) H Q := .inl ⟨p, xs, rfl, .inl (SqL.of h), f, fs, q⟩
theorem pure_due (K : PySem.W.Frag) (vs : List V) (H : Hp) (Q : VK) (E : XK) (h : sp__law_due vs H Q E) : t_f_law_due K { nx := fun _ H' => Q .non H', rt := Q } (start ["name", "fields", "base"] vs) H := by
  obtain ⟨G, x, v, d, rfl, eG, hv, h1, h2, q⟩ := h
  unfold t_f_law_due
  walk_at "tw"
  refine c_iteF h1 ?_
  walk_at "tw"
  refine ⟨by show 4 ≤ sizeLine; decide, fun l hl => ?_⟩
  refine c_inL (xs := haltedL) upd_same rfl rfl ?_
  walk_at "tw"
  refine c_iteF h2 ?_
  walk_at "tw"
  refine ⟨by show 1 ≤ sizeLine; decide, fun m hm => ?_⟩
  walk_at "tw"
  refine ⟨by show 5 ≤ sizeLine; decide, fun n hn => ?_⟩
  have e1 : Ex H (upd H l (.lst haltedL)) := Ex.new hl
  have e2 := e1.trans (Ex.new (o := .lst [.str x]) hm)
  have em : H m = none := fresh_back e1 hm
  have en : H n = none := fresh_back e2 hn
  have nm : m ≠ n := ne_of_none upd_same hn
  have e3 := e2.trans (Ex.new (o := .lst [.str "fault", .str "Refused", .ref m, v, .str x]) hn)
  refine q _ _ e3 (.lst (grow_new en upd_same) (.cons (.str _) (.cons (.str _) (.cons (.lst (grow_new em (by walk_at "look")) (.cons (.str _) .nil)) (.cons (hv.mono (grow_ex eG)) (.cons (.str _) .nil))))))
/-! ### sums of products, one by one -/
def dotL (p : Int) (t : Nu) (zs : List (Nu × Nu)) : Nu := zs.foldl (fun t z => Nu.add p t (Nu.mul p z.1 z.2)) t
theorem dotL_append (p : Int) (t : Nu) (zs : List (Nu × Nu)) (z : Nu × Nu) : dotL p t (zs ++ [z]) = Nu.add p (dotL p t zs) (Nu.mul p z.1 z.2) := by
  unfold dotL; rw [List.foldl_append]; rfl
def OkL (p : Int) (xs : List Nu) : Prop := ∀ x ∈ xs, x.ok p ∧ x.le 14
def OkZ (p : Int) (zs : List (Nu × Nu)) : Prop := ∀ z ∈ zs, (z.1.ok p ∧ z.1.le 14) ∧ z.2.ok p ∧ z.2.le 14
theorem OkZ.of {p : Int} {xs ys : List Nu} (hx : OkL p xs) (hy : OkL p ys) : OkZ p (xs.zip ys) := fun z hz => ⟨hx _ (List.of_mem_zip hz).1, hy _ (List.of_mem_zip hz).2⟩
theorem OkL.drop {p : Int} {xs : List Nu} (n : Nat) (h : OkL p xs) : OkL p (xs.drop n) := fun x hx => h x (List.mem_of_mem_drop hx)
theorem dotL_okn {p : Int} : ∀ (zs : List (Nu × Nu)) {t : Nu} {n : Nat}, t.ok p → t.le n → OkZ p zs → (dotL p t zs).ok p ∧ (dotL p t zs).le (n + 29 * zs.length)
  | [], t, n, ht, hl, _ => ⟨ht, hl⟩
  | z :: zs, t, n, ht, hl, h => by
    obtain ⟨⟨a1, a2⟩, b1, b2⟩ := h z List.mem_cons_self
    obtain ⟨i1, i2⟩ := dotL_okn zs (t := Nu.add p t (Nu.mul p z.1 z.2)) (Nu.add_ok ht (Nu.mul_ok a1 b1)) (Nu.add_le ht (Nu.mul_ok a1 b1) hl (Nu.mul_le a1 b1 a2 b2)) fun y hy => h y (List.mem_cons_of_mem _ hy)
    refine ⟨i1, Nu.le_mono ?_ i2⟩
    rw [List.length_cons]
    omega
theorem dotL_ok {p : Int} {t : Nu} (ht : t.ok p) (hl : t.le 1) (zs : List (Nu × Nu)) (h : OkZ p zs) : (dotL p t zs).ok p ∧ (dotL p t zs).le (29 * zs.length + 1) := by
  obtain ⟨a, b⟩ := dotL_okn zs ht hl h
  exact ⟨a, Nu.le_mono (by omega) b⟩
theorem zero_le1 (p : Int) : (ofInt p 0).le 1 := by
  unfold ofInt
  split
  · show ((0 : Int) % p).natAbs < 2 ^ 1
    rw [Int.zero_emod]; decide
  · show ((0 : Int) : Rat).num.natAbs < 2 ^ 1 ∧ ((0 : Int) : Rat).den < 2 ^ 1
    decide
/-- how many places the taps have on the row -/
def manyN (n m : Nat) : Nat := n + 1 - m
def sumAt (p : Int) (xs ts : List Nu) (i : Nat) : Nu := dotL p (ofInt p 0) ((xs.drop i).zip ts)
def sumsL (p : Int) (xs ts : List Nu) : List Nu := (List.range (manyN xs.length ts.length)).map (sumAt p xs ts)
def rowD (xs : List Nu) : PyData := .list (xs.map Nu.d)
def sp__law_sums : Sp := fun vs H Q _ => ∃ (G : Hp) (p : Int) (xs ts : List Nu) (v w : V), vs = [.int p, v, w] ∧ Ex G H ∧ 0 ≤ p ∧ Dx G v (rowD xs) ∧ Dx G w (rowD ts) ∧ OkL p xs ∧ OkL p ts ∧ ts.length ≤ 200 ∧ xs.length ≤ 10000 ∧ RetD (rowD (sumsL p xs ts)) G H Q
def t_f_law_sums (K : PySem.W.Frag) : TS :=
    (tSeq (tAsg (tLst tNil) (gName 3))
    (tSeq (tFor (iRng1 (tCons (tOp (uAdd K) (tOp uSub (tCB (uLen K) (tCons (tVar 1) tNil)) (tCB (uLen K) (tCons (tVar 2) tNil))) (tC (.int 1))) tNil)) (gName 4) (tSeq (tAsg (tCall sp__law_int [] E0 (tCons (tVar 0) (tCons (tC (.int 0)) tNil))) (gName 5))
    (tSeq (tFor (iRng1 (tCons (tCB (uLen K) (tCons (tVar 2) tNil)) tNil)) (gName 6) (tAsg (tCall sp__law_add [] E0 (tCons (tVar 0) (tCons (tVar 5) (tCons (tCall sp__law_mul [] E0 (tCons (tVar 0) (tCons (tOp (uIx K) (tVar 1) (tOp (uAdd K) (tVar 4) (tVar 6))) (tCons (tOp (uIx K) (tVar 2) (tVar 6)) tNil)))) tNil)))) (gName 5)))
    (tDrop (tBM K "list" rAppend (tVar 3) (tCons (tVar 5) tNil))))))
    (tRet (tVar 3))))
theorem rowD_get {H : Hp} {xs : List Nu} {vs : List V} {i : Nat} {x : Nu} (h : DxA H vs (xs.map Nu.d)) (e : xs[i]? = some x) : ∃ v, vs[i]? = some v ∧ Dx H v x.d := h.get' (by rw [List.getElem?_map, e]; rfl)
theorem rowD_inv {H : Hp} {v : V} {xs : List Nu} (h : Dx H v (rowD xs)) : ∃ a vs, v = .ref a ∧ H a = some (.lst vs) ∧ DxA H vs (xs.map Nu.d) ∧ vs.length = xs.length := by
  obtain ⟨a, vs, e, ha, r⟩ := Dx.lst_inv h
  exact ⟨a, vs, e, ha, r, by rw [r.length, List.length_map]⟩
theorem zip_get {xs ys : List Nu} {i : Nat} {x y : Nu} (hx : xs[i]? = some x) (hy : ys[i]? = some y) : (xs.zip ys)[i]? = some (x, y) := by
  rw [List.getElem?_zip_eq_some]; exact ⟨hx, hy⟩
theorem pure_sums (K : PySem.W.Frag) (vs : List V) (H : Hp) (Q : VK) (E : XK) (h : sp__law_sums vs H Q E) : t_f_law_sums K { nx := fun _ H' => Q .non H', rt := Q } (start ["p", "row", "taps", "told", "i", "total", "j"] vs) H := by
  obtain ⟨G, p, xs, ts, v, w, rfl, eG, p0, hv, hw, ox, ot, tz, xz, q⟩ := h
  obtain ⟨a, vs, rfl, ha, rx, lx⟩ := rowD_inv hv
  obtain ⟨b, ws, rfl, hb, rt, lt⟩ := rowD_inv hw
  unfold t_f_law_sums
  walk_at "tw"
  refine ⟨Nat.zero_le _, fun L hL => ?_⟩
  have eL : Ex H (upd H L (.lst [])) := Ex.new hL
  have ha0 := eG _ _ ha
  have hb0 := eG _ _ hb
  walk_at "tw"
  refine ⟨_, rfl, by omega, by omega, ?_⟩
  have hn : ((vs.length : Int) - (ws.length : Int) + 1).toNat = manyN xs.length ts.length := by unfold manyN; omega
  rw [hn]
  refine for_range (lo := 0) (n := manyN xs.length ts.length) (fun i σ H2 => ∃ (us : List V) (o4 o5 o6 : Option V), σ = [some (.int p), some (.ref a), some (.ref b), some (.ref L), o4, o5, o6] ∧ BldP L G H H2 us (((sumsL p xs ts).map Nu.d).take i)) ⟨[], none, none, none, rfl, BldP.start hL⟩ ?_ ?_
  · rintro i σ H2 hi ⟨us, o4, o5, o6, rfl, B⟩
    have hG2 : Ex (grow G (upd H L (.lst [])) H2) H2 := grow_in (fun x o z => B.ex _ _ (eG _ _ z))
    have ha2 := B.ex _ _ ha0
    have hb2 := B.ex _ _ hb0
    have hL2 := B.at_
    walk_at "tw"
    refine ⟨grow G (upd H L (.lst [])) H2, p, 0, rfl, p0, fun v0 H3 e3 d3 => ?_⟩
    walk_at "tw"
    refine ⟨_, rfl, by omega, by omega, ?_⟩
    have zo : OkZ p ((xs.drop i).zip ts) := OkZ.of (ox.drop i) ot
    have z0 := ofInt_ok (p := p) (k := 0) p0
    have hzl : ((xs.drop i).zip ts).length = ts.length := by
      rw [List.length_zip, List.length_drop]
      unfold manyN at hi
      omega
    refine for_range (lo := 0) (n := (ws.length : Int).toNat) (fun j σ H4 => ∃ (u : V) (o6 : Option V), σ = [some (.int p), some (.ref a), some (.ref b), some (.ref L), some (.int (0 + (i : Int))), some u, o6] ∧ Ex H2 H4 ∧ Dx (grow (grow G (upd H L (.lst [])) H2) H2 H4) u (dotL p (ofInt p 0) (((xs.drop i).zip ts).take j)).d) ⟨v0, o6, rfl, e3, d3⟩ ?_ ?_
    · rintro j σ H4 hj ⟨u, o6, rfl, e4, d4⟩
      have ha4 := e4 _ _ ha2
      have hb4 := e4 _ _ hb2
      have hj' : j < ts.length := by omega
      have hij : i + j < xs.length := by unfold manyN at hi; omega
      obtain ⟨x, hx1, hx2⟩ := rowD_get (x := xs[i + j]) rx (List.getElem?_eq_getElem hij)
      obtain ⟨y, hy1, hy2⟩ := rowD_get (x := ts[j]) rt (List.getElem?_eq_getElem hj')
      have eij : (0 : Int) + (i : Int) + (0 + (j : Int)) = ((i + j : Nat) : Int) := by omega
      have ej : (0 : Int) + (j : Int) = (j : Int) := by omega
      walk_at "tw"
      refine c_ixL (v := x) (SqL.of ha4) (by rw [eij]; exact atI_nat hx1) ?_
      walk_at "tw"
      refine c_ixL (v := y) (SqL.of hb4) (by rw [ej]; exact atI_nat hy1) ?_
      walk_at "tw"
      have okx := ox _ (List.getElem_mem hij)
      have oky := ot _ (List.getElem_mem hj')
      have GH4 : Ex G H4 := fun z o k => e4 _ _ (B.ex _ _ (eG _ _ k))
      have hz : ((xs.drop i).zip ts)[j]? = some (xs[i + j], ts[j]) := zip_get (by rw [List.getElem?_drop]; exact List.getElem?_eq_getElem hij) (List.getElem?_eq_getElem hj')
      refine ⟨grow (grow G (upd H L (.lst [])) H2) H2 H4, p, _, _, x, y, 14, 14, rfl, p0, okx.1, oky.1, hx2.mono GH4, hy2.mono GH4, okx.2, oky.2, by decide, fun m H5 e5 d5 => ?_⟩
      have okt := dotL_ok z0 (zero_le1 p) (((xs.drop i).zip ts).take j) fun z hz => zo z (List.mem_of_mem_take hz)
      walk_at "tw"
      refine ⟨grow (grow G (upd H L (.lst [])) H2) H2 H5, p, _, _, u, m, _, 28, rfl, p0, okt.1, Nu.mul_ok okx.1 oky.1, d4.mono ?_, d5.mono ?_, okt.2, Nu.mul_le okx.1 oky.1 okx.2 oky.2, ?_, fun t H6 e6 d6 => ?_⟩
      · exact fun z o k => e5 _ _ (grow_in (fun z o k => e4 _ _ (hG2 _ _ k)) _ _ k)
      · exact grow_in fun z o k => e5 _ _ (grow_in (fun z o k => e4 _ _ (hG2 _ _ k)) _ _ k)
      · have : (((xs.drop i).zip ts).take j).length ≤ j := List.length_take_le _ _
        omega
      · walk_at "tw"
        refine ⟨t, _, rfl, e4.trans (e5.trans e6), ?_⟩
        rw [take_succ hz, dotL_append]
        rw [grow_ex2 (e4.trans e5) e6] at d6
        exact d6
    · rintro σ H4 ⟨u, o6, rfl, e4, d4⟩
      have hL4 := e4 _ _ hL2
      walk_at "tw"
      refine ⟨c_tyL hL4, ?_⟩
      walk_at "tw"
      have hul : us.length ≤ 10001 := by
        rw [B.len]
        refine Nat.le_trans (List.length_take_le' _ _) ?_
        unfold sumsL manyN
        (simp only [List.length_map, List.length_range])
        omega
      refine c_app hL4 (sz_of_le (by omega)) ?_
      refine ⟨us ++ [u], _, _, _, rfl, ?_⟩
      have hs : ((sumsL p xs ts).map Nu.d)[i]? = some (sumAt p xs ts i).d := by
        unfold sumsL
        rw [List.map_map, List.getElem?_map, List.getElem?_range hi]
        rfl
      rw [take_succ hs]
      refine B.step eG e4 ?_
      have ez : (((xs.drop i).zip ts).take (ws.length : Int).toNat) = (xs.drop i).zip ts := List.take_of_length_le (by omega)
      rw [ez] at d4
      exact d4
  · rintro σ H2 ⟨us, o4, o5, o6, rfl, B⟩
    walk_at "tw"
    have ez : (((sumsL p xs ts).map Nu.d).take (manyN xs.length ts.length)) = (sumsL p xs ts).map Nu.d := List.take_of_length_le (by unfold sumsL; simp)
    rw [ez] at B
    exact q _ _ B.ex (B.done eG)
end Tw
namespace Tw
open PySem PySem.Spec PyProof.Rows L2 Evl RZ
/-! ## The ground -/
def grV (p : Int) : V := if 0 < p then .int p else .non
def grF (p : Int) : List (Str × V) := putF "prime" (grV p) (putF "line" (.str (lineOf p)) [])
theorem ne_pl : ¬ (("prime" : Str) = "line") := by decide +kernel
theorem ne_lp : ¬ (("line" : Str) = "prime") := by decide +kernel
theorem grF_prime (p : Int) : (grF p).lookup ("prime" : Str) = some (grV p) := by
  unfold grF; rw [lookup_putF, if_pos rfl]
theorem grF_line (p : Int) : (grF p).lookup ("line" : Str) = some (.str (lineOf p)) := by
  unfold grF; rw [lookup_putF, if_neg ne_lp, lookup_putF, if_pos rfl]
theorem grF_no (p : Int) {m : Str} (h1 : ¬ m = "prime") (h2 : ¬ m = "line") : (grF p).lookup m = none := by
  unfold grF; rw [lookup_putF, if_neg h1, lookup_putF, if_neg h2]; rfl
def GrAt (K : PySem.W.Frag) (H : Hp) (g : Addr) (p : Int) : Prop := ∃ dx, H g = some (.ins (He.ga K "Ground") dx (grF p))
theorem GrAt.ex {K : PySem.W.Frag} {H H' : Hp} {g : Addr} {p : Int} (h : GrAt K H g p) (e : Ex H H') : GrAt K H' g p := by
  obtain ⟨dx, h⟩ := h; exact ⟨dx, e _ _ h⟩
/-- what the top says of the class -/
structure GrK (K : PySem.W.Frag) : Prop where
  cl : Cls K (He.ga K "Ground")
  nP : NoAttr K (He.ga K "Ground") "prime"
  nL : NoAttr K (He.ga K "Ground") "line"
section
variable {K : PySem.W.Frag} {σ : L2.St} {H : Hp} {Q : VK} {te : TE} {g : Addr} {p : Int}
theorem c_gpV {n : Nat} (hs : σ[n]? = some (some (.ref g))) (T : GrK K) (h : GrAt K H g p) (q : Q (grV p) H) : tFld K (tVar n) "prime" σ H Q := by
  obtain ⟨dx, h⟩ := h
  exact ⟨_, hs, g, _, dx, _, _, rfl, h, T.cl, T.nP, grF_prime p, q⟩
theorem c_gmV {n : Nat} {m : Str} {sp : Sp} {dvs : List V} {E : XK} {tr : TA} (hs : σ[n]? = some (some (.ref g))) (h : GrAt K H g p) (h1 : ¬ m = "prime") (h2 : ¬ m = "line") (q : tr σ H fun vs H2 => sp (.ref g :: (vs ++ dvs)) H2 Q E) : tMeth (He.ga K "Ground") m sp dvs E (tVar n) tr σ H Q := by
  obtain ⟨dx, h⟩ := h
  exact ⟨_, hs, g, dx, _, rfl, h, grF_no p h1 h2, q⟩
end
theorem grV_pos {p : Int} (h : 0 < p) : grV p = .int p := if_pos h
theorem grV_zero {p : Int} (h : p = 0) : grV p = .non := if_neg (by omega)
/-! ### number, add, mul over fractions, and over rests where no inverse is asked -/
def sp_inverse_modulo : Sp := fun _ _ _ _ => False
def sp_Ground_number (K : PySem.W.Frag) : Sp := fun vs H Q _ => ∃ (G : Hp) (g : Addr) (t b : Int), vs = [.ref g, .int t, .int b] ∧ GrAt K H g 0 ∧ 0 < b ∧ b.natAbs < 2 ^ 8000 ∧ RetD (Nu.f (Rat.divInt t b)).d G H Q
def t_m_Ground_number (K : PySem.W.Frag) : TS :=
    (tSeq (tIfS (tTest (tOp uNotN (tFld K (tVar 0) "prime") (tC .non))) (tSeq (tIfS (tTest (tOp (uEq K) (tOp uMod (tVar 2) (tFld K (tVar 0) "prime")) (tC (.int 0)))) tNever tNext)
    (tRet (tOp uMod (tOp (uMul K) (tVar 1) (tCall sp_inverse_modulo [] E0 (tCons (tVar 2) (tCons (tFld K (tVar 0) "prime") tNil)))) (tFld K (tVar 0) "prime")))) tNext)
    (tSeq (tIfS (tTest (tOp (uEq K) (tVar 2) (tC (.int 0)))) tNever tNext)
    (tSeq (tAsg (tCB rGcd (tCons (tVar 1) (tCons (tVar 2) tNil))) (gName 3))
    (tCut (tIfS (tTest (tOp (uLt K) (tVar 2) (tC (.int 0)))) (tAsg (tUn uNeg (tVar 3)) (gName 3)) tNext)
    (tRet (tTup (tCons (tOp uFdiv (tVar 1) (tVar 3)) (tCons (tOp uFdiv (tVar 2) (tVar 3)) tNil))))))))
theorem c_gcd {K : PySem.W.Frag} {H : Hp} {Q : VK} {a b : Int} (q : Q (.int ((Nat.gcd a.natAbs b.natAbs : Nat) : Int)) H) : rGcd [.int a, .int b] H Q := ⟨a, b, rfl, q⟩
theorem pure_number (K : PySem.W.Frag) (T : GrK K) (vs : List V) (H : Hp) (Q : VK) (E : XK) (h : sp_Ground_number K vs H Q E) : t_m_Ground_number K { nx := fun _ H' => Q .non H', rt := Q } (start ["self", "top", "bottom", "common"] vs) H := by
  obtain ⟨G, g, t, b, rfl, hg, hb, hz, q⟩ := h
  have d1 := gcd_bits t b hb hz
  have d2 : CDivW b ((Nat.gcd t.natAbs b.natAbs : Nat) : Int) := d1
  unfold t_m_Ground_number
  walk_at "tw"
  refine c_gpV rfl T hg ?_
  rw [grV_zero rfl]
  walk_at "tw"
  refine c_gcd (K := K) ?_
  walk_at "tw"
  refine c_cut (fun σ' H' => σ' = [some (.ref g), some (.int t), some (.int b), some (.int ((Nat.gcd t.natAbs b.natAbs : Nat) : Int))] ∧ H' = H) ?_ ?_
  · walk_at "tw"
    exact ⟨rfl, rfl⟩
  · rintro σ' H' ⟨rfl, rfl⟩
    walk_at "tw"
    exact ⟨by show 2 ≤ sizeLine; decide, fun a ha => q _ _ (Ex.new ha) (Dx.frac (grow_new ha upd_same) (frac_num t b hb).symm (frac_den t b hb).symm)⟩
def spGop (K : PySem.W.Frag) (op : Int → Nu → Nu → Nu) : Sp := fun vs H Q _ => ∃ (G : Hp) (g : Addr) (p : Int) (x y : Nu) (v w : V) (n m : Nat), vs = [.ref g, v, w] ∧ GrAt K H g p ∧ 0 ≤ p ∧ x.ok p ∧ y.ok p ∧ Dx H v x.d ∧ Dx H w y.d ∧ x.le n ∧ y.le m ∧ n + m ≤ 8000 ∧ RetD (op p x y).d G H Q
def sp_Ground_add (K : PySem.W.Frag) : Sp := spGop K Nu.add
def sp_Ground_mul (K : PySem.W.Frag) : Sp := spGop K Nu.mul
def t_m_Ground_add (K : PySem.W.Frag) : TS :=
    (tSeq (tIfS (tTest (tOp uNotN (tFld K (tVar 0) "prime") (tC .non))) (tRet (tOp uMod (tOp (uAdd K) (tVar 1) (tVar 2)) (tFld K (tVar 0) "prime"))) tNext)
    (tRet (tMeth (He.ga K "Ground") "number" (sp_Ground_number K) [] E0 (tVar 0) (tCons (tOp (uAdd K) (tOp (uMul K) (tOp (uIx K) (tVar 1) (tC (.int 0))) (tOp (uIx K) (tVar 2) (tC (.int 1)))) (tOp (uMul K) (tOp (uIx K) (tVar 2) (tC (.int 0))) (tOp (uIx K) (tVar 1) (tC (.int 1))))) (tCons (tOp (uMul K) (tOp (uIx K) (tVar 1) (tC (.int 1))) (tOp (uIx K) (tVar 2) (tC (.int 1)))) tNil)))))
def t_m_Ground_mul (K : PySem.W.Frag) : TS :=
    (tSeq (tIfS (tTest (tOp uNotN (tFld K (tVar 0) "prime") (tC .non))) (tRet (tOp uMod (tOp (uMul K) (tVar 1) (tVar 2)) (tFld K (tVar 0) "prime"))) tNext)
    (tRet (tMeth (He.ga K "Ground") "number" (sp_Ground_number K) [] E0 (tVar 0) (tCons (tOp (uMul K) (tOp (uIx K) (tVar 1) (tC (.int 0))) (tOp (uIx K) (tVar 2) (tC (.int 0)))) (tCons (tOp (uMul K) (tOp (uIx K) (tVar 1) (tC (.int 1))) (tOp (uIx K) (tVar 2) (tC (.int 1)))) tNil)))))
theorem ne_np : ¬ (("number" : Str) = "prime") := by decide +kernel
theorem ne_nl : ¬ (("number" : Str) = "line") := by decide +kernel
theorem pure_gadd (K : PySem.W.Frag) (T : GrK K) (vs : List V) (H : Hp) (Q : VK) (E : XK) (h : sp_Ground_add K vs H Q E) : t_m_Ground_add K { nx := fun _ H' => Q .non H', rt := Q } (start ["self", "x", "y"] vs) H := by
  obtain ⟨G, g, p, x, y, v, w, n, m, rfl, hg, hp, hx, hy, dx, dy, lx, ly, hz, q⟩ := h
  unfold t_m_Ground_add
  walk_at "tw"
  refine c_gpV rfl T hg ?_
  by_cases p0 : 0 < p
  · rw [grV_pos p0]
    obtain ⟨i, rfl, _⟩ := Nu.ok_r p0 hx
    obtain ⟨j, rfl, _⟩ := Nu.ok_r p0 hy
    cases Dx.int_inv dx
    cases Dx.int_inv dy
    walk_at "tw"
    refine c_gpV rfl T hg ?_
    rw [grV_pos p0]
    walk_at "tw"
    exact q _ _ (Ex.refl _) (.int _)
  · have p0 : p = 0 := by omega
    subst p0
    rw [grV_zero rfl]
    obtain ⟨a, rfl⟩ := Nu.ok_f rfl hx
    obtain ⟨b, rfl⟩ := Nu.ok_f rfl hy
    obtain ⟨va, rfl, ha⟩ := dx.frac_inv
    obtain ⟨vb, rfl, hb⟩ := dy.frac_inv
    obtain ⟨l1, l2⟩ := lx
    obtain ⟨k1, k2⟩ := ly
    walk_at "tw"
    refine c_gmV rfl hg ne_np ne_nl ?_
    walk_at "tw"
    refine c_mulI (mul_wide l1 k2 (by omega)) ?_
    walk_at "tw"
    refine c_mulI (mul_wide k1 l2 (by omega)) ?_
    walk_at "tw"
    refine c_mulI (mul_wide l2 k2 (by omega)) ?_
    walk_at "tw"
    refine ⟨G, g, _, _, rfl, hg, den_mul_pos a b, ?_, ?_⟩
    · rw [Int.natAbs_mul]
      exact Nat.lt_of_lt_of_le (lt_pow_mul l2 k2) (Nat.pow_le_pow_right (by decide) hz)
    · rw [← add_frac]; exact q
theorem pure_gmul (K : PySem.W.Frag) (T : GrK K) (vs : List V) (H : Hp) (Q : VK) (E : XK) (h : sp_Ground_mul K vs H Q E) : t_m_Ground_mul K { nx := fun _ H' => Q .non H', rt := Q } (start ["self", "x", "y"] vs) H := by
  obtain ⟨G, g, p, x, y, v, w, n, m, rfl, hg, hp, hx, hy, dx, dy, lx, ly, hz, q⟩ := h
  unfold t_m_Ground_mul
  walk_at "tw"
  refine c_gpV rfl T hg ?_
  by_cases p0 : 0 < p
  · rw [grV_pos p0]
    obtain ⟨i, rfl, _⟩ := Nu.ok_r p0 hx
    obtain ⟨j, rfl, _⟩ := Nu.ok_r p0 hy
    cases Dx.int_inv dx
    cases Dx.int_inv dy
    walk_at "tw"
    refine c_mulI (mul_wide lx ly (by omega)) ?_
    walk_at "tw"
    refine c_gpV rfl T hg ?_
    rw [grV_pos p0]
    walk_at "tw"
    exact q _ _ (Ex.refl _) (.int _)
  · have p0 : p = 0 := by omega
    subst p0
    rw [grV_zero rfl]
    obtain ⟨a, rfl⟩ := Nu.ok_f rfl hx
    obtain ⟨b, rfl⟩ := Nu.ok_f rfl hy
    obtain ⟨va, rfl, ha⟩ := dx.frac_inv
    obtain ⟨vb, rfl, hb⟩ := dy.frac_inv
    obtain ⟨l1, l2⟩ := lx
    obtain ⟨k1, k2⟩ := ly
    walk_at "tw"
    refine c_gmV rfl hg ne_np ne_nl ?_
    walk_at "tw"
    refine c_mulI (mul_wide l1 k1 (by omega)) ?_
    walk_at "tw"
    refine c_mulI (mul_wide l2 k2 (by omega)) ?_
    walk_at "tw"
    refine ⟨G, g, _, _, rfl, hg, den_mul_pos a b, ?_, ?_⟩
    · rw [Int.natAbs_mul]
      exact Nat.lt_of_lt_of_le (lt_pow_mul l2 k2) (Nat.pow_le_pow_right (by decide) hz)
    · rw [← mul_frac]; exact q
end Tw
namespace Tw
open PySem PySem.Spec PyProof.Rows L2 Evl RZ
/-! ## zip, of two lists or two tuples -/
structure ZipJ (J : It) (xs ys : List V) (P : Hp → Prop) : Prop where
  go : ∀ i H, P H → i < xs.length → J.go i H
  stop : ∀ H, P H → J.stop xs.length H
  yld : ∀ i H v H', P H → i < xs.length → J.yld i H v H' → ∃ T x y, v = .ref T ∧ H T = none ∧ H' = upd H T (.tup [x, y]) ∧ xs[i]? = some x ∧ ys[i]? = some y
theorem zipJ_L {K : PySem.W.Frag} {a b : Addr} {xs ys : List V} (hl : xs.length = ys.length) : ZipJ (Itz K a b) xs ys fun H => SqL K H a xs ∧ SqL K H b ys where
  go := fun i H p hi => ⟨xs, ys, _, _, p.1, p.2, List.getElem?_eq_getElem hi, List.getElem?_eq_getElem (by omega)⟩
  stop := fun H p => ⟨xs, ys, p.1, p.2, .inl (Nat.le_refl _)⟩
  yld := fun i H v H' p hi y => by
    obtain ⟨T, x, z, e, hT, e2, f1, f2⟩ := y
    exact ⟨T, x, z, e, hT, e2, f1 _ p.1, f2 _ p.2⟩
theorem zipJ_T {K : PySem.W.Frag} {a b : Addr} {xs ys : List V} (hl : xs.length = ys.length) : ZipJ (ItzT K a b) xs ys fun H => SqT K H a xs ∧ SqT K H b ys where
  go := fun i H p hi => ⟨xs, ys, _, _, p.1, p.2, List.getElem?_eq_getElem hi, List.getElem?_eq_getElem (by omega)⟩
  stop := fun H p => ⟨xs, ys, p.1, p.2, .inl (Nat.le_refl _)⟩
  yld := fun i H v H' p hi y => by
    obtain ⟨T, x, z, e, hT, e2, f1, f2⟩ := y
    exact ⟨T, x, z, e, hT, e2, f1 _ p.1, f2 _ p.2⟩
theorem forZ {J : It} {xs ys : List V} {P : Hp → Prop} (Z : ZipJ J xs ys P) {g : TG} {tb : TS} {D : Ends} {σ : L2.St} {H : Hp} (Pv : Nat → L2.St → Hp → Prop) (h0 : Pv 0 σ H) (hq : ∀ i σ H, Pv i σ H → P H)
    (hs : ∀ (i : Nat) (x y : V) (A0 : Addr) (σ : L2.St) (H : Hp), xs[i]? = some x → ys[i]? = some y → Pv i σ H → H A0 = none → g (.ref A0) σ (upd H A0 (.tup [x, y])) fun σ2 H2 => tb { D with nx := Pv (i + 1), ct := Pv (i + 1), bk := D.nx } σ2 H2) (hd : ∀ σ H, Pv xs.length σ H → D.nx σ H) :
    ∃ Wz : Nat → Nat → L2.St → Hp → Prop, (∃ m, Wz 0 m σ H) ∧ ∀ i m σ H, Wz i m σ H →
      (J.stop i H ∧ D.nx σ H) ∨ (J.go i H ∧ ∃ N : L2.St → Hp → Prop, (∀ σ' H', N σ' H' → ∃ m', m' < m ∧ Wz (i + 1) m' σ' H') ∧ ∀ v H', J.yld i H v H' → g v σ H' fun σ2 H2 => tb { D with nx := N, ct := N, bk := D.nx } σ2 H2) := by
  refine ⟨fun i m σ H => m = xs.length - i ∧ i ≤ xs.length ∧ Pv i σ H, ⟨_, rfl, Nat.zero_le _, h0⟩, fun i m σ1 H1 hw => ?_⟩
  obtain ⟨rfl, hi, pv⟩ := hw
  have hp := hq i σ1 H1 pv
  rcases Nat.lt_or_ge i xs.length with lt | ge
  · refine .inr ⟨Z.go i H1 hp lt, Pv (i + 1), fun σ2 H2 p2 => ⟨xs.length - (i + 1), by omega, rfl, lt, p2⟩, fun v H2 yv => ?_⟩
    obtain ⟨T, x, y, rfl, hT, rfl, hx, hy⟩ := Z.yld i H1 v H2 hp lt yv
    exact hs i x y T σ1 H1 hx hy pv hT
  · obtain rfl : i = xs.length := Nat.le_antisymm hi ge
    exact .inl ⟨Z.stop H1 hp, hd σ1 H1 pv⟩
theorem lcZ {J : It} {xs ys : List V} {P : Hp → Prop} (Z : ZipJ J xs ys P) {g : TG} {tt : TT} {te : TE} {ws : List Nat} {σ : L2.St} {H1 : Hp} {L : Addr} {Qd : Hp → Prop} (Pv : Nat → Hp → Prop) (h0 : Pv 0 (upd H1 L (.lst []))) (hq : ∀ i H, Pv i H → P H)
    (hs : ∀ (i : Nat) (x y : V) (T : Addr) (H : Hp), xs[i]? = some x → ys[i]? = some y → Pv i H → H T = none → g (.ref T) (wipe σ ws) (upd H T (.tup [x, y])) fun σ2 H2 => wipe σ2 ws = wipe σ ws ∧ tt σ2 H2 fun b H3 =>
      if b = true then te σ2 H3 fun y H4 => ∃ acc, H4 L = some (.lst acc) ∧ acc.length < sizeLine ∧ Pv (i + 1) (upd H4 L (.lst (acc ++ [y]))) else Pv (i + 1) H3) (hd : ∀ H, Pv xs.length H → Qd H) :
    ∃ W : Nat → Nat → Hp → Prop, (∃ m, W 0 m (upd H1 L (.lst []))) ∧ ∀ i m H, W i m H →
      (J.stop i H ∧ Qd H) ∨ (J.go i H ∧ ∃ Nx : Hp → Prop, (∀ H', Nx H' → ∃ m', m' < m ∧ W (i + 1) m' H') ∧ ∀ x H', J.yld i H x H' → g x (wipe σ ws) H' fun σ2 H2 => wipe σ2 ws = wipe σ ws ∧ tt σ2 H2 fun b H3 =>
        if b = true then te σ2 H3 fun y H4 => ∃ acc, H4 L = some (.lst acc) ∧ acc.length < sizeLine ∧ Nx (upd H4 L (.lst (acc ++ [y]))) else Nx H3) := by
  refine ⟨fun i m H => m = xs.length - i ∧ i ≤ xs.length ∧ Pv i H, ⟨_, rfl, Nat.zero_le _, h0⟩, fun i m H2 hw => ?_⟩
  obtain ⟨rfl, hi, pv⟩ := hw
  have hp := hq i H2 pv
  rcases Nat.lt_or_ge i xs.length with lt | ge
  · refine .inr ⟨Z.go i H2 hp lt, Pv (i + 1), fun H3 p2 => ⟨xs.length - (i + 1), by omega, rfl, lt, p2⟩, fun v H3 yv => ?_⟩
    obtain ⟨T, x, y, rfl, hT, rfl, hx, hy⟩ := Z.yld i H2 v H3 hp lt yv
    exact hs i x y T H2 hx hy pv hT
  · obtain rfl : i = xs.length := Nat.le_antisymm hi ge
    exact .inl ⟨Z.stop H2 hp, hd H2 pv⟩
/-! ## dot -/
/-- a row: a list or a tuple of plain numbers -/
def RowAt (H : Hp) (v : V) (xs : List Nu) : Prop := Dx H v (.list (xs.map Nu.d)) ∨ Dx H v (.tuple (xs.map Nu.d))
theorem RowAt.mono {H H' : Hp} {v : V} {xs : List Nu} (h : RowAt H v xs) (e : Ex H H') : RowAt H' v xs := h.elim (fun h => .inl (h.mono e)) fun h => .inr (h.mono e)
def sp_dot (K : PySem.W.Frag) : Sp := fun vs H Q _ => ∃ (G : Hp) (g : Addr) (p : Int) (xs ys : List Nu) (v w : V), vs = [.ref g, v, w] ∧ Ex G H ∧ GrAt K H g p ∧ 0 ≤ p ∧
  ((Dx G v (.list (xs.map Nu.d)) ∧ Dx G w (.list (ys.map Nu.d))) ∨ (Dx G v (.tuple (xs.map Nu.d)) ∧ Dx G w (.tuple (ys.map Nu.d)))) ∧ xs.length = ys.length ∧ OkL p xs ∧ OkL p ys ∧ xs.length ≤ 200 ∧ p ≤ 10007 ∧ RetN (dotL p (ofInt p 0) (xs.zip ys)).d H Q
def t_f_dot (K : PySem.W.Frag) : TS :=
    (tSeq (tIfS (tTest (tOp uNotN (tFld K (tVar 0) "prime") (tC .non))) (tRet (tOp uMod (tCB (uSum K) (tCons (tLc (iZipA K (tCons (tVar 1) (tCons (tVar 2) tNil))) (gTup K 2 (gCons (gName 3) (gCons (gName 4) gNil))) tYes (tOp (uMul K) (tVar 3) (tVar 4)) [3, 4]) tNil)) (tFld K (tVar 0) "prime"))) tNext)
    (tSeq (tAsg (tTup (tCons (tC (.int 0)) (tCons (tC (.int 1)) tNil))) (gName 5))
    (tSeq (tFor (iZipA K (tCons (tVar 1) (tCons (tVar 2) tNil))) (gTup K 2 (gCons (gName 3) (gCons (gName 4) gNil))) (tIfS (tAnd (tTest (tOp (uNe K) (tOp (uIx K) (tVar 3) (tC (.int 0))) (tC (.int 0)))) (tTest (tOp (uNe K) (tOp (uIx K) (tVar 4) (tC (.int 0))) (tC (.int 0))))) (tAsg (tMeth (He.ga K "Ground") "add" (sp_Ground_add K) [] E0 (tVar 0) (tCons (tVar 5) (tCons (tMeth (He.ga K "Ground") "mul" (sp_Ground_mul K) [] E0 (tVar 0) (tCons (tVar 3) (tCons (tVar 4) tNil))) tNil))) (gName 5)) tNext))
    (tRet (tVar 5)))))
/-- over rests: the sum of the products, then one rest -/
def prodR : Nu × Nu → Int
  | (.r i, .r j) => i * j
  | _ => 0
theorem dotL_rests {p : Int} (hp : 0 < p) : ∀ (zs : List (Nu × Nu)) (a : Int), OkZ p zs → dotL p (.r (a % p)) zs = .r ((a + (zs.map prodR).sum) % p)
  | [], a, _ => by show Nu.r (a % p) = _; rw [List.map_nil, List.sum_nil, Int.add_zero]
  | (x, y) :: zs, a, h => by
    obtain ⟨⟨hx, _⟩, hy, _⟩ := h (x, y) List.mem_cons_self
    obtain ⟨i, rfl, _⟩ := Nu.ok_r hp hx
    obtain ⟨j, rfl, _⟩ := Nu.ok_r hp hy
    show dotL p (.r ((a % p + i * j % p) % p)) zs = _
    rw [← Int.add_emod, dotL_rests hp zs (a + i * j) fun z hz => h z (List.mem_cons_of_mem _ hz)]
    (rw [List.map_cons, List.sum_cons])
    show Nu.r ((a + i * j + _) % p) = Nu.r ((a + (i * j + _)) % p)
    rw [Int.add_assoc]
theorem c_neI0 {K : PySem.W.Frag} {H : Hp} {Q : VK} {i : Int} (q : Q (.bl (!decide (i = 0))) H) : uNe K (.int i) (.int 0) H Q := c_neI q
theorem dot0 {p : Int} {t x y : Nu} (hp : p = 0) (ht : t.ok p) (hx : x.ok p) (hy : y.ok p) (h : x = .f 0 ∨ y = .f 0) : Nu.add p t (Nu.mul p x y) = t := by
  obtain ⟨a, rfl⟩ := Nu.ok_f hp hx
  obtain ⟨b, rfl⟩ := Nu.ok_f hp hy
  obtain ⟨c, rfl⟩ := Nu.ok_f hp ht
  show Nu.f (c + a * b) = Nu.f c
  rcases h with e | e
  · cases e; rw [Rat.zero_mul, Rat.add_zero]
  · cases e; rw [Rat.mul_zero, Rat.add_zero]
theorem rat_num0 {q : Rat} (h : q.num = 0) : q = 0 := Rat.num_eq_zero.mp h
theorem ne_ap : ¬ (("add" : Str) = "prime") := by decide +kernel
theorem ne_al : ¬ (("add" : Str) = "line") := by decide +kernel
theorem ne_mp : ¬ (("mul" : Str) = "prime") := by decide +kernel
theorem ne_ml : ¬ (("mul" : Str) = "line") := by decide +kernel
/-- how the two rows are walked -/
theorem c_zipV {K : PySem.W.Frag} {G : Hp} {σ : L2.St} {m n : Nat} {v w : V} {xs ys : List Nu} (hm : σ[m]? = some (some v)) (hn : σ[n]? = some (some w)) (h : (Dx G v (.list (xs.map Nu.d)) ∧ Dx G w (.list (ys.map Nu.d))) ∨ (Dx G v (.tuple (xs.map Nu.d)) ∧ Dx G w (.tuple (ys.map Nu.d)))) (hl : xs.length = ys.length) {R : It → Hp → Prop} {H : Hp} (eH : Ex G H)
    (q : ∀ us ws J P, DxA G us (xs.map Nu.d) → DxA G ws (ys.map Nu.d) → ZipJ J us ws P → (∀ H', Ex G H' → P H') → R J H) : iZipA K (tCons (tVar m) (tCons (tVar n) tNil)) σ H R := by
  refine ⟨v, hm, w, hn, ?_⟩
  (rcases h with ⟨h1, h2⟩ | ⟨h1, h2⟩)
  · obtain ⟨a, us, rfl, ha, ru⟩ := h1.lst_inv
    obtain ⟨b, ws, rfl, hb, rw'⟩ := h2.lst_inv
    have l : us.length = ws.length := by rw [ru.length, rw'.length, List.length_map, List.length_map, hl]
    exact ⟨a, b, us, ws, rfl, .inl ⟨SqL.of (eH _ _ ha), SqL.of (eH _ _ hb), q us ws _ _ ru rw' (zipJ_L l) fun H' e => ⟨SqL.of (e _ _ ha), SqL.of (e _ _ hb)⟩⟩⟩
  · obtain ⟨a, us, rfl, ha, ru⟩ := h1.tup_inv
    obtain ⟨b, ws, rfl, hb, rw'⟩ := h2.tup_inv
    have l : us.length = ws.length := by rw [ru.length, rw'.length, List.length_map, List.length_map, hl]
    exact ⟨a, b, us, ws, rfl, .inr ⟨SqT.of (eH _ _ ha), SqT.of (eH _ _ hb), q us ws _ _ ru rw' (zipJ_T l) fun H' e => ⟨SqT.of (e _ _ ha), SqT.of (e _ _ hb)⟩⟩⟩
theorem DxA.nu {G : Hp} {us : List V} {xs : List Nu} {i : Nat} {u : V} (h : DxA G us (xs.map Nu.d)) (e : us[i]? = some u) : ∃ x, xs[i]? = some x ∧ x ∈ xs ∧ Dx G u x.d := by
  obtain ⟨d, h1, h2⟩ := h.get e
  rw [List.getElem?_map] at h1
  cases q : xs[i]? with
  | none => rw [q] at h1; cases h1
  | some x =>
    rw [q] at h1
    cases h1
    exact ⟨x, rfl, List.mem_of_getElem? q, h2⟩
theorem ofInt_zero_r {p : Int} (hp : 0 < p) : ofInt p 0 = .r (0 % p) := if_pos hp
theorem pure_dot (K : PySem.W.Frag) (T : GrK K) (vs : List V) (H : Hp) (Q : VK) (E : XK) (h : sp_dot K vs H Q E) : t_f_dot K { nx := fun _ H' => Q .non H', rt := Q } (start ["ground", "one", "other", "x", "y", "total"] vs) H := by
  obtain ⟨G, g, p, xs, ys, v, w, rfl, eG, hg, p0, hv, hl, ox, oy, hz, p1, q⟩ := h
  unfold t_f_dot
  have oz := OkZ.of ox oy
  walk_at "tw"
  refine c_gpV rfl T hg ?_
  by_cases hp : 0 < p
  · rw [grV_pos hp]
    walk_at "tw"
    refine c_zipV rfl rfl hv hl eG fun us ws J P ru rw' Z hP => ?_
    intro L hL
    have lu : us.length = xs.length := by rw [ru.length, List.length_map]
    refine lcZ Z (fun i H2 => Ex H H2 ∧ H2 L = some (.lst ((((xs.zip ys).take i).map prodR).map V.int))) ⟨Ex.new hL, upd_same⟩ (fun i H2 p2 => hP H2 fun z o k => p2.1 _ _ (eG _ _ k)) ?_ ?_
    · rintro i x y A H2 hx hy ⟨e2, h2⟩ hA
      obtain ⟨nx, ex, mx, dx⟩ := ru.nu hx
      obtain ⟨ny, ey, my, dy⟩ := rw'.nu hy
      obtain ⟨⟨kx, lx⟩, ky, ly⟩ := oz (nx, ny) (List.mem_of_getElem? (zip_get ex ey))
      obtain ⟨i1, rfl, i0, i2⟩ := Nu.ok_r hp kx
      obtain ⟨j1, rfl, j0, j2⟩ := Nu.ok_r hp ky
      cases dx.int_inv
      cases dy.int_inv
      walk_at "tw"
      refine ⟨rfl, ?_⟩
      walk_at "tw"
      have nL : L ≠ A := fun z => by rw [z] at h2; rw [hA] at h2; cases h2
      refine ⟨_, by walk_at "look", ?_, (e2.trans (Ex.new hA)).mut hL, ?_⟩
      · rw [List.length_map, List.length_map]
        exact sz_of_le (Nat.le_trans (List.length_take_le' _ _) (by rw [List.length_zip]; omega))
      · rw [take_succ (zip_get ex ey), List.map_append, List.map_append]
        exact upd_same
    · rintro H2 ⟨e2, h2⟩
      walk_at "tw"
      have ez : (xs.zip ys).take us.length = xs.zip ys := List.take_of_length_le (by rw [List.length_zip]; omega)
      rw [ez] at h2
      refine ⟨L, _, rfl, SqL.of h2, ?_⟩
      refine c_gpV rfl T (hg.ex e2) ?_
      rw [grV_pos hp]
      walk_at "tw"
      have fin := dotL_rests hp (xs.zip ys) 0 oz
      rw [← ofInt_zero_r hp, Int.zero_add] at fin
      rw [fin] at q
      exact q _ _ e2 (.int _)
  · have hp : p = 0 := by omega
    subst hp
    rw [grV_zero rfl]
    walk_at "tw"
    refine ⟨by show 2 ≤ sizeLine; decide, fun t0 ht0 => ?_⟩
    have e0 : Ex H (upd H t0 (.tup [.int 0, .int 1])) := Ex.new ht0
    walk_at "tw"
    refine c_zipV rfl rfl hv hl (eG.trans e0) fun us ws J P ru rw' Z hP => ?_
    have lu : us.length = xs.length := by rw [ru.length, List.length_map]
    have z0 : (ofInt 0 0) = Nu.f 0 := rfl
    have zk := ofInt_ok (p := 0) (k := 0) (by decide)
    refine forZ Z (fun i σ' H2 => ∃ (o3 o4 : Option V) (u : V), σ' = [some (.ref g), some v, some w, o3, o4, some u] ∧ Ex H H2 ∧ Dx (grow hp0 H H2) u (dotL 0 (ofInt 0 0) ((xs.zip ys).take i)).d) ⟨none, none, .ref t0, rfl, e0, Dx.frac (grow_new ht0 upd_same) rfl rfl⟩ (fun i σ' H2 ⟨_, _, _, _, e2, _⟩ => hP H2 (eG.trans e2)) ?_ ?_
    · rintro i x y A σ' H2 hx hy ⟨o3, o4, u, rfl, e2, d2⟩ hA
      obtain ⟨nx, ex, mx, dx⟩ := ru.nu hx
      obtain ⟨ny, ey, my, dy⟩ := rw'.nu hy
      have hzi := zip_get ex ey
      obtain ⟨⟨kx, lx⟩, ky, ly⟩ := oz (nx, ny) (List.mem_of_getElem? hzi)
      have okt := dotL_ok zk (zero_le1 0) ((xs.zip ys).take i) fun z hz => oz z (List.mem_of_mem_take hz)
      have kx' := kx
      have ky' := ky
      obtain ⟨qx, rfl⟩ := Nu.ok_f rfl kx'
      obtain ⟨qy, rfl⟩ := Nu.ok_f rfl ky'
      obtain ⟨vx, rfl, hvx⟩ := dx.frac_inv
      obtain ⟨vy, rfl, hvy⟩ := dy.frac_inv
      have e3 : Ex H (upd H2 A (.tup [.ref vx, .ref vy])) := e2.trans (Ex.new hA)
      have hvx' := e3 _ _ (eG _ _ hvx)
      have hvy' := e3 _ _ (eG _ _ hvy)
      have stay : (qx.num = 0 ∨ qy.num = 0) → ∃ (o3 o4 : Option V) (u' : V), [some (V.ref g), some v, some w, some (.ref vx), some (.ref vy), some u] = [some (.ref g), some v, some w, o3, o4, some u'] ∧ Ex H (upd H2 A (.tup [.ref vx, .ref vy])) ∧ Dx (grow hp0 H (upd H2 A (.tup [.ref vx, .ref vy]))) u' (dotL 0 (ofInt 0 0) ((xs.zip ys).take (i + 1))).d := fun hz0 => by
        refine ⟨_, _, u, rfl, e3, ?_⟩
        rw [take_succ hzi, dotL_append, dot0 rfl okt.1 kx ky (hz0.elim (fun z => .inl (by rw [rat_num0 z])) fun z => .inr (by rw [rat_num0 z]))]
        exact d2.mono (grow_mono (Ex.refl _) (Ex.new hA))
      walk_at "tw"
      refine c_ite (fun h1 => ?_) (fun h1 => ?_)
      · walk_at "tw"
        refine c_ite (fun h2 => ?_) (fun h2 => ?_)
        · walk_at "tw"
          refine c_gmV rfl (hg.ex e3) ne_ap ne_al ?_
          walk_at "tw"
          refine c_gmV rfl (hg.ex e3) ne_mp ne_ml ?_
          walk_at "tw"
          refine ⟨grow hp0 H (upd H2 A (.tup [.ref vx, .ref vy])), g, 0, _, _, _, _, 14, 14, rfl, hg.ex e3, by decide, kx, ky, Dx.frac hvx' rfl rfl, Dx.frac hvy' rfl rfl, lx, ly, by decide, fun m H4 e4 d4 => ?_⟩
          walk_at "tw"
          refine ⟨grow hp0 H H4, g, 0, _, _, u, m, _, 28, rfl, hg.ex (e3.trans e4), by decide, okt.1, Nu.mul_ok kx ky, d2.mono ?_, ?_, okt.2, Nu.mul_le kx ky lx ly, ?_, fun t H5 e5 d5 => ?_⟩
          · exact (grow_in (ex0 _)).trans ((Ex.new hA).trans e4)
          · rw [grow_ex2 e3 e4] at d4
            exact d4.mono (grow_in (ex0 _))
          · have : ((xs.zip ys).take i).length ≤ xs.length := Nat.le_trans (List.length_take_le' _ _) (by rw [List.length_zip]; omega)
            omega
          · walk_at "tw"
            refine ⟨_, _, t, rfl, e3.trans (e4.trans e5), ?_⟩
            rw [take_succ hzi, dotL_append]
            rw [grow_ex2 (e3.trans e4) e5] at d5
            exact d5
        · walk_at "tw"
          exact stay (.inr (by have := h2; simpa using this))
      · walk_at "tw"
        exact stay (.inl (by have := h1; simpa using this))
    · rintro σ' H2 ⟨o3, o4, u, rfl, e2, d2⟩
      walk_at "tw"
      have ez : (xs.zip ys).take us.length = xs.zip ys := List.take_of_length_le (by rw [List.length_zip]; omega)
      rw [ez] at d2
      exact q _ _ e2 d2
end Tw
namespace Tw
open PySem PySem.Spec PyProof.Rows L2 Evl RZ
/-! ## Words of digits, lines of grounds -/
def prB (n : Nat) : Bool := decide (3 ≤ n) && (decide (n % 2 = 1) && (List.range 10).all fun d => decide (d < 3) || decide (n % d ≠ 0) || decide (n < d * d))
def word (p : Int) : Str := (toString p : Str)
theorem words : ∀ p : Fin 100, 1 ≤ p.val → ((word (p.val : Int)).length ≤ 60 ∧ Txt.isascii (word (p.val : Int)) = true ∧ Txt.isdigit (word (p.val : Int)) = true ∧ Txt.startswith (word (p.val : Int)) "0" = false ∧ PySem.intText? (word (p.val : Int)) = some (p.val : Int)) := by decide +kernel
theorem lines_ : ∀ p : Fin 100, 1 ≤ p.val → ((("rests " : Str) ++ word (p.val : Int)).length ≤ 100 ∧ ¬ (("rests " : Str) ++ word (p.val : Int) = "fractions") ∧ Txt.startswith (("rests " : Str) ++ word (p.val : Int)) "rests " = true ∧ cutS (("rests " : Str) ++ word (p.val : Int)) (some 6) none = word (p.val : Int)) := by decide +kernel
structure WordOk (p : Int) : Prop where
  l : (word p).length ≤ 60
  a : Txt.isascii (word p) = true
  d : Txt.isdigit (word p) = true
  s : Txt.startswith (word p) "0" = false
  i : PySem.intText? (word p) = some p
theorem word_ok {p : Int} (h0 : 0 < p) (h1 : p < 100) : WordOk p := by
  have e : ((p.toNat : Nat) : Int) = p := by omega
  obtain ⟨a, b, c, d, f⟩ := words ⟨p.toNat, by omega⟩ (by show 1 ≤ p.toNat; omega)
  rw [show (((⟨p.toNat, by omega⟩ : Fin 100).val : Nat) : Int) = p from e] at a b c d f
  exact ⟨a, b, c, d, f⟩
structure LineOk (p : Int) : Prop where
  l : (("rests " : Str) ++ word p).length ≤ 100
  f : ¬ (("rests " : Str) ++ word p = "fractions")
  s : Txt.startswith (("rests " : Str) ++ word p) "rests " = true
  c : cutS (("rests " : Str) ++ word p) (some 6) none = word p
theorem line_ok {p : Int} (h0 : 0 < p) (h1 : p < 100) : LineOk p := by
  have e : ((p.toNat : Nat) : Int) = p := by omega
  obtain ⟨a, b, c, d⟩ := lines_ ⟨p.toNat, by omega⟩ (by show 1 ≤ p.toNat; omega)
  rw [show (((⟨p.toNat, by omega⟩ : Fin 100).val : Nat) : Int) = p from e] at a b c d
  exact ⟨a, b, c, d⟩
theorem sz1 {n : Nat} (h : n ≤ 100) : n ≤ sizeLine := Nat.le_trans h (by decide)
def sp_unsigned : Sp := fun vs H Q _ => ∃ p : Int, vs = [.str (word p), .int 60] ∧ 0 < p ∧ p < 100 ∧ Q (.int p) H
def t_f_unsigned (K : PySem.W.Frag) : TS :=
    (tSeq (tIfS (tOr (tTest (tOp (uGt K) (tCB (uLen K) (tCons (tVar 0) tNil)) (tVar 1))) (tOr (tNot (tB (tM0 rIsascii (tVar 0)))) (tNot (tB (tM0 rIsdigit (tVar 0)))))) (tRet (tC .non)) tNext)
    (tSeq (tIfS (tAnd (tB (tM1 rStarts (tVar 0) (tC (.str "0")))) (tTest (tOp (uGt K) (tCB (uLen K) (tCons (tVar 0) tNil)) (tC (.int 1))))) (tRet (tC .non)) tNext)
    (tRet (tCB (uInt) (tCons (tVar 0) tNil)))))
theorem pure_unsigned (K : PySem.W.Frag) (vs : List V) (H : Hp) (Q : VK) (E : XK) (h : sp_unsigned vs H Q E) : t_f_unsigned K { nx := fun _ H' => Q .non H', rt := Q } (start ["word", "most"] vs) H := by
  obtain ⟨p, rfl, p0, p1, q⟩ := h
  obtain ⟨hl, ha, hd, hs, hi⟩ := word_ok p0 p1
  unfold t_f_unsigned
  walk_at "tw"
  refine c_lenS (sz1 (by omega)) ?_
  walk_at "tw"
  rw [ha]
  walk_at "tw"
  rw [hd]
  walk_at "tw"
  rw [hs]
  walk_at "tw"
  exact c_intS hi (by omega) q
def sp_is_odd_prime : Sp := fun vs H Q _ => ∃ n : Int, vs = [.int n] ∧ 0 ≤ n ∧ n < 100 ∧ prB n.toNat = true ∧ Q (.bl true) H
def t_f_is_odd_prime (K : PySem.W.Frag) : TS :=
    (tSeq (tIfS (tOr (tTest (tOp (uLt K) (tVar 0) (tC (.int 3)))) (tTest (tOp (uEq K) (tOp uMod (tVar 0) (tC (.int 2))) (tC (.int 0))))) (tRet (tC (.bl false))) tNext)
    (tSeq (tAsg (tC (.int 3)) (gName 1))
    (tSeq (tWhile (tTest (tOp (uLe K) (tOp (uMul K) (tVar 1) (tVar 1)) (tVar 0))) (tSeq (tIfS (tTest (tOp (uEq K) (tOp uMod (tVar 0) (tVar 1)) (tC (.int 0)))) (tRet (tC (.bl false))) tNext)
    (tAug 1 (tC (.int 2)) (ipI fun i j => i + j))))
    (tRet (tC (.bl true))))))
theorem prB_no {n : Nat} (h : prB n = true) : 3 ≤ n ∧ n % 2 = 1 ∧ ∀ d, 3 ≤ d → d < 10 → d * d ≤ n → n % d ≠ 0 := by
  unfold prB at h
  simp only [Bool.and_eq_true, decide_eq_true_eq, List.all_eq_true, List.mem_range, Bool.or_eq_true] at h
  refine ⟨h.1, h.2.1, fun d d3 d10 dd => ?_⟩
  rcases h.2.2 d d10 with (z | z) | z
  · omega
  · exact z
  · omega
theorem pure_is_odd_prime (K : PySem.W.Frag) (vs : List V) (H : Hp) (Q : VK) (E : XK) (h : sp_is_odd_prime vs H Q E) : t_f_is_odd_prime K { nx := fun _ H' => Q .non H', rt := Q } (start ["number", "divisor"] vs) H := by
  obtain ⟨n, rfl, n0, n1, hp, q⟩ := h
  obtain ⟨h3, h2, hd⟩ := prB_no hp
  have hm : n % 2 = 1 := by omega
  unfold t_f_is_odd_prime
  walk_at "tw"
  refine ⟨fun m σ H' => ∃ d : Nat, σ = [some (.int n), some (.int (d : Int))] ∧ H' = H ∧ 3 ≤ d ∧ d ≤ 11 ∧ d + m = 12, ⟨9, 3, rfl, rfl, by decide, by decide, rfl⟩, ?_⟩
  rintro m σ H' ⟨d, rfl, rfl, d3, d11, dm⟩
  walk_at "tw"
  refine c_ite (fun hy => ?_) (fun hy => ?_)
  · have hy2 : (d : Int) * (d : Int) ≤ n := of_decide_eq_true hy
    have hy3 : d * d ≤ n.toNat := by
      have : ((d * d : Nat) : Int) ≤ n := by rw [Int.natCast_mul]; exact hy2
      omega
    have d10 : d < 10 := by
      rcases Nat.lt_or_ge d 10 with z | z
      · exact z
      · have : 10 * 10 ≤ d * d := Nat.mul_le_mul z z
        omega
    have hz := hd d d3 d10 hy3
    have hz2 : ¬ n % (d : Int) = 0 := fun z => hz (by
      have e : ((n.toNat % d : Nat) : Int) = n % (d : Int) := by rw [Int.natCast_emod, Int.toNat_of_nonneg n0]
      omega)
    refine ⟨_, fun _ _ z => z, ?_⟩
    walk_at "tw"
    refine ⟨_, rfl, ?_⟩
    walk_at "tw"
    refine ⟨_, _, rfl, rfl, ?_⟩
    exact ⟨m - 2, by omega, d + 2, rfl, rfl, by omega, by omega, by omega⟩
  · walk_at "tw"
    exact q
def sp_prime_of_line : Sp := fun vs H Q _ => ∃ p : Int, vs = [.str (lineOf p)] ∧ (p = 0 ∨ (0 ≤ p ∧ p < 100 ∧ prB p.toNat = true)) ∧ Q (grV p) H
def t_f_prime_of_line (K : PySem.W.Frag) : TS :=
    (tSeq (tIfS (tTest (tOp (uEq K) (tVar 0) (tC (.str "fractions")))) (tRet (tC .non)) tNext)
    (tSeq (tIfS (tNot (tB (tM1 rStarts (tVar 0) (tC (.str "rests "))))) tNever tNext)
    (tSeq (tAsg (tCall sp_unsigned [.int 60] E0 (tCons (tSl (uSl K) (tVar 0) (tPart (tC (.int 6))) tNoPart) tNil)) (gName 1))
    (tSeq (tIfS (tOr (tTest (tOp uIsN (tVar 1) (tC .non))) (tOr (tTest (tOp (uGt K) (tVar 1) (tC (.int 10007)))) (tNot (tB (tCall sp_is_odd_prime [] E0 (tCons (tVar 1) tNil)))))) tNever tNext)
    (tRet (tVar 1))))))
theorem lineOf_pos {p : Int} (h : 0 < p) : lineOf p = ("rests " : Str) ++ word p := if_pos h
theorem pure_prime_of_line (K : PySem.W.Frag) (vs : List V) (H : Hp) (Q : VK) (E : XK) (h : sp_prime_of_line vs H Q E) : t_f_prime_of_line K { nx := fun _ H' => Q .non H', rt := Q } (start ["line", "prime"] vs) H := by
  obtain ⟨p, rfl, hp, q⟩ := h
  unfold t_f_prime_of_line
  rcases hp with rfl | ⟨p0, p1, hp⟩
  · walk_at "tw"
    exact q
  · obtain ⟨h3, _, _⟩ := prB_no hp
    have p0' : 0 < p := by omega
    obtain ⟨hl, hf, hs, hc⟩ := line_ok p0' p1
    rw [lineOf_pos p0']
    walk_at "tw"
    rw [hs]
    walk_at "tw"
    refine c_slS (sz1 hl) ?_
    rw [hc]
    walk_at "tw"
    refine ⟨p, rfl, p0', p1, ?_⟩
    walk_at "tw"
    refine ⟨p, rfl, p0, p1, hp, ?_⟩
    walk_at "tw"
    rw [grV_pos p0'] at q
    exact q
def sp_Ground_init (K : PySem.W.Frag) : Sp := fun vs H Q _ => ∃ (g dx : Addr) (p : Int), vs = [.ref g, .str (lineOf p)] ∧ (p = 0 ∨ (0 ≤ p ∧ p < 100 ∧ prB p.toNat = true)) ∧ H g = some (.ins (He.ga K "Ground") dx []) ∧ Q .non (upd H g (.ins (He.ga K "Ground") dx (grF p)))
def t_m_Ground_init (K : PySem.W.Frag) : TS :=
    (tSeq (sFld K (tVar 0) (tVar 1) "line")
    (sFld K (tVar 0) (tCall sp_prime_of_line [] E0 (tCons (tVar 1) tNil)) "prime"))
theorem pure_ginit (K : PySem.W.Frag) (T : GrK K) (vs : List V) (H : Hp) (Q : VK) (E : XK) (h : sp_Ground_init K vs H Q E) : t_m_Ground_init K { nx := fun _ H' => Q .non H', rt := Q } (start ["self", "line"] vs) H := by
  obtain ⟨g, dx, p, rfl, hp, hg, q⟩ := h
  unfold t_m_Ground_init
  walk_at "tw"
  refine ⟨g, _, dx, [], rfl, hg, T.cl, T.nL, by show 0 < 1000; decide, ?_⟩
  walk_at "tw"
  refine ⟨p, rfl, hp, ?_⟩
  walk_at "tw"
  refine ⟨g, _, dx, _, rfl, upd_same, T.cl, T.nP, by show 1 < 1000; decide, ?_⟩
  rw [upd_upd]
  exact q
end Tw
namespace Tw
open PySem PySem.Spec PyProof.Rows L2 Evl RZ
/-! ## The error, long_row -/
structure TmK (K : PySem.W.Frag) : Prop where
  ox : OexC K (He.ga K "TooMany")
  nC : PySem.W.findIn K (.ref (He.ga K "TooMany")) "code" = some none
  nW : PySem.W.findIn K (.ref (He.ga K "TooMany")) "what" = some none
  nN : PySem.W.findIn K (.ref (He.ga K "TooMany")) "count" = some none
def tmF (w : Str) (n : Int) : List (Str × V) := [("count", .int n), ("what", .str w), ("code", .str "TooMany")]
def sp_TooMany_init (K : PySem.W.Frag) : Sp := fun vs H Q _ => ∃ (a : Addr) (w : Str) (n : Int), vs = [.ref a, .str w, .int n] ∧ H a = some (exo a (He.ga K "TooMany") none) ∧
  ∀ d H', H d = none → H' a = some (exo a (He.ga K "TooMany") (some d)) → H' d = some (exd d (tmF w n)) → (∀ b o, b ≠ a → H b = some o → H' b = some o) → Q .non H'
def t_m_TooMany_init (K : PySem.W.Frag) : TS :=
    (tSeq (tOst K "code" (tVar 0) (tC (.str "TooMany")))
    (tSeq (tOst K "what" (tVar 0) (tVar 1))
    (tOst K "count" (tVar 0) (tVar 2))))
theorem pure_tminit (K : PySem.W.Frag) (T : TmK K) (vs : List V) (H : Hp) (Q : VK) (E : XK) (h : sp_TooMany_init K vs H Q E) : t_m_TooMany_init K { nx := fun _ H' => Q .non H', rt := Q } (start ["self", "what", "count"] vs) H := by
  obtain ⟨a, w, n, rfl, ha, q⟩ := h
  unfold t_m_TooMany_init
  refine c_seq ?_
  refine ⟨_, rfl, a, _, rfl, T.ox, T.nC, .inl ⟨ha, fun d hd nd => ?_⟩⟩
  refine c_seq ?_
  refine c_seq ?_
  refine ⟨_, rfl, _, rfl, a, _, rfl, T.ox, T.nW, .inr ⟨d, [("code", .str "TooMany")], upd_same, ?_, by show 1 ≤ 900; decide, ?_⟩⟩
  · rw [upd_ne nd]; exact upd_same
  refine ⟨_, rfl, _, rfl, a, _, rfl, T.ox, T.nN, .inr ⟨d, [("what", .str w), ("code", .str "TooMany")], ?_, ?_, by show 2 ≤ 900; decide, ?_⟩⟩
  · rw [upd_ne nd.symm]; exact upd_same
  · exact upd_same
  refine q d _ hd ?_ upd_same fun b o nb e => ?_
  · rw [upd_ne nd.symm, upd_ne nd.symm]; exact upd_same
  · have nbd : b ≠ d := ne_of_none e hd
    rw [upd_ne nbd, upd_ne nbd, upd_ne nb, upd_ne nbd]
    exact e
/-- a TooMany(window, n) leaves -/
def Tm (K : PySem.W.Frag) (n : Int) (H : Hp) (E : XK) : Prop := ∀ d H', Ex H H' → H d = none → H' d = some (.xd (tmF "window" n)) → E (.ref (He.ga K "TooMany")) (some d) H'
theorem c_rzTm {K : PySem.W.Frag} {σ : L2.St} {H : Hp} {D : Ends} {E : XK} {i : Nat} {n : Int} (hs : σ[i]? = some (some (.int n))) (k : Tm K n H E) : tRz (He.ga K "TooMany") (sp_TooMany_init K) E (tCons (tC (.str "window")) (tCons (tVar i) tNil)) D σ H := by
  refine ⟨_, hs, by show 2 ≤ 1000; decide, fun a ha => ⟨a, "window", n, rfl, upd_same, fun d H' hd ea ed old => ⟨rfl, d, _, ea, ed, ?_, ?_⟩⟩⟩
  · cases q : H d with
    | none => rfl
    | some o =>
      have : d ≠ a := fun z => by rw [z, ha] at q; cases q
      rw [upd_ne this, q] at hd
      cases hd
  · have hd0 : H d = none := by
      cases q : H d with
      | none => rfl
      | some o =>
        have : d ≠ a := fun z => by rw [z, ha] at q; cases q
        rw [upd_ne this, q] at hd
        cases hd
    refine k d _ (fun b o e => ?_) hd0 upd_same
    have nb : b ≠ a := ne_of_none e ha
    rw [upd_ne (ne_of_none e hd0), del_ne nb]
    exact old b o nb (by rw [upd_ne nb]; exact e)
def sp_check_lengths (K : PySem.W.Frag) : Sp := fun vs H Q E => ∃ i j : Int, vs = [.int i, .int j] ∧ (i ≤ 6 → j ≤ 6 → Q .non H) ∧ (6 < i → Tm K i H E) ∧ (i ≤ 6 → 6 < j → Tm K j H E)
def t_f_check_lengths (K : PySem.W.Frag) (E : XK) : TS :=
    (tSeq (tIfS (tTest (tOp (uGt K) (tVar 0) (tC (.int 6)))) (tRz (He.ga K "TooMany") (sp_TooMany_init K) E (tCons (tC (.str "window")) (tCons (tVar 0) tNil))) tNext)
    (tIfS (tTest (tOp (uGt K) (tVar 1) (tC (.int 6)))) (tRz (He.ga K "TooMany") (sp_TooMany_init K) E (tCons (tC (.str "window")) (tCons (tVar 1) tNil))) tNext))
theorem pure_check (K : PySem.W.Frag) (vs : List V) (H : Hp) (Q : VK) (E : XK) (h : sp_check_lengths K vs H Q E) : t_f_check_lengths K E { nx := fun _ H' => Q .non H', rt := Q } (start ["first", "second"] vs) H := by
  obtain ⟨i, j, rfl, q, e1, e2⟩ := h
  unfold t_f_check_lengths
  walk_at "tw"
  refine c_ite (fun h1 => ?_) (fun h1 => ?_)
  · exact c_rzTm rfl (e1 (of_decide_eq_true h1))
  · have h1' : i ≤ 6 := by have := of_decide_eq_false h1; omega
    walk_at "tw"
    refine c_ite (fun h2 => ?_) (fun h2 => ?_)
    · exact c_rzTm rfl (e2 h1' (of_decide_eq_true h2))
    · have h2' : j ≤ 6 := by have := of_decide_eq_false h2; omega
      walk_at "tw"
      exact q h1' h2'
/-- two rows of one kind -/
def Rows2 (G : Hp) (v w : V) (xs ts : List Nu) : Prop := (Dx G v (.list (xs.map Nu.d)) ∧ Dx G w (.list (ts.map Nu.d))) ∨ (Dx G v (.tuple (xs.map Nu.d)) ∧ Dx G w (.tuple (ts.map Nu.d)))
theorem Rows2.mono {G G' : Hp} {v w : V} {xs ts : List Nu} (h : Rows2 G v w xs ts) (e : Ex G G') : Rows2 G' v w xs ts := h.elim (fun h => .inl ⟨h.1.mono e, h.2.mono e⟩) fun h => .inr ⟨h.1.mono e, h.2.mono e⟩
/-- how many windows of so many answers -/
def windowsN (n many : Nat) : Int := ((n : Int) + (many : Int) - 1) / (many : Int)
def longD (p : Int) (xs ts : List Nu) (many : Nat) : PyData := .tuple [rowD (sumsL p xs ts), .int (windowsN (manyN xs.length ts.length) many * ((many : Int) + (ts.length : Int) - 1))]
def sp_long_row (K : PySem.W.Frag) : Sp := fun vs H Q E => ∃ (g : Addr) (p : Int) (xs ts : List Nu) (v w : V) (many : Nat), vs = [.ref g, v, w, .int (many : Int)] ∧ GrAt K H g p ∧ 0 ≤ p ∧ p ≤ 10007 ∧ Rows2 H v w xs ts ∧ OkL p xs ∧ OkL p ts ∧ xs.length ≤ 10000 ∧ ts.length ≤ 200 ∧ 1 ≤ many ∧ many ≤ 10000 ∧
  (many ≤ 6 → ts.length ≤ 6 → RetN (longD p xs ts many) H Q) ∧ (6 < many → Tm K many H E) ∧ (many ≤ 6 → 6 < ts.length → Tm K ts.length H E)
def t_f_long_row (K : PySem.W.Frag) (E : XK) : TS :=
    (tSeq (tDrop (tCall (sp_check_lengths K) [] E (tCons (tVar 3) (tCons (tCB (uLen K) (tCons (tVar 2) tNil)) tNil))))
    (tSeq (tAsg (tCB (uMax K) (tCons (tC (.int 0)) (tCons (tOp (uAdd K) (tOp uSub (tCB (uLen K) (tCons (tVar 1) tNil)) (tCB (uLen K) (tCons (tVar 2) tNil))) (tC (.int 1))) tNil))) (gName 4))
    (tSeq (tAsg (tLc (iRng1 (tCons (tVar 4) tNil)) (gName 7) tYes (tCall (sp_dot K) [] E0 (tCons (tVar 0) (tCons (tSl (uSl K) (tVar 1) (tPart (tVar 7)) (tPart (tOp (uAdd K) (tVar 7) (tCB (uLen K) (tCons (tVar 2) tNil))))) (tCons (tVar 2) tNil)))) [7]) (gName 5))
    (tSeq (tAsg (tOp uFdiv (tOp uSub (tOp (uAdd K) (tVar 4) (tVar 3)) (tC (.int 1))) (tVar 3)) (gName 6))
    (tRet (tTup (tCons (tVar 5) (tCons (tOp (uMul K) (tVar 6) (tOp uSub (tOp (uAdd K) (tVar 3) (tCB (uLen K) (tCons (tVar 2) tNil))) (tC (.int 1)))) tNil))))))))
theorem c_max2 {K : PySem.W.Frag} {H : Hp} {Q : VK} {i j : Int} (q : Q (.int (if j > i then j else i)) H) : uMax K [.int i, .int j] H Q := .inl ⟨i, j, rfl, q⟩
theorem zip_take : ∀ (l : List Nu) (ts : List Nu), (l.take ts.length).zip ts = l.zip ts
  | [], ts => by simp
  | x :: l, [] => by simp
  | x :: l, y :: ts => by
    rw [List.length_cons, List.take_succ_cons, List.zip_cons_cons, List.zip_cons_cons, zip_take l ts]
theorem cut_at (us : List V) {i n : Nat} (h : i + n ≤ us.length) : cutV us (some (i : Int)) (some ((i : Int) + (n : Int))) = (us.drop i).take n := by
  unfold cutV
  have e : (i : Int) + (n : Int) = ((i + n : Nat) : Int) := by omega
  rw [e, HT.sIx_nat, HT.sIx_nat, Nat.min_eq_left h, Nat.min_eq_left (show i ≤ us.length by omega), Nat.add_sub_cancel_left]
theorem c_slR {K : PySem.W.Frag} {H : Hp} {v w : V} {xs ts : List Nu} {i : Nat} {Q : VK} (h : Rows2 H v w xs ts) (hi : i + ts.length ≤ xs.length) (q : ∀ v' H2, Ex H H2 → Rows2 H2 v' w ((xs.drop i).take ts.length) ts → Q v' H2) : uSl K v (some (i : Int)) (some ((i : Int) + (ts.length : Int))) H Q := by
  (rcases h with ⟨h1, h2⟩ | ⟨h1, h2⟩)
  · obtain ⟨a, us, rfl, ha, ru⟩ := h1.lst_inv
    have lu : us.length = xs.length := by rw [ru.length, List.length_map]
    refine c_slL (SqL.of ha) fun l hl => ?_
    rw [cut_at us (by omega)]
    refine q _ _ (Ex.new hl) (.inl ⟨.lst upd_same ?_, h2.mono (Ex.new hl)⟩)
    (rw [List.map_take, List.map_drop])
    exact ((ru.drop i).take ts.length).mono (Ex.new hl)
  · obtain ⟨a, us, rfl, ha, ru⟩ := h1.tup_inv
    have lu : us.length = xs.length := by rw [ru.length, List.length_map]
    refine c_slT ha fun t H2 e2 h2' _ => ?_
    rw [cut_at us (by omega)] at h2'
    refine q _ _ e2 (.inr ⟨.tup h2' ?_, h2.mono e2⟩)
    (rw [List.map_take, List.map_drop])
    exact ((ru.drop i).take ts.length).mono e2
theorem OkL.take {p : Int} {xs : List Nu} (n : Nat) (h : OkL p xs) : OkL p (xs.take n) := fun x hx => h x (List.mem_of_mem_take hx)
theorem Rows2.len {K : PySem.W.Frag} {H : Hp} {v w : V} {xs ts : List Nu} (h : Rows2 H v w xs ts) : ∃ a b : Addr, ∃ us ws : List V, v = .ref a ∧ w = .ref b ∧ us.length = xs.length ∧ ws.length = ts.length ∧ ∀ H', Ex H H' → (SqL K H' a us ∨ SqT K H' a us) ∧ (SqL K H' b ws ∨ SqT K H' b ws) := by
  (rcases h with ⟨h1, h2⟩ | ⟨h1, h2⟩)
  · obtain ⟨a, us, rfl, ha, ru⟩ := h1.lst_inv
    obtain ⟨b, ws, rfl, hb, rw'⟩ := h2.lst_inv
    exact ⟨a, b, us, ws, rfl, rfl, by rw [ru.length, List.length_map], by rw [rw'.length, List.length_map], fun H' e => ⟨.inl (SqL.of (e _ _ ha)), .inl (SqL.of (e _ _ hb))⟩⟩
  · obtain ⟨a, us, rfl, ha, ru⟩ := h1.tup_inv
    obtain ⟨b, ws, rfl, hb, rw'⟩ := h2.tup_inv
    exact ⟨a, b, us, ws, rfl, rfl, by rw [ru.length, List.length_map], by rw [rw'.length, List.length_map], fun H' e => ⟨.inr (SqT.of (e _ _ ha)), .inr (SqT.of (e _ _ hb))⟩⟩
theorem c_lenX {K : PySem.W.Frag} {H : Hp} {Q : VK} {p : Addr} {xs : List V} {n : Nat} (h : SqL K H p xs ∨ SqT K H p xs) (hn : xs.length = n) (q : Q (.int (n : Int)) H) : uLen K [.ref p] H Q := .inl ⟨p, xs, rfl, h, by rw [hn]; exact q⟩
theorem grow0_back {G H2 H3 H4 : Hp} (e : Ex H2 H3) : Ex (grow hp0 H3 H4) (grow G H2 H4) := fun z o k => by
  cases q : H3 z with
  | some u => rw [grow_old q] at k; cases k
  | none =>
    unfold grow at k
    rw [q] at k
    exact grow_new (fresh_back e q) k
theorem pure_long_row (K : PySem.W.Frag) (T : GrK K) (vs : List V) (H : Hp) (Q : VK) (E : XK) (h : sp_long_row K vs H Q E) : t_f_long_row K E { nx := fun _ H' => Q .non H', rt := Q } (start ["ground", "row", "taps", "answers", "many", "told", "windows", "i"] vs) H := by
  obtain ⟨g, p, xs, ts, v, w, many, rfl, hg, p0, p1, hr, ox, ot, lx, lt, m1, m2, q, e1, e2⟩ := h
  obtain ⟨a, b, us, ws, rfl, rfl, lu, lw, st⟩ := hr.len (K := K)
  unfold t_f_long_row
  walk_at "tw"
  refine c_lenX (st H (Ex.refl _)).2 lw ?_
  walk_at "tw"
  refine ⟨_, _, rfl, fun a6 b6 => ?_, fun z => e1 (by omega), fun y z => e2 (by omega) (by omega)⟩
  have q := q (by omega) (by omega)
  walk_at "tw"
  refine c_lenX (st H (Ex.refl _)).1 lu ?_
  walk_at "tw"
  refine c_lenX (st H (Ex.refl _)).2 lw ?_
  walk_at "tw"
  refine c_max2 ?_
  have em : (if (xs.length : Int) - (ts.length : Int) + 1 > 0 then (xs.length : Int) - (ts.length : Int) + 1 else 0) = ((manyN xs.length ts.length : Nat) : Int) := by
    unfold manyN
    split <;> omega
  rw [em]
  walk_at "tw"
  refine ⟨_, rfl, by omega, by unfold manyN; omega, fun L hL => ?_⟩
  have hn : ((manyN xs.length ts.length : Nat) : Int).toNat = manyN xs.length ts.length := by omega
  rw [hn]
  refine lc_range (lo := 0) (n := manyN xs.length ts.length) (fun i H2 => ∃ ys, BldP L hp0 H H2 ys (((sumsL p xs ts).map Nu.d).take i)) ⟨[], BldP.start hL⟩ ?_ ?_
  · rintro i H2 hi ⟨ys, B⟩
    have hi2 : i + ts.length ≤ xs.length := by unfold manyN at hi; omega
    rw [zero_add_nat]
    refine ⟨rfl, ?_⟩
    walk_at "tw"
    refine c_lenX (st H2 B.ex).2 lw ?_
    walk_at "tw"
    refine c_slR (hr.mono B.ex) hi2 fun v' H3 e3 hr3 => ?_
    walk_at "tw"
    have lz : ((xs.drop i).take ts.length).length = ts.length := by rw [List.length_take, List.length_drop]; omega
    refine ⟨H3, g, p, _, ts, v', _, rfl, Ex.refl _, (hg.ex B.ex).ex e3, p0, hr3, lz, (ox.drop i).take ts.length, ot, by omega, p1, fun u H4 e4 d4 => ?_⟩
    rw [zip_take] at d4
    have hs : ((sumsL p xs ts).map Nu.d)[i]? = some (sumAt p xs ts i).d := by
      unfold sumsL
      rw [List.map_map, List.getElem?_map, List.getElem?_range hi]
      rfl
    have hul : ys.length ≤ 10001 := by
      rw [B.len]
      refine Nat.le_trans (List.length_take_le' _ _) ?_
      unfold sumsL manyN
      (simp only [List.length_map, List.length_range])
      omega
    refine ⟨ys, (e3.trans e4) _ _ B.at_, sz_of_le (by omega), ys ++ [u], ?_⟩
    rw [take_succ hs]
    exact B.step (ex0 H) (e3.trans e4) (d4.mono (grow0_back e3))
  · rintro H2 ⟨ys, B⟩
    have ez : (((sumsL p xs ts).map Nu.d).take (manyN xs.length ts.length)) = (sumsL p xs ts).map Nu.d := List.take_of_length_le (by unfold sumsL; simp)
    rw [ez] at B
    walk_at "tw"
    refine c_fdivI (divW (by omega) (by omega)) ?_
    walk_at "tw"
    refine c_lenX (st H2 B.ex).2 lw ?_
    walk_at "tw"
    refine ⟨by show 2 ≤ sizeLine; decide, fun t ht => ?_⟩
    have e3 : Ex H2 (upd H2 t (.tup [V.ref L, V.int ((((manyN xs.length ts.length : Nat) : Int) + (many : Int) - 1) / (many : Int) * ((many : Int) + (ts.length : Int) - 1))])) := Ex.new ht
    exact q _ _ (B.ex.trans e3) (.tup (grow_new (fresh_back B.ex ht) upd_same) (.cons ((B.done (ex0 H)).mono (grow_mono (Ex.refl _) e3)) (.cons (.int _) .nil)))
end Tw
namespace Tw
open PySem PySem.Spec PyProof.Rows L2 Evl RZ
/-! ### _law_fault, of a TooMany -/
def err1 : List Str := ["BadGround", "BadNumber", "BadTable", "BadName"]
def err2 : List Str := ["BadProgram", "BadFormula", "BadScript", "Broken"]
def err3 : List Str := ["Unlike", "NotRight", "NotLeast", "NotLow"]
def err4 : List Str := ["BadPoints", "TooMany", "NoSuch", "Stops"]
def err5 : List Str := ["Enough", "Endless", "NothingLeft"]
def errL : List Str := (((err1 ++ err2) ++ err3) ++ err4) ++ err5
structure FtK (K : PySem.W.Frag) : Prop where
  exc : ExcC K (He.ga K "TooMany")
  kit : ∀ x ∈ errL, PySem.W.kitOne K (.ref (He.ga K "TooMany")) (.ref (He.ga K x)) = some (decide (x = "TooMany"))
def faultD (n : Int) : PyData := .list [.str "fault", .str "Refused", .list [.str "TooMany"], .list [.str "window", .int n], .str "TooMany"]
def sp__law_fault (K : PySem.W.Frag) : SpH := fun a c d vs H Q _ => ∃ (dd : Addr) (n : Int), vs = [.ref a, .str "Refused"] ∧ c = .ref (He.ga K "TooMany") ∧ d = some dd ∧ H dd = some (.xd (tmF "window" n)) ∧ RetN (faultD n) H Q
def t_f_law_fault (K : PySem.W.Frag) (a : Addr) (cls : Value) (d : Option Addr) : TS :=
    (tSeq (tAsg (tLst (tCons (tTup (tCons (tC (.str "BadGround")) (tCons (tCB (rIsP K a cls d) (tCons (tVar 0) (tCons (tC (.ref (He.ga K "BadGround"))) tNil))) tNil))) (tCons (tTup (tCons (tC (.str "BadNumber")) (tCons (tCB (rIsP K a cls d) (tCons (tVar 0) (tCons (tC (.ref (He.ga K "BadNumber"))) tNil))) tNil))) (tCons (tTup (tCons (tC (.str "BadTable")) (tCons (tCB (rIsP K a cls d) (tCons (tVar 0) (tCons (tC (.ref (He.ga K "BadTable"))) tNil))) tNil))) (tCons (tTup (tCons (tC (.str "BadName")) (tCons (tCB (rIsP K a cls d) (tCons (tVar 0) (tCons (tC (.ref (He.ga K "BadName"))) tNil))) tNil))) tNil))))) (gName 2))
    (tSeq (tAsg (tOp (uAdd K) (tVar 2) (tLst (tCons (tTup (tCons (tC (.str "BadProgram")) (tCons (tCB (rIsP K a cls d) (tCons (tVar 0) (tCons (tC (.ref (He.ga K "BadProgram"))) tNil))) tNil))) (tCons (tTup (tCons (tC (.str "BadFormula")) (tCons (tCB (rIsP K a cls d) (tCons (tVar 0) (tCons (tC (.ref (He.ga K "BadFormula"))) tNil))) tNil))) (tCons (tTup (tCons (tC (.str "BadScript")) (tCons (tCB (rIsP K a cls d) (tCons (tVar 0) (tCons (tC (.ref (He.ga K "BadScript"))) tNil))) tNil))) (tCons (tTup (tCons (tC (.str "Broken")) (tCons (tCB (rIsP K a cls d) (tCons (tVar 0) (tCons (tC (.ref (He.ga K "Broken"))) tNil))) tNil))) tNil)))))) (gName 2))
    (tSeq (tAsg (tOp (uAdd K) (tVar 2) (tLst (tCons (tTup (tCons (tC (.str "Unlike")) (tCons (tCB (rIsP K a cls d) (tCons (tVar 0) (tCons (tC (.ref (He.ga K "Unlike"))) tNil))) tNil))) (tCons (tTup (tCons (tC (.str "NotRight")) (tCons (tCB (rIsP K a cls d) (tCons (tVar 0) (tCons (tC (.ref (He.ga K "NotRight"))) tNil))) tNil))) (tCons (tTup (tCons (tC (.str "NotLeast")) (tCons (tCB (rIsP K a cls d) (tCons (tVar 0) (tCons (tC (.ref (He.ga K "NotLeast"))) tNil))) tNil))) (tCons (tTup (tCons (tC (.str "NotLow")) (tCons (tCB (rIsP K a cls d) (tCons (tVar 0) (tCons (tC (.ref (He.ga K "NotLow"))) tNil))) tNil))) tNil)))))) (gName 2))
    (tSeq (tAsg (tOp (uAdd K) (tVar 2) (tLst (tCons (tTup (tCons (tC (.str "BadPoints")) (tCons (tCB (rIsP K a cls d) (tCons (tVar 0) (tCons (tC (.ref (He.ga K "BadPoints"))) tNil))) tNil))) (tCons (tTup (tCons (tC (.str "TooMany")) (tCons (tCB (rIsP K a cls d) (tCons (tVar 0) (tCons (tC (.ref (He.ga K "TooMany"))) tNil))) tNil))) (tCons (tTup (tCons (tC (.str "NoSuch")) (tCons (tCB (rIsP K a cls d) (tCons (tVar 0) (tCons (tC (.ref (He.ga K "NoSuch"))) tNil))) tNil))) (tCons (tTup (tCons (tC (.str "Stops")) (tCons (tCB (rIsP K a cls d) (tCons (tVar 0) (tCons (tC (.ref (He.ga K "Stops"))) tNil))) tNil))) tNil)))))) (gName 2))
    (tSeq (tAsg (tOp (uAdd K) (tVar 2) (tLst (tCons (tTup (tCons (tC (.str "Enough")) (tCons (tCB (rIsP K a cls d) (tCons (tVar 0) (tCons (tC (.ref (He.ga K "Enough"))) tNil))) tNil))) (tCons (tTup (tCons (tC (.str "Endless")) (tCons (tCB (rIsP K a cls d) (tCons (tVar 0) (tCons (tC (.ref (He.ga K "Endless"))) tNil))) tNil))) (tCons (tTup (tCons (tC (.str "NothingLeft")) (tCons (tCB (rIsP K a cls d) (tCons (tVar 0) (tCons (tC (.ref (He.ga K "NothingLeft"))) tNil))) tNil))) tNil))))) (gName 2))
    (tSeq (tAsg (tLc (iList K (tVar 2)) (gName 6) (tTru K (tOp (uIx K) (tVar 6) (tC (.int 1)))) (tOp (uIx K) (tVar 6) (tC (.int 0))) [6]) (gName 3))
    (tSeq (tIfS (tTest (tOp (uNe K) (tCB (uLen K) (tCons (tVar 3) tNil)) (tC (.int 1)))) (tRet (tLst (tCons (tC (.str "fault")) (tCons (tVar 1) (tCons (tVar 3) (tCons (tLst tNil) (tCons (tC (.str "")) tNil))))))) tNext)
    (tSeq (tAsg (tOp (uIx K) (tVar 3) (tC (.int 0))) (gName 4))
    (tSeq (tAsg (tIf (tTest (tOp (uEq K) (tVar 4) (tC (.str "TooMany")))) (tLst (tCons (tXf a cls d (He.ga K "TooMany") "what" (tVar 0)) (tCons (tXf a cls d (He.ga K "TooMany") "count" (tVar 0)) tNil))) (tIf (tTest (tOp (uEq K) (tVar 4) (tC (.str "Unlike")))) (tLst (tCons (tXf a cls d (He.ga K "TooMany") "what" (tVar 0)) tNil)) (tIf (tTest (tOp (uEq K) (tVar 4) (tC (.str "NoSuch")))) (tLst (tCons (tXf a cls d (He.ga K "TooMany") "name" (tVar 0)) tNil)) (tIf (tTest (tOp (uEq K) (tVar 4) (tC (.str "Stops")))) (tLst (tCons (tXf a cls d (He.ga K "TooMany") "line" (tVar 0)) tNil)) (tLst tNil))))) (gName 5))
    (tSeq (tAsg (tIf (tTest (tOp (uIn K) (tVar 4) (tLst (tCons (tC (.str "NotRight")) (tCons (tC (.str "BadNumber")) (tCons (tC (.str "BadFormula")) tNil)))))) (tLst (tCons (tXf a cls d (He.ga K "TooMany") "at" (tVar 0)) tNil)) (tIf (tTest (tOp (uIn K) (tVar 4) (tLst (tCons (tC (.str "BadTable")) (tCons (tC (.str "BadProgram")) (tCons (tC (.str "BadName")) (tCons (tC (.str "BadScript")) tNil))))))) (tLst (tCons (tXf a cls d (He.ga K "TooMany") "line" (tVar 0)) tNil)) (tVar 5))) (gName 5))
    (tSeq (tAsg (tIf (tTest (tOp (uIn K) (tVar 4) (tLst (tCons (tC (.str "NotLeast")) (tCons (tC (.str "BadPoints")) tNil))))) (tLst (tCons (tXf a cls d (He.ga K "TooMany") "why" (tVar 0)) tNil)) (tIf (tTest (tOp (uEq K) (tVar 4) (tC (.str "NotLow")))) (tLst (tCons (tXf a cls d (He.ga K "TooMany") "place" (tVar 0)) tNil)) (tIf (tTest (tOp (uEq K) (tVar 4) (tC (.str "Enough")))) (tLst (tCons (tXf a cls d (He.ga K "TooMany") "cost" (tVar 0)) tNil)) (tVar 5)))) (gName 5))
    (tSeq (tAsg (tIf (tTest (tOp (uEq K) (tVar 4) (tC (.str "Broken")))) (tLst (tCons (tXf a cls d (He.ga K "TooMany") "condition" (tVar 0)) (tCons (tXf a cls d (He.ga K "TooMany") "where" (tVar 0)) tNil))) (tVar 5)) (gName 5))
    (tCut (tIfS (tTest (tOp (uIn K) (tVar 4) (tLst (tCons (tC (.str "BadGround")) (tCons (tC (.str "BadNumber")) (tCons (tC (.str "BadTable")) (tCons (tC (.str "BadProgram")) (tCons (tC (.str "BadName")) (tCons (tC (.str "BadFormula")) (tCons (tC (.str "BadScript")) tNil)))))))))) (tDrop (tBM K "list" rAppend (tVar 5) (tCons (tAndV (tCB (uIsi K) (tCons (tXf a cls d (He.ga K "TooMany") "why" (tVar 0)) (tCons (tC (.ty "str")) tNil))) (tOp (uNe K) (tXf a cls d (He.ga K "TooMany") "why" (tVar 0)) (tC (.str "")))) tNil))) tNext)
    (tRet (tLst (tCons (tC (.str "fault")) (tCons (tVar 1) (tCons (tVar 3) (tCons (tVar 5) (tCons (tXf a cls d (He.ga K "TooMany") "code" (tVar 0)) tNil))))))))))))))))))))
def tIs (K : PySem.W.Frag) (a : Addr) (c : Value) (d : Option Addr) : List Str → TA
  | [] => tNil
  | x :: xs => tCons (tTup (tCons (tC (.str x)) (tCons (tCB (rIsP K a c d) (tCons (tVar 0) (tCons (tC (.ref (He.ga K x))) tNil))) tNil))) (tIs K a c d xs)
/-- a row of the table: the class's name, whether e is of it -/
def RowE (H : Hp) (v : V) (x : Str) : Prop := ∃ t, v = .ref t ∧ H t = some (.tup [.str x, .bl (decide (x = "TooMany"))])
theorem rows_mono {H H' : Hp} (e : Ex H H') : ∀ {rs : List V} {xs : List Str}, Paired (RowE H) rs xs → Paired (RowE H') rs xs
  | _, _, .nil => .nil
  | _, _, .cons ⟨t, h1, h2⟩ r => .cons ⟨t, h1, e _ _ h2⟩ (rows_mono e r)
theorem rows_app {H : Hp} : ∀ {rs ss : List V} {xs ys : List Str}, Paired (RowE H) rs xs → Paired (RowE H) ss ys → Paired (RowE H) (rs ++ ss) (xs ++ ys)
  | _, _, _, _, .nil, r => r
  | _, _, _, _, .cons h r, r2 => .cons h (rows_app r r2)
theorem rows_get {H : Hp} : ∀ {rs : List V} {xs : List Str} {i : Nat} {v : V}, Paired (RowE H) rs xs → rs[i]? = some v → ∃ x, xs[i]? = some x ∧ RowE H v x
  | _, _, 0, _, .cons h _, e => ⟨_, rfl, by cases e; exact h⟩
  | _, _, i + 1, _, .cons _ r, e => by
    rw [List.getElem?_cons_succ] at e ⊢
    exact rows_get r e
theorem c_is {K : PySem.W.Frag} {σ : L2.St} {a dd : Addr} {fs : List (Str × V)} (T : FtK K) (h0 : σ[0]? = some (some (.ref a))) : ∀ (xs : List Str) {H : Hp} {QA : List V → Hp → Prop}, (∀ x ∈ xs, x ∈ errL) → H dd = some (.xd fs) →
    (∀ rs H2, Ex H H2 → Paired (RowE H2) rs xs → QA rs H2) → tIs K a (.ref (He.ga K "TooMany")) (some dd) xs σ H QA
  | [], H, QA, _, _, q => q [] H (Ex.refl _) .nil
  | x :: xs, H, QA, hx, hd, q => by
    refine c_cons (c_tup (c_cons (c_c (c_cons (c_cb (c_cons (c_var h0 (c_cons (c_c (c_nil ?_))))))))))
    refine ⟨.ref (He.ga K x), .ref (He.ga K x), _, _, dd, fs, rfl, rfl, rfl, hd, T.exc, fun u r => r, T.kit x (hx x List.mem_cons_self), c_nil ⟨by show 2 ≤ sizeLine; decide, fun p hp => ?_⟩⟩
    have e1 : Ex H (upd H p (.tup [.str x, .bl (decide (x = "TooMany"))])) := Ex.new hp
    exact c_is T h0 xs (fun y hy => hx y (List.mem_cons_of_mem _ hy)) (e1 _ _ hd) fun rs H2 e2 r => q _ _ (e1.trans e2) (.cons ⟨p, rfl, e2 _ _ upd_same⟩ r)
def RowsAt (H : Hp) (l : Addr) (xs : List Str) : Prop := ∃ rs, H l = some (.lst rs) ∧ Paired (RowE H) rs xs
theorem c_rows0 {K : PySem.W.Frag} {σ : L2.St} {a dd : Addr} {fs : List (Str × V)} {H : Hp} {Q : VK} (T : FtK K) (h0 : σ[0]? = some (some (.ref a))) (hd : H dd = some (.xd fs)) (xs : List Str) (hx : ∀ x ∈ xs, x ∈ errL) (hl : xs.length ≤ 10)
    (q : ∀ l H2, Ex H H2 → RowsAt H2 l xs → Q (.ref l) H2) : tLst (tIs K a (.ref (He.ga K "TooMany")) (some dd) xs) σ H Q := by
  refine c_lst (c_is T h0 xs hx hd fun rs H2 e2 r => ⟨?_, fun l fl => ?_⟩)
  · rw [r.length]
    exact Nat.le_of_lt (sz_of_le (Nat.le_trans hl (by decide)))
  · exact q l _ (e2.trans (Ex.new fl)) ⟨rs, upd_same, rows_mono (Ex.new fl) r⟩
theorem c_rowsN {K : PySem.W.Frag} {σ : L2.St} {a dd l : Addr} {fs : List (Str × V)} {H : Hp} {Q : VK} {xs : List Str} (T : FtK K) (h0 : σ[0]? = some (some (.ref a))) (h2 : σ[2]? = some (some (.ref l))) (hd : H dd = some (.xd fs)) (R : RowsAt H l xs) (hz : xs.length ≤ 100) (ys : List Str)
    (hy : ∀ x ∈ ys, x ∈ errL) (hl : ys.length ≤ 10) (q : ∀ l2 H2, Ex H H2 → RowsAt H2 l2 (xs ++ ys) → Q (.ref l2) H2) : tOp (uAdd K) (tVar 2) (tLst (tIs K a (.ref (He.ga K "TooMany")) (some dd) ys)) σ H Q := by
  refine c_op (c_var h2 (c_rows0 T h0 hd ys hy hl fun m H2 e2 R2 => ?_))
  obtain ⟨rs, h3, r3⟩ := R
  obtain ⟨ss, h4, r4⟩ := R2
  refine .inr (.inr (.inl ⟨l, m, rs, ss, rfl, rfl, e2 _ _ h3, h4, ?_, fun p fp => ?_⟩))
  · rw [r3.length, r4.length]
    exact Nat.le_of_lt (sz_of_le (Nat.le_trans (Nat.add_le_add hz hl) (by decide)))
  · exact q p _ (e2.trans (Ex.new fp)) ⟨_, upd_same, rows_app (rows_mono (e2.trans (Ex.new fp)) r3) (rows_mono (Ex.new fp) r4)⟩
def hits (i : Nat) : List V := ((errL.take i).filter fun x : Str => decide (x = ("TooMany" : Str))).map V.str
theorem c_xf {K : PySem.W.Frag} {σ : L2.St} {H : Hp} {Q : VK} {a dd : Addr} {f : Str} {fs : List (Str × V)} {v : V} (h0 : σ[0]? = some (some (.ref a))) (hd : H dd = some (.xd fs)) (l : fs.lookup f = some v) (q : Q v H) :
    tXf a (.ref (He.ga K "TooMany")) (some dd) (He.ga K "TooMany") f (tVar 0) σ H Q := ⟨_, h0, rfl, rfl, dd, fs, v, rfl, hd, l, q⟩
theorem c_hits {K : PySem.W.Frag} {σ : L2.St} {H : Hp} {l : Addr} {Q : VK} (hs : 6 < σ.length) (h2 : σ[2]? = some (some (.ref l))) (R : RowsAt H l errL) (q : ∀ L H2, Ex H H2 → H L = none → H2 L = some (.lst [.str "TooMany"]) → Q (.ref L) H2) :
    tLc (iList K (tVar 2)) (gName 6) (tTru K (tOp (uIx K) (tVar 6) (tC (.int 1)))) (tOp (uIx K) (tVar 6) (tC (.int 0))) [6] σ H Q := by
  obtain ⟨rs, hl, r⟩ := R
  refine c_lc (c_iList (c_var h2 ⟨l, rfl, ⟨rs, SqL.of hl⟩, fun L hL => ?_⟩))
  refine lc_list (K := K) (xs := rs) (fun i H2 => Ex H H2 ∧ H2 L = some (.lst (hits i))) ⟨Ex.new hL, upd_same⟩ (fun i H2 _ p => SqL.of (p.1 _ _ hl)) ?_ ?_
  · rintro i x H2 hi ⟨e2, at2⟩
    obtain ⟨y, hy, t, rfl, ht⟩ := rows_get r hi
    have ht2 := e2 _ _ ht
    have s6 : ((wipe σ [6]).set 6 (some (V.ref t)))[6]? = some (some (V.ref t)) := List.getElem?_set_self (by rw [wipe_length]; exact hs)
    have hs1 : hits (i + 1) = hits i ++ (if decide (y = "TooMany") = true then [V.str y] else []) := by
      unfold hits
      rw [take_succ hy, List.filter_append, List.map_append]
      by_cases z : y = "TooMany"
      · subst z; rfl
      · rw [if_neg (by rw [decide_eq_false z]; decide)]
        congr 1
        rw [List.filter_cons_of_neg (by rw [decide_eq_false z]; decide)]
        rfl
    have hlen : (hits i).length < sizeLine := by
      unfold hits
      rw [List.length_map]
      refine Nat.lt_of_le_of_lt (Nat.le_trans (List.length_filter_le _ _) (List.length_take_le' _ _)) ?_
      decide
    refine c_name ⟨by show ((σ.set 6 none).set 6 (some (V.ref t))).set 6 none = σ.set 6 none; rw [List.set_set, List.set_set], ?_⟩
    refine c_op (c_var s6 (c_c (c_ixT (SqT.of ht2) rfl ⟨_, rfl, ?_⟩)))
    cases z : decide (y = "TooMany") with
    | true =>
      rw [if_pos rfl]
      refine c_op (c_var s6 (c_c (c_ixT (SqT.of ht2) rfl ⟨_, at2, hlen, e2.mut hL, ?_⟩)))
      rw [hs1, z, if_pos rfl]
      exact upd_same
    | false =>
      (rw [if_neg Bool.false_ne_true])
      refine ⟨e2, ?_⟩
      rw [hs1, z, if_neg Bool.false_ne_true, List.append_nil]
      exact at2
  · rintro H2 ⟨e2, at2⟩
    rw [r.length] at at2
    exact q L H2 e2 hL (by rw [at2]; rfl)
theorem pure_fault (K : PySem.W.Frag) (T : FtK K) (a : Addr) (c : Value) (d : Option Addr) (vs : List V) (H : Hp) (Q : VK) (E : XK) (h : sp__law_fault K a c d vs H Q E) : t_f_law_fault K a c d { nx := fun _ H' => Q .non H', rt := Q } (start ["e", "base", "rows", "names", "name", "fields", "one"] vs) H := by
  obtain ⟨dd, n, rfl, rfl, rfl, hd, q⟩ := h
  unfold t_f_law_fault
  refine c_seq (c_asg ?_)
  refine c_rows0 T (by exact rfl) hd err1 (by decide +kernel) (by decide) fun l1 H1 e1 R1 => ?_
  with_reducible refine c_name ?_
  with_reducible refine c_seq ?_
  with_reducible refine c_asg ?_
  refine c_rowsN T (by exact rfl) (by exact rfl) (e1 _ _ hd) R1 (by decide) err2 (by decide +kernel) (by decide) fun l2 H2 e2 R2 => ?_
  with_reducible refine c_name ?_
  with_reducible refine c_seq ?_
  with_reducible refine c_asg ?_
  refine c_rowsN T (by exact rfl) (by exact rfl) ((e1.trans e2) _ _ hd) R2 (by decide) err3 (by decide +kernel) (by decide) fun l3 H3 e3 R3 => ?_
  with_reducible refine c_name ?_
  with_reducible refine c_seq ?_
  with_reducible refine c_asg ?_
  refine c_rowsN T (by exact rfl) (by exact rfl) (((e1.trans e2).trans e3) _ _ hd) R3 (by decide) err4 (by decide +kernel) (by decide) fun l4 H4 e4 R4 => ?_
  with_reducible refine c_name ?_
  with_reducible refine c_seq ?_
  with_reducible refine c_asg ?_
  refine c_rowsN T (by exact rfl) (by exact rfl) ((((e1.trans e2).trans e3).trans e4) _ _ hd) R4 (by decide) err5 (by decide +kernel) (by decide) fun l5 H5 e5 R5 => ?_
  with_reducible refine c_name ?_
  with_reducible refine c_seq ?_
  with_reducible refine c_asg ?_
  refine c_hits (by show 6 < 7; decide) (by exact rfl) R5 fun L H6 e6 nL atL => ?_
  have eT : Ex H H6 := ((((e1.trans e2).trans e3).trans e4).trans e5).trans e6
  have nL0 : H L = none := fresh_back ((((e1.trans e2).trans e3).trans e4).trans e5) nL
  have hd6 := eT _ _ hd
  walk_at "tw"
  refine c_xf (by exact rfl) hd6 rfl ?_
  walk_at "tw"
  refine c_xf (by exact rfl) hd6 rfl ?_
  walk_at "tw"
  refine ⟨by show 2 ≤ sizeLine; decide, fun m hm => ?_⟩
  walk_at "tw"
  refine ⟨by show 3 ≤ sizeLine; decide, fun m1 hm1 => ?_⟩
  refine c_inL upd_same rfl rfl ?_
  walk_at "tw"
  refine ⟨by show 4 ≤ sizeLine; decide, fun m2 hm2 => ?_⟩
  refine c_inL upd_same rfl rfl ?_
  walk_at "tw"
  refine ⟨by show 2 ≤ sizeLine; decide, fun m3 hm3 => ?_⟩
  refine c_inL upd_same rfl rfl ?_
  walk_at "tw"
  refine c_cut (fun σ' H' => (σ'[0]? = some (some (.ref a)) ∧ σ'[1]? = some (some (.str "Refused")) ∧ σ'[3]? = some (some (.ref L)) ∧ σ'[5]? = some (some (.ref m))) ∧ Ex H6 H' ∧ H' m = some (.lst [.str "window", .int n])) ?_ ?_
  · walk_at "tw"
    refine ⟨by show 7 ≤ sizeLine; decide, fun m4 hm4 => ?_⟩
    refine c_inL upd_same rfl rfl ?_
    walk_at "tw"
    exact ⟨⟨rfl, rfl, rfl, rfl⟩, ((((Ex.new hm).trans (Ex.new hm1)).trans (Ex.new hm2)).trans (Ex.new hm3)).trans (Ex.new hm4), (Ex.new hm4) _ _ ((Ex.new hm3) _ _ ((Ex.new hm2) _ _ ((Ex.new hm1) _ _ upd_same)))⟩
  · rintro σ7 H7 ⟨⟨s0, s1, s3, s5⟩, e7, at7⟩
    have hd7 := e7 _ _ hd6
    have mL : m ≠ L := fun z => by rw [z, atL] at hm; cases hm
    have nm : H m = none := fresh_back eT hm
    with_reducible refine c_ret ?_
    with_reducible refine c_lst ?_
    refine c_cons (c_c (c_cons (c_var s1 (c_cons (c_var s3 (c_cons (c_var s5 (c_cons (c_xf s0 hd7 rfl (c_nil ?_))))))))))
    refine ⟨by show 5 ≤ sizeLine; decide, fun r hr => ?_⟩
    have e8 := (eT.trans e7).trans (Ex.new (o := .lst [.str "fault", .str "Refused", .ref L, .ref m, .str "TooMany"]) hr)
    have nr : H r = none := fresh_back (eT.trans e7) hr
    refine q _ _ e8 (.lst (grow_new nr upd_same) (.cons (.str _) (.cons (.str _) (.cons (.lst (grow_new nL0 ((Ex.new hr) _ _ (e7 _ _ atL))) (.cons (.str _) .nil)) (.cons (.lst (grow_new nm ((Ex.new hr) _ _ at7)) (.cons (.str _) (.cons (.int _) .nil))) (.cons (.str _) .nil))))))
end Tw
namespace Tw
open PySem PySem.Spec PyProof.Rows L2 Evl RZ
/-! ### _law_asked -/
def PrOk (p : Int) : Prop := p = 0 ∨ (0 ≤ p ∧ p < 100 ∧ prB p.toNat = true)
theorem PrOk.pos {p : Int} (h : PrOk p) : 0 ≤ p ∧ p < 100 := by
  rcases h with h | h <;> omega
abbrev sp__law_copied : Sp := spC 4
abbrev sp__law_same : Sp := spS 4
def sp__law_asked (K : PySem.W.Frag) : Sp := fun vs H Q _ => ∃ (p : Int) (xs ts : List Nu) (v w : V) (many : Nat), vs = [.int p, v, w, .int (many : Int)] ∧ PrOk p ∧ Rows2 H v w xs ts ∧ OkL p xs ∧ OkL p ts ∧ xs.length ≤ 10000 ∧ ts.length ≤ 200 ∧ 1 ≤ many ∧ many ≤ 10000 ∧
  (many ≤ 6 → ts.length ≤ 6 → RetN (longD p xs ts many) H Q) ∧ (6 < many → RetN (faultD many) H Q) ∧ (many ≤ 6 → 6 < ts.length → RetN (faultD ts.length) H Q)
def t_f_law_asked (K : PySem.W.Frag) : TS :=
    (tSeq (tAsg (tCall sp__law_copied [] E0 (tCons (tLst (tCons (tVar 1) (tCons (tVar 2) tNil))) tNil)) (gName 4))
    (tSeq (tTry K (.ref (He.ga K "Refused")) 6 (fun W => (tAsg (tCallKS (sp_long_row K) (kwG 3 1) (L2.WE W) (tCons (tMake (He.ga K "Ground") (sp_Ground_init K) [] E0 (tCons (tCall sp__law_line [] E0 (tCons (tVar 0) tNil)) tNil)) (tCons (tVar 1) (tCons (tVar 2) tNil))) (tCons (tVar 3) tNil)) (gName 5))) (fun a cls d => tRet (tCallP a cls d (sp__law_fault K) (tCons (tVar 6) (tCons (tC (.str "Refused")) tNil)))))
    (tRet (tIf (tB (tCall sp__law_same [] E0 (tCons (tLst (tCons (tVar 1) (tCons (tVar 2) tNil))) (tCons (tVar 4) tNil)))) (tVar 5) (tC .non)))))
theorem RetN.back {d : PyData} {H H1 : Hp} {Q : VK} (q : RetN d H Q) (e : Ex H H1) : RetN d H1 Q := fun v H2 e2 h => q v H2 (e.trans e2) (h.mono (grow0_back e))
theorem Nu.dep (x : Nu) : Dep 1 x.d := by
  cases x with
  | r i => exact trivial
  | f q => exact ⟨by show 2 ≤ 30000; decide, fun d hd => by
      (rcases List.mem_cons.mp hd with rfl | hd)
      · exact trivial
      · (rcases List.mem_cons.mp hd with rfl | hd)
        · exact trivial
        · cases hd⟩
theorem Nu.deps (xs : List Nu) : ∀ d ∈ xs.map Nu.d, Dep 1 d := fun d hd => by
  obtain ⟨x, _, rfl⟩ := List.mem_map.mp hd
  exact x.dep
theorem Rows2.data {H : Hp} {v w : V} {xs ts : List Nu} (h : Rows2 H v w xs ts) (lx : xs.length ≤ 10000) (lt : ts.length ≤ 200) : ∃ dv dw, Dx H v dv ∧ Dx H w dw ∧ Dep 3 (.list [dv, dw]) := by
  have two : ∀ {dv dw : PyData}, Dep 2 dv → Dep 2 dw → Dep 3 (.list [dv, dw]) := fun {dv dw} h1 h2 => ⟨by show 2 ≤ 30000; decide, fun d hd => by
    (rcases List.mem_cons.mp hd with rfl | hd)
    · exact h1
    · (rcases List.mem_cons.mp hd with rfl | hd)
      · exact h2
      · cases hd⟩
  (rcases h with ⟨h1, h2⟩ | ⟨h1, h2⟩)
  · exact ⟨_, _, h1, h2, two ⟨by rw [List.length_map]; omega, Nu.deps xs⟩ ⟨by rw [List.length_map]; omega, Nu.deps ts⟩⟩
  · exact ⟨_, _, h1, h2, two ⟨by rw [List.length_map]; omega, Nu.deps xs⟩ ⟨by rw [List.length_map]; omega, Nu.deps ts⟩⟩
theorem c_try {K : PySem.W.Frag} {c : Value} {i : Nat} {tb : WX → TS} {ts : Addr → Value → Option Addr → TS} {D : Ends} {σ : L2.St} {H : Hp} (h : tb (wAs K c i ts (fun _ _ _ _ => False) D) D σ H) : tTry K c i tb ts D σ H := h
theorem c_callKS {sp : Sp} {gV : List V → List V → List V} {E : L2.St → XK} {t tk : TA} {σ : L2.St} {H : Hp} {Q : VK} (h : t σ H fun vs H1 => tk σ H1 fun zs H2 => sp (gV vs zs) H2 Q (E σ)) : tCallKS sp gV E t tk σ H Q := h
theorem c_callP {a : Addr} {c : Value} {d : Option Addr} {sp : SpH} {t : TA} {σ : L2.St} {H : Hp} {Q : VK} (h : t σ H fun vs H1 => sp a c d vs H1 Q E0) : tCallP a c d sp t σ H Q := h
structure AskK (K : PySem.W.Frag) : Prop where
  exm : PySem.W.exmOne K (.ref (He.ga K "TooMany")) (.ref (He.ga K "Refused")) = some true
theorem c_bad {K : PySem.W.Frag} (T : AskK K) {n : Int} {σ : L2.St} {D : Ends} {H H3 : Hp} (q : RetN (faultD n) H D.rt) (e : Ex H H3) (hs : 6 < σ.length) :
    Tm K n H3 (L2.WE (wAs K (.ref (He.ga K "Refused")) 6 (fun a cls d => tRet (tCallP a cls d (sp__law_fault K) (tCons (tVar 6) (tCons (tC (.str "Refused")) tNil)))) (fun _ _ _ _ => False) D) σ) := by
  intro d H4 e4 nd atd
  refine ⟨true, T.exm, fun _ a ha => ?_, fun z => by cases z⟩
  with_reducible refine c_ret ?_
  refine c_callP (c_cons (c_var (List.getElem?_set_self hs) (c_cons (c_c (c_nil ?_)))))
  exact ⟨d, n, rfl, rfl, rfl, atd, q.back (e.trans e4)⟩
theorem pure_asked (K : PySem.W.Frag) (T : AskK K) (vs : List V) (H : Hp) (Q : VK) (E : XK) (h : sp__law_asked K vs H Q E) : t_f_law_asked K { nx := fun _ H' => Q .non H', rt := Q } (start ["p", "row", "taps", "many", "kept", "told", "e"] vs) H := by
  obtain ⟨p, xs, ts, v, w, many, rfl, hp, hr, ox, ot, lx, lt, m1, m2, q, q1, q2⟩ := h
  obtain ⟨p0, p1⟩ := hp.pos
  obtain ⟨dv, dw, hv, hw, hdep⟩ := hr.data lx lt
  unfold t_f_law_asked
  walk_at "tw"
  refine ⟨by show 2 ≤ sizeLine; decide, fun l fl => ?_⟩
  have e1 : Ex H (upd H l (.lst [v, w])) := Ex.new fl
  refine ⟨.ref l, .list [dv, dw], rfl, .lst upd_same (.cons (hv.mono e1) (.cons (hw.mono e1) .nil)), hdep, fun kc H2 e2 hk => ?_⟩
  have hk2 : Dx H2 kc (.list [dv, dw]) := hk.mono (grow_in (ex0 _))
  have eT := e1.trans e2
  walk_at "tw"
  refine c_try ?_
  walk_at "tw"
  refine c_callKS ?_
  walk_at "tw"
  refine ⟨p, rfl, p0, p1, ?_⟩
  walk_at "tw"
  intro g dx hg hdx ndx
  refine ⟨g, dx, p, rfl, hp, upd_same, rfl, ?_⟩
  have eg : Ex H2 (upd (upd (upd H2 dx (.own g)) g (.ins (He.ga K "Ground") dx [])) g (.ins (He.ga K "Ground") dx (grF p))) := ((Ex.new hdx).mut hg).mut hg
  walk_at "tw"
  refine ⟨g, p, xs, ts, v, w, many, rfl, ⟨dx, upd_same⟩, p0, by omega, hr.mono (eT.trans eg), ox, ot, lx, lt, m1, m2, fun a6 b6 u H4 e4 d4 => ?_, fun a6 => c_bad T (q1 a6) (eT.trans eg) (by show 6 < 7; decide), fun a6 b6 => c_bad T (q2 a6 b6) (eT.trans eg) (by show 6 < 7; decide)⟩
  have e5 := (eT.trans eg).trans e4
  walk_at "tw"
  refine ⟨by show 2 ≤ sizeLine; decide, fun m fm => ?_⟩
  have e6 := e5.trans (Ex.new (o := .lst [v, w]) fm)
  walk_at "tw"
  refine ⟨.ref m, kc, .list [dv, dw], rfl, .lst upd_same (.cons (hv.mono e6) (.cons (hw.mono e6) .nil)), hk2.mono ((eg.trans e4).trans (Ex.new fm)), hdep, fun H6 e7 => ?_⟩
  walk_at "tw"
  exact q a6 b6 u H6 (e6.trans e7) ((d4.mono (grow0_back (eT.trans eg))).mono (grow_mono (ex0 _) ((Ex.new fm).trans e7)))
end Tw
namespace Tw
open PySem PySem.Spec PyProof.Rows L2 Evl RZ
/-! ### law -/
/-- where the law stands: its bag, its data (of a heap G without the bag) -/
structure LawI (b L : Addr) (G H : Hp) : Prop where
  bag : BagAt b L H
  ex : Ex G H
  nb : G b = none
theorem LawI.at_b {b L : Addr} {G H : Hp} (I : LawI b L G H) : ∃ o, H b = some o := I.bag.some
theorem LawI.draw {b L : Addr} {G H H' : Hp} (I : LawI b L G H) (x : ExB b H H') (hb : BagAt b L H') : LawI b L G H' :=
  ⟨hb, fun a o h => x a o (fun z => by rw [z, I.nb] at h; cases h) (I.ex a o h), I.nb⟩
theorem LawI.mono {b L : Addr} {G H H' : Hp} (I : LawI b L G H) (e : Ex H H') : LawI b L G H' := I.draw (ExB.of e) (I.bag.ex e)
theorem LawI.fresh {b L : Addr} {G H : Hp} (I : LawI b L G H) {l : Addr} (h : H l = none) : l ≠ b := fun z => by
  obtain ⟨o, e⟩ := I.at_b
  rw [z, e] at h; cases h
theorem LawI.grows {b L : Addr} {G H H' : Hp} (I : LawI b L G H) (x : ExB b H H') (hb : BagAt b L H') : LawI b L (grow G H H') H' := by
  refine ⟨hb, fun a o h => ?_, ?_⟩
  · cases q : H a with
    | some u =>
      rw [grow_old q] at h
      exact x a o (fun z => by rw [z, I.nb] at h; cases h) (I.ex a o h)
    | none =>
      unfold grow at h
      rw [q] at h
      exact h
  · obtain ⟨o, e⟩ := I.at_b
    rw [grow_old e]
    exact I.nb
theorem LawI.growsE {b L : Addr} {G H H' : Hp} (I : LawI b L G H) (e : Ex H H') : LawI b L (grow G H H') H' := I.grows (ExB.of e) (I.bag.ex e)
theorem grow_hp0 (G H H' : Hp) : Ex (grow hp0 H H') (grow G H H') := grow_mono (ex0 _) (Ex.refl _)
theorem primes_of {j : Nat} {v : V} (h : [V.int 0, V.int 0, V.int 3, V.int 5, V.int 7, V.int 13, V.int 31][j]? = some v) : ∃ p : Int, v = .int p ∧ PrOk p := by
  match j, h with
  | 0, h => cases h; exact ⟨0, rfl, .inl rfl⟩
  | 1, h => cases h; exact ⟨0, rfl, .inl rfl⟩
  | 2, h => cases h; exact ⟨3, rfl, .inr (by decide)⟩
  | 3, h => cases h; exact ⟨5, rfl, .inr (by decide)⟩
  | 4, h => cases h; exact ⟨7, rfl, .inr (by decide)⟩
  | 5, h => cases h; exact ⟨13, rfl, .inr (by decide)⟩
  | 6, h => cases h; exact ⟨31, rfl, .inr (by decide)⟩
  | n + 7, h => cases h
theorem sizes_of {j : Nat} {v : V} (h : [V.int 5, V.int 9, V.int 17, V.int 41][j]? = some v) : ∃ z : Int, v = .int z ∧ 0 < z ∧ z ≤ 41 := by
  match j, h with
  | 0, h => cases h; exact ⟨5, rfl, by decide, by decide⟩
  | 1, h => cases h; exact ⟨9, rfl, by decide, by decide⟩
  | 2, h => cases h; exact ⟨17, rfl, by decide, by decide⟩
  | 3, h => cases h; exact ⟨41, rfl, by decide, by decide⟩
  | n + 4, h => cases h
theorem rg_fin : ∀ j : Fin 64, ∀ c : Fin 7, 1 ≤ c.val → ((c.val : Int) ≠ 0 ∧ (c.val : Int).natAbs < 1073741824 ∧ Builtin.Range.small 0 (j.val : Int) (c.val : Int) = true ∧ Builtin.Range.rangeSize 0 (j.val : Int) (c.val : Int) = ((windowsN j.val c.val).toNat : Int)) ∧
    ((windowsN j.val c.val).toNat : Int) = windowsN j.val c.val ∧ windowsN j.val c.val ≤ 100 := by decide +kernel
theorem rg_of {j c : Nat} (hj : j < 64) (h1 : 1 ≤ c) (h6 : c ≤ 6) : RgC 0 (j : Int) (c : Int) (windowsN j c).toNat ∧ ((windowsN j c).toNat : Int) = windowsN j c ∧ windowsN j c ≤ 100 := rg_fin ⟨j, hj⟩ ⟨c, by omega⟩ h1
/-- what stands behind the first draws -/
abbrev sp__law_spoil : Sp := spP 4
theorem foot_nu {H : Hp} {v : V} {x : Nu} (n : Nat) (h : Dx H v x.d) : Foot H (n + 2) v [] := by
  cases x with
  | r i => exact .flat h trivial
  | f q =>
    obtain ⟨a, us, rfl, ha, r⟩ := Dx.tup_inv h
    cases r.two_int
    exact .tup ha (.cons (f := []) (g := []) (.flat (.int _) trivial) (.cons (f := []) (g := []) (.flat (.int _) trivial) .nil fun _ z => nomatch z) fun _ z => nomatch z)
theorem foot_nus {H : Hp} (n : Nat) : ∀ {vs : List V} (xs : List Nu), DxA H vs (xs.map Nu.d) → FootA H (n + 2) vs []
  | _, [], .nil => .nil
  | _, x :: xs, .cons h r => .cons (f := []) (g := []) (foot_nu n h) (foot_nus n xs r) fun _ z => nomatch z
theorem foot_long {G : Hp} {v : V} {p : Int} {xs ts : List Nu} {many : Nat} (h : Dx G v (longD p xs ts many)) (hl : (sumsL p xs ts).length ≤ 30000) : ∃ f, Foot G 4 v f ∧ ∀ a ∈ f, ∃ o, G a = some o := by
  obtain ⟨t, us, rfl, ht, r⟩ := Dx.tup_inv h
  cases r with
  | cons h1 r2 =>
    cases r2 with
    | cons h2 r3 =>
      cases r3
      obtain ⟨a, ws, rfl, ha, rw'⟩ := Dx.lst_inv h1
      cases h2
      refine ⟨[a], .tup ht (.cons (f := [a]) (g := []) (.lst (fp := []) ha (foot_nus 0 _ rw') (fun z => nomatch z) ?_) (.cons (f := []) (g := []) (.flat (.int _) trivial) .nil fun _ z => nomatch z) fun _ _ z => nomatch z), fun x hx => ?_⟩
      · rw [rw'.length, List.length_map]
        exact hl
      · rw [List.mem_singleton.mp hx]
        exact ⟨_, ha⟩
theorem grow_free {H H2 : Hp} {a : Addr} (h : ∃ o, grow hp0 H H2 a = some o) : H a = none := by
  obtain ⟨o, h⟩ := h
  cases q : H a with
  | none => rfl
  | some u => rw [grow_old q] at h; cases h
theorem LawI.chg {b L : Addr} {G H H2 H3 : Hp} {f : List Addr} (I : LawI b L G H) (e : Ex H H2) (c : Chg f H2 H3) (n : ∀ a ∈ f, H a = none) : LawI b L G H3 := by
  have k : Ex H H3 := fun a o h => c.1 a o (fun z => by rw [n a z] at h; cases h) (e a o h)
  exact I.mono k
theorem dep_long {p : Int} {xs ts : List Nu} {many : Nat} (h : xs.length ≤ 10000) : Dep 3 (longD p xs ts many) := ⟨by show 2 ≤ 30000; decide, fun d hd => by
  (rcases List.mem_cons.mp hd with rfl | hd)
  · exact ⟨by rw [List.length_map]; unfold sumsL manyN; rw [List.length_map, List.length_range]; omega, Nu.deps _⟩
  · (rcases List.mem_cons.mp hd with rfl | hd)
    · exact trivial
    · cases hd⟩
theorem dep_fault {n : Int} : Dep 3 (faultD n) := by
  refine ⟨by show 5 ≤ 30000; decide, fun d hd => ?_⟩
  (rcases List.mem_cons.mp hd with rfl | hd)
  · exact trivial
  (rcases List.mem_cons.mp hd with rfl | hd)
  · exact trivial
  (rcases List.mem_cons.mp hd with rfl | hd)
  · refine ⟨by show 1 ≤ 30000; decide, fun d hd => ?_⟩
    (rcases List.mem_cons.mp hd with rfl | hd)
    · exact trivial
    · cases hd
  (rcases List.mem_cons.mp hd with rfl | hd)
  · refine ⟨by show 2 ≤ 30000; decide, fun d hd => ?_⟩
    (rcases List.mem_cons.mp hd with rfl | hd)
    · exact trivial
    (rcases List.mem_cons.mp hd with rfl | hd)
    · exact trivial
    · cases hd
  (rcases List.mem_cons.mp hd with rfl | hd)
  · exact trivial
  · cases hd
theorem dep_row2 {xs : List Nu} (h : xs.length ≤ 30000) : Dep 3 (rowD xs) := ⟨by rw [List.length_map]; exact h, fun d hd => by
  obtain ⟨x, _, rfl⟩ := List.mem_map.mp hd
  cases x with
  | r i => exact trivial
  | f q =>
    refine ⟨by show 2 ≤ 30000; decide, fun d hd => ?_⟩
    (rcases List.mem_cons.mp hd with rfl | hd)
    · exact trivial
    (rcases List.mem_cons.mp hd with rfl | hd)
    · exact trivial
    · cases hd⟩
theorem c_iR3 {tr : TA} {σ : L2.St} {H : Hp} {R : It → Hp → Prop} (h : tr σ H fun vs H1 => ∃ (i j c : Int) (n : Nat), vs = [.int i, .int j, .int c] ∧ RgC i j c n ∧ R (Itc i c n) H1) : iRng3 tr σ H R := h
theorem c_pre {te : TE} {σ : L2.St} {H : Hp} {Q : VK} (P : VK) (k : ∀ v H', P v H' → Q v H') (h : (∀ v H', P v H' → Q v H') → te σ H Q) : te σ H Q := h k
def sp_law (K : PySem.W.Frag) : Sp := fun vs H Q _ => ∃ (a : Addr) (ns : List Int), vs = [.ref a] ∧ SqL K H a (ns.map V.int) ∧ ns.length ≤ 63 ∧ ∀ H', Q (.bl true) H'
def t_f_law (K : PySem.W.Frag) : TS :=
    (tSeq (tAsg (tCall (sp__law_bag K) [] E0 (tCons (tVar 0) tNil)) (gName 1))
    (tSeq (tAsg (tCall sp__law_pick [] E0 (tCons (tVar 1) (tCons (tLst (tCons (tC (.int 0)) (tCons (tC (.int 0)) (tCons (tC (.int 3)) (tCons (tC (.int 5)) (tCons (tC (.int 7)) (tCons (tC (.int 13)) (tCons (tC (.int 31)) tNil)))))))) tNil))) (gName 2))
    (tSeq (tPar 3 4 (tCons (tCall sp__law_draw [] E0 (tCons (tVar 1) (tCons (tCall sp__law_pick [] E0 (tCons (tVar 1) (tCons (tLst (tCons (tC (.int 5)) (tCons (tC (.int 9)) (tCons (tC (.int 17)) (tCons (tC (.int 41)) tNil))))) tNil))) tNil))) (tCons (tOp (uAdd K) (tC (.int 1)) (tCall sp__law_draw [] E0 (tCons (tVar 1) (tCons (tC (.int 6)) tNil)))) tNil)))
    (tSeq (tAsg (tTup (tCons (tCall sp__law_row [] E0 (tCons (tVar 1) (tCons (tVar 2) (tCons (tVar 3) tNil)))) (tCons (tCall sp__law_row [] E0 (tCons (tVar 1) (tCons (tVar 2) (tCons (tVar 4) tNil)))) tNil))) (gTup K 2 (gCons (gName 5) (gCons (gName 6) gNil))))
    (tCut (tIfS (tTest (tOp (uEq K) (tCall sp__law_draw [] E0 (tCons (tVar 1) (tCons (tC (.int 4)) tNil))) (tC (.int 0)))) (tAsg (tLc (iRng1 (tCons (tVar 3) tNil)) (gName 18) tYes (tOp (uIx K) (tVar 5) (tOp uFdiv (tVar 18) (tC (.int 3)))) [18]) (gName 5)) tNext)
    (tSeq (tAsg (tCall sp__law_sums [] E0 (tCons (tVar 2) (tCons (tVar 5) (tCons (tVar 6) tNil)))) (gName 7))
    (tSeq (tAsg (tOp (uAdd K) (tC (.int 1)) (tCall sp__law_draw [] E0 (tCons (tVar 1) (tCons (tC (.int 6)) tNil)))) (gName 8))
    (tSeq (tAsg (tIf (tTest (tOp (uEq K) (tCall sp__law_draw [] E0 (tCons (tVar 1) (tCons (tC (.int 3)) tNil))) (tC (.int 0)))) (tLst (tCons (tC (.int 1)) (tCons (tC (.int 2)) (tCons (tC (.int 3)) (tCons (tC (.int 4)) (tCons (tC (.int 5)) (tCons (tC (.int 6)) tNil))))))) (tLst (tCons (tVar 8) (tCons (tOp (uAdd K) (tC (.int 1)) (tCall sp__law_draw [] E0 (tCons (tVar 1) (tCons (tC (.int 6)) tNil)))) (tCons (tVar 8) tNil))))) (gName 9))
    (tSeq (tFor (iSeq K (tVar 9)) (gName 10) (tSeq (tAsg (tC (.int 0)) (gName 11))
    (tSeq (tFor (iRng3 (tCons (tC (.int 0)) (tCons (tCB (uLen K) (tCons (tVar 7) tNil)) (tCons (tVar 10) tNil)))) (gName 12) (tAsg (tOp (uAdd K) (tVar 11) (tC (.int 1))) (gName 11)))
    (tSeq (tAsg (tCall (sp__law_asked K) [] E0 (tCons (tVar 2) (tCons (tVar 5) (tCons (tVar 6) (tCons (tVar 10) tNil))))) (gName 13))
    (tSeq (tIfS (tNot (tB (tCall sp__law_same [] E0 (tCons (tVar 13) (tCons (tTup (tCons (tVar 7) (tCons (tOp (uMul K) (tVar 11) (tOp uSub (tOp (uAdd K) (tVar 10) (tVar 4)) (tC (.int 1)))) tNil))) tNil))))) (tRet (tC (.bl false))) tNext)
    (tDrop (tCall sp__law_spoil [] E0 (tCons (tVar 13) tNil))))))))
    (tSeq (tPar 14 15 (tCons (tOp (uAdd K) (tC (.int 7)) (tCall sp__law_draw [] E0 (tCons (tVar 1) (tCons (tC (.int 9)) tNil)))) (tCons (tOp (uAdd K) (tC (.int 7)) (tCall sp__law_draw [] E0 (tCons (tVar 1) (tCons (tC (.int 9)) tNil)))) tNil)))
    (tSeq (tIfS (tNot (tB (tCall sp__law_same [] E0 (tCons (tCall (sp__law_asked K) [] E0 (tCons (tVar 2) (tCons (tVar 5) (tCons (tVar 6) (tCons (tVar 14) tNil))))) (tCons (tCall sp__law_due [] E0 (tCons (tC (.str "TooMany")) (tCons (tLst (tCons (tC (.str "window")) (tCons (tVar 14) tNil))) tNil))) tNil))))) (tRet (tC (.bl false))) tNext)
    (tSeq (tAsg (tCall sp__law_row [] E0 (tCons (tVar 1) (tCons (tVar 2) (tCons (tVar 15) tNil)))) (gName 16))
    (tSeq (tIfS (tNot (tB (tCall sp__law_same [] E0 (tCons (tCall (sp__law_asked K) [] E0 (tCons (tVar 2) (tCons (tVar 5) (tCons (tVar 16) (tCons (tVar 8) tNil))))) (tCons (tCall sp__law_due [] E0 (tCons (tC (.str "TooMany")) (tCons (tLst (tCons (tC (.str "window")) (tCons (tVar 15) tNil))) tNil))) tNil))))) (tRet (tC (.bl false))) tNext)
    (tSeq (tIfS (tNot (tB (tCall sp__law_same [] E0 (tCons (tCall (sp__law_asked K) [] E0 (tCons (tVar 2) (tCons (tVar 5) (tCons (tVar 16) (tCons (tOp (uAdd K) (tVar 14) (tC (.int 9))) tNil))))) (tCons (tCall sp__law_due [] E0 (tCons (tC (.str "TooMany")) (tCons (tLst (tCons (tC (.str "window")) (tCons (tOp (uAdd K) (tVar 14) (tC (.int 9))) tNil))) tNil))) tNil))))) (tRet (tC (.bl false))) tNext)
    (tSeq (tAsg (tCall (sp__law_asked K) [] E0 (tCons (tVar 2) (tCons (tCB (uTuple K) (tCons (tVar 5) tNil)) (tCons (tCB (uTuple K) (tCons (tVar 6) tNil)) (tCons (tVar 8) tNil))))) (gName 17))
    (tRet (tAndV (tCB (uIsi K) (tCons (tVar 17) (tCons (tC (.ty "tuple")) tNil))) (tAndV (tOp (uEq K) (tCB (uLen K) (tCons (tVar 17) tNil)) (tC (.int 2))) (tCall sp__law_same [] E0 (tCons (tOp (uIx K) (tVar 17) (tC (.int 0))) (tCons (tVar 7) tNil)))))))))))))))))))))
theorem pure_law (K : PySem.W.Frag) (vs : List V) (H : Hp) (Q : VK) (E : XK) (h : sp_law K vs H Q E) : t_f_law K { nx := fun _ H' => Q .non H', rt := Q } (start ["script", "bag", "p", "size", "wide", "row", "taps", "due", "first", "lots", "many", "windows", "at", "told", "beyond", "other", "more", "asked", "k"] vs) H := by
  obtain ⟨a0, ns, rfl, sq, hl, q⟩ := h
  unfold t_f_law
  walk_at "tw"
  refine ⟨a0, ns, rfl, sq, hl, fun b L H1 e1 nb nL hb => ?_⟩
  have I1 : LawI b L hp0 H1 := ⟨hb, ex0 _, rfl⟩
  walk_at "tw"
  refine ⟨by show 7 ≤ sizeLine; decide, fun l fl => ?_⟩
  have I2 := I1.mono (Ex.new (o := .lst [V.int 0, V.int 0, V.int 3, V.int 5, V.int 7, V.int 13, V.int 31]) fl)
  refine ⟨b, L, l, _, rfl, I2.bag, I1.fresh fl, upd_same, by decide, by decide, fun j v H3 hj x3 hb3 => ?_⟩
  obtain ⟨p, rfl, hp⟩ := primes_of hj
  obtain ⟨p0, p1⟩ := hp.pos
  have I3 := I2.draw x3 hb3
  walk_at "tw"
  refine ⟨by show 4 ≤ sizeLine; decide, fun l2 fl2 => ?_⟩
  have I4 := I3.mono (Ex.new (o := .lst [V.int 5, V.int 9, V.int 17, V.int 41]) fl2)
  refine ⟨b, L, l2, _, rfl, I4.bag, I3.fresh fl2, upd_same, by decide, by decide, fun j2 v2 H5 hj2 x5 hb5 => ?_⟩
  obtain ⟨z, rfl, z0, z1⟩ := sizes_of hj2
  have I5 := I4.draw x5 hb5
  walk_at "tw"
  refine ⟨b, L, z, rfl, I5.bag, z0, by omega, fun size H6 x6 hb6 s0 s1 => ?_⟩
  have I6 := I5.draw x6 hb6
  walk_at "tw"
  refine ⟨b, L, 6, rfl, I6.bag, by decide, by decide, fun w0 H7 x7 hb7 w1 w2 => ?_⟩
  have I7 := I6.draw x7 hb7
  walk_at "tw"
  refine ⟨b, L, p, size, rfl, I7.bag, p0, by omega, s0, by omega, fun xs ra H8 x8 hb8 lx ox dx => ?_⟩
  have I8 := I7.grows x8 hb8
  have dx8 := dx.mono (grow_hp0 hp0 H7 H8)
  walk_at "tw"
  refine ⟨b, L, p, 1 + w0, rfl, I8.bag, p0, by omega, by omega, by omega, fun ts ta H9 x9 hb9 lt ot dt => ?_⟩
  have I9 := I8.grows x9 hb9
  have dx9 := dx8.mono (grow_ex (H2 := H9) I8.ex)
  have dt9 := dt.mono (grow_hp0 (grow hp0 H7 H8) H8 H9)
  have lt2 : (ts.length : Int) = 1 + w0 := by omega
  generalize grow (grow hp0 H7 H8) H8 H9 = G9 at I9 dx9 dt9
  walk_at "tw"
  refine ⟨by show 2 ≤ sizeLine; decide, fun t ft => ?_⟩
  have I10 := I9.mono (Ex.new (o := .tup [.ref ra, .ref ta]) ft)
  walk_at "tw"
  refine c_cut (fun σ' H' => ∃ (G : Hp) (a : Addr) (ys : List Nu), σ' = [some (.ref a0), some (.ref b), some (.int p), some (.int size), some (.int (1 + w0)), some (.ref a), some (.ref ta), none, none, none, none, none, none, none, none, none, none, none, none] ∧ LawI b L G H' ∧ Dx G (.ref a) (rowD ys) ∧ Dx G (.ref ta) (rowD ts) ∧ ys.length = size.toNat ∧ OkL p ys) ?_ ?_
  · walk_at "tw"
    refine ⟨b, L, 4, rfl, I10.bag, by decide, by decide, fun d H11 x11 hb11 d0 d1 => ?_⟩
    have I11 := I10.draw x11 hb11
    walk_at "tw"
    refine c_ite (fun hz => ?_) (fun hz => ?_)
    · obtain ⟨_, us, era, hra, ru, lu⟩ := rowD_inv dx9
      cases era
      have hra2 := I11.ex _ _ hra
      walk_at "tw"
      refine ⟨size, rfl, by omega, by omega, fun L2 hL2 => ?_⟩
      refine lc_range (lo := 0) (n := size.toNat) (fun i H2 => ∃ (ys : List Nu) (ws : List V), ys.length = i ∧ OkL p ys ∧ Ex H11 H2 ∧ H2 L2 = some (.lst ws) ∧ DxA G9 ws (ys.map Nu.d)) ⟨[], [], rfl, fun _ z => (nomatch z), Ex.new hL2, upd_same, .nil⟩ ?_ ?_
      · rintro i H2 hi ⟨ys, ws, rfl, oy, e2, at2, dw⟩
        have hra3 := e2 _ _ hra2
        walk_at "tw"
        refine ⟨rfl, ?_⟩
        walk_at "tw"
        have hk : ys.length / 3 < us.length := by rw [lu, lx]; omega
        have ek : (0 + (ys.length : Int)) / 3 = ((ys.length / 3 : Nat) : Int) := by omega
        refine c_ixL (SqL.of hra3) (v := us[ys.length / 3]) (by rw [ek]; exact atI_nat (List.getElem?_eq_getElem hk)) ?_
        obtain ⟨x, ex, mx, dxx⟩ := ru.nu (List.getElem?_eq_getElem hk)
        refine ⟨ws, at2, sz_of_le (by rw [dw.length, List.length_map]; omega), ys ++ [x], ws ++ [us[ys.length / 3]], by rw [List.length_append]; rfl, fun y hy => ?_, e2.mut hL2, upd_same, ?_⟩
        · rcases List.mem_append.mp hy with z | z
          · exact oy y z
          · rw [List.mem_singleton.mp z]; exact ox x mx
        · rw [List.map_append]
          exact dw.append (.cons dxx .nil)
      · rintro H2 ⟨ys, ws, ly, oy, e2, at2, dw⟩
        walk_at "tw"
        exact ⟨_, L2, ys, rfl, I11.growsE e2, .lst (grow_new hL2 at2) (dw.mono (grow_ex I11.ex)), dt9.mono (grow_ex I11.ex), ly, oy⟩
    · walk_at "tw"
      exact ⟨G9, ra, xs, rfl, I11, dx9, dt9, lx, ox⟩
  · rintro σ' H11 ⟨G, a, ys, rfl, I11, da, dta, ly, oy⟩
    walk_at "tw"
    refine ⟨G, p, ys, ts, _, _, rfl, I11.ex, p0, da, dta, oy, ot, by omega, by omega, fun due H12 e12 ddue => ?_⟩
    have I12 := I11.growsE e12
    have da12 := da.mono (grow_ex (H2 := H12) I11.ex)
    have dta12 := dta.mono (grow_ex (H2 := H12) I11.ex)
    generalize grow G H11 H12 = G12 at I12 da12 dta12 ddue
    walk_at "tw"
    refine ⟨b, L, 6, rfl, I12.bag, by decide, by decide, fun f0 H13 x13 hb13 f1 f2 => ?_⟩
    have I13 := I12.draw x13 hb13
    walk_at "tw1"
    walk_at "tw1"
    walk_at "tw1"
    walk_at "tw1"
    refine c_pre (fun v H' => ∃ (G' : Hp) (ll : Addr) (ls : List V), v = .ref ll ∧ LawI b L G' H' ∧ Ex G12 G' ∧ G' ll = some (.lst ls) ∧ ∀ x ∈ ls, ∃ m : Nat, x = .int (m : Int) ∧ 1 ≤ m ∧ m ≤ 6) ?_ (fun k => ?_)
    rotate_left
    · walk_at "tw"
      refine ⟨b, L, 3, rfl, I13.bag, by decide, by decide, fun d H14 x14 hb14 d0 d1 => ?_⟩
      have I14 := I13.draw x14 hb14
      walk_at "tw"
      refine c_ite (fun hz => ?_) (fun hz => ?_)
      · walk_at "tw"
        refine ⟨by show 6 ≤ sizeLine; decide, fun ll fll => ?_⟩
        refine k _ _ ⟨_, ll, _, rfl, I14.growsE (Ex.new fll), grow_ex I14.ex, grow_new fll upd_same, fun x hx => ?_⟩
        (rcases List.mem_cons.mp hx with rfl | hx)
        · exact ⟨1, rfl, by decide, by decide⟩
        (rcases List.mem_cons.mp hx with rfl | hx)
        · exact ⟨2, rfl, by decide, by decide⟩
        (rcases List.mem_cons.mp hx with rfl | hx)
        · exact ⟨3, rfl, by decide, by decide⟩
        (rcases List.mem_cons.mp hx with rfl | hx)
        · exact ⟨4, rfl, by decide, by decide⟩
        (rcases List.mem_cons.mp hx with rfl | hx)
        · exact ⟨5, rfl, by decide, by decide⟩
        (rcases List.mem_cons.mp hx with rfl | hx)
        · exact ⟨6, rfl, by decide, by decide⟩
        · cases hx
      · walk_at "tw"
        refine ⟨b, L, 6, rfl, I14.bag, by decide, by decide, fun g0 H15 x15 hb15 g1 g2 => ?_⟩
        have I15 := I14.draw x15 hb15
        walk_at "tw"
        refine ⟨by show 3 ≤ sizeLine; decide, fun ll fll => ?_⟩
        have nat : ∀ z : Int, 0 ≤ z → z < 6 → ∃ m : Nat, V.int (1 + z) = .int (m : Int) ∧ 1 ≤ m ∧ m ≤ 6 := fun z z0 z1 => ⟨(1 + z).toNat, congrArg V.int (by omega), by omega, by omega⟩
        refine k _ _ ⟨_, ll, _, rfl, I15.growsE (Ex.new fll), grow_ex I15.ex, grow_new fll upd_same, fun x hx => ?_⟩
        (rcases List.mem_cons.mp hx with rfl | hx)
        · exact nat _ f1 f2
        (rcases List.mem_cons.mp hx with rfl | hx)
        · exact nat _ g1 g2
        (rcases List.mem_cons.mp hx with rfl | hx)
        · exact nat _ f1 f2
        · cases hx
    · rintro _ H16 ⟨G, ll, ls, rfl, I16, e16, hll, hls⟩
      have da16 := da12.mono e16
      have dta16 := dta12.mono e16
      have dd16 := ddue.mono e16
      clear da12 dta12 ddue I12 I13 I11
      obtain ⟨du, dus, edu, hdu, rdu, ldu⟩ := rowD_inv dd16
      cases edu
      have ldn : dus.length = manyN ys.length ts.length := by
        rw [ldu]; unfold sumsL; rw [List.length_map, List.length_range]
      have l64 : manyN ys.length ts.length < 64 := by unfold manyN; omega
      walk_at "tw"
      refine ⟨ll, rfl, .inl ⟨⟨_, SqL.of (I16.ex _ _ hll)⟩, ?_⟩⟩
      refine for_list (K := K) (xs := ls) (fun i σ' H' => ∃ o10 o11 o12 o13 : Option V, σ' = [some (.ref a0), some (.ref b), some (.int p), some (.int size), some (.int (1 + w0)), some (.ref a), some (.ref ta), some (.ref du), some (.int (1 + f0)), some (.ref ll), o10, o11, o12, o13, none, none, none, none, none] ∧ LawI b L G H')
        ⟨none, none, none, none, rfl, I16⟩ (fun i σ' H' _ ⟨_, _, _, _, _, I⟩ => SqL.of (I.ex _ _ hll)) ?_ ?_
      · rintro i x σ' H17 hi ⟨o10, o11, o12, o13, rfl, I17⟩
        obtain ⟨m, rfl, m1, m6⟩ := hls x (List.mem_of_getElem? hi)
        obtain ⟨rg, wn, w100⟩ := rg_of l64 m1 m6
        have hdu17 := I17.ex _ _ hdu
        walk_at "tw"
        refine c_iR3 ?_
        walk_at "tw"
        refine ⟨0, _, (m : Int), (windowsN (manyN ys.length ts.length) m).toNat, rfl, by rw [ldn]; exact rg, ?_⟩
        refine for_rangeC (Pv := fun i σ' H' => ∃ o12 : Option V, σ' = [some (.ref a0), some (.ref b), some (.int p), some (.int size), some (.int (1 + w0)), some (.ref a), some (.ref ta), some (.ref du), some (.int (1 + f0)), some (.ref ll), some (.int (m : Int)), some (.int (i : Int)), o12, o13, none, none, none, none, none] ∧ H' = H17) ⟨o12, rfl, rfl⟩ ?_ ?_
        · rintro i2 σ2 H2 hi2 ⟨o2, rfl, rfl⟩
          walk_at "tw"
          exact ⟨_, rfl, rfl⟩
        · rintro σ2 H2 ⟨o2, rfl, rfl⟩
          walk_at "tw"
          refine ⟨p, ys, ts, _, _, m, rfl, hp, .inl ⟨da16.mono I17.ex, dta16.mono I17.ex⟩, oy, ot, by omega, by omega, m1, by omega, fun _ _ told H18 e18 d18 => ?_, fun z => absurd z (by omega), fun _ z => absurd z (by omega)⟩
          have I18 := I17.mono e18
          have em : (m : Int) ≤ 6 := by omega
          have em1 : 1 ≤ (m : Int) := by omega
          have en : ((windowsN (manyN ys.length ts.length) m).toNat : Int) ≤ 100 := by omega
          have et : (m : Int) + (1 + w0) - 1 = (m : Int) + (ts.length : Int) - 1 := by omega
          walk_at "tw"
          refine ⟨by show 2 ≤ sizeLine; decide, fun u fu => ?_⟩
          walk_at "tw"
          have ev : ((windowsN (manyN ys.length ts.length) m).toNat : Int) * ((m : Int) + (1 + w0) - 1) = windowsN (manyN ys.length ts.length) m * ((m : Int) + (ts.length : Int) - 1) := by rw [wn, et]
          refine ⟨told, .ref u, longD p ys ts m, rfl, (d18.mono (grow_in (ex0 _))).mono (Ex.new fu), ?_, dep_long (by omega), fun H20 e20 => ?_⟩
          · unfold longD
            rw [← ev]
            exact .tup upd_same (.cons (dd16.mono (I18.ex.trans (Ex.new fu))) (.cons (.int _) .nil))
          walk_at "tw"
          obtain ⟨f, hf, hdom⟩ := foot_long d18 (by unfold sumsL; rw [List.length_map, List.length_range]; omega)
          refine ⟨told, f, rfl, Foot.keep (f0 := []) (fun z o _ k => ((grow_in (ex0 _)).trans ((Ex.new fu).trans e20)) z o k) (fun _ z => nomatch z) 4 hf (fun _ _ z => nomatch z), fun H21 chg => ?_⟩
          exact ⟨_, _, _, _, rfl, I17.chg ((e18.trans (Ex.new fu)).trans e20) chg fun z hz => grow_free (hdom z hz)⟩
      · rintro σ' H17 ⟨o10, o11, o12, o13, rfl, I17⟩
        walk_at "tw"
        refine ⟨b, L, 9, rfl, I17.bag, by decide, by decide, fun d1 H18 x18 hb18 d2 d3 => ?_⟩
        have I18 := I17.draw x18 hb18
        walk_at "tw"
        refine ⟨b, L, 9, rfl, I18.bag, by decide, by decide, fun g1 H19 x19 hb19 g2 g3 => ?_⟩
        have I19 := I18.draw x19 hb19
        obtain ⟨be, hbe⟩ : ∃ n : Nat, 7 + d1 = (n : Int) := ⟨(7 + d1).toNat, by omega⟩
        obtain ⟨ot2, hot2⟩ : ∃ n : Nat, 7 + g1 = (n : Int) := ⟨(7 + g1).toNat, by omega⟩
        obtain ⟨fi, hfi⟩ : ∃ n : Nat, 1 + f0 = (n : Int) := ⟨(1 + f0).toNat, by omega⟩
        walk_at "tw"
        refine ⟨p, ys, ts, _, _, be, by rw [hbe]; exact rfl, hp, .inl ⟨da16.mono I19.ex, dta16.mono I19.ex⟩, oy, ot, by omega, by omega, by omega, by omega, fun z => absurd z (by omega), fun _ told H20 e20 d20 => ?_, fun z => absurd z (by omega)⟩
        walk_at "tw"
        refine ⟨by show 2 ≤ sizeLine; decide, fun wl fw => ?_⟩
        refine ⟨_, "TooMany", _, .list [.str "window", .int (7 + d1)], rfl, Ex.refl _, .lst upd_same (.cons (.str _) (.cons (.int _) .nil)), rfl, rfl, fun dv H22 e22 hdv => ?_⟩
        refine ⟨told, dv, faultD be, rfl, (d20.mono (grow_in (ex0 _))).mono ((Ex.new fw).trans e22), by rw [← hbe]; exact hdv.mono (grow_in e22), dep_fault, fun H23 e23 => ?_⟩
        have I23 := I19.mono (((e20.trans (Ex.new fw)).trans e22).trans e23)
        walk_at "tw"
        refine ⟨b, L, p, 7 + g1, rfl, I23.bag, p0, by omega, by omega, by omega, fun ms ma H24 x24 hb24 lm om dm => ?_⟩
        have I24 := I23.grows x24 hb24
        have da24 := da16.mono (grow_ex (H2 := H24) I23.ex)
        have dta24 := dta16.mono (grow_ex (H2 := H24) I23.ex)
        have dd24 := dd16.mono (grow_ex (H2 := H24) I23.ex)
        have dm24 := dm.mono (grow_hp0 G H23 H24)
        have lm2 : (ms.length : Int) = 7 + g1 := by omega
        generalize grow G H23 H24 = G24 at I24 da24 dta24 dd24 dm24
        walk_at "tw"
        refine ⟨p, ys, ms, _, _, fi, by rw [hfi]; exact rfl, hp, .inl ⟨da24.mono I24.ex, dm24.mono I24.ex⟩, oy, om, by omega, by omega, by omega, by omega, fun _ z => absurd z (by omega), fun z => absurd z (by omega), fun _ _ told2 H25 e25 d25 => ?_⟩
        walk_at "tw"
        refine ⟨by show 2 ≤ sizeLine; decide, fun wl2 fw2 => ?_⟩
        refine ⟨_, "TooMany", _, .list [.str "window", .int (7 + g1)], rfl, Ex.refl _, .lst upd_same (.cons (.str _) (.cons (.int _) .nil)), rfl, rfl, fun dv2 H26 e26 hdv2 => ?_⟩
        refine ⟨told2, dv2, faultD ms.length, rfl, (d25.mono (grow_in (ex0 _))).mono ((Ex.new fw2).trans e26), by rw [lm2]; exact hdv2.mono (grow_in e26), dep_fault, fun H27 e27 => ?_⟩
        have I27 := I24.mono (((e25.trans (Ex.new fw2)).trans e26).trans e27)
        have hbe9 : 7 + d1 + 9 = ((be + 9 : Nat) : Int) := by omega
        walk_at "tw"
        refine ⟨p, ys, ms, _, _, be + 9, by rw [hbe9]; exact rfl, hp, .inl ⟨da24.mono I27.ex, dm24.mono I27.ex⟩, oy, om, by omega, by omega, by omega, by omega, fun z => absurd z (by omega), fun _ told3 H28 e28 d28 => ?_, fun z => absurd z (by omega)⟩
        walk_at "tw"
        refine ⟨by show 2 ≤ sizeLine; decide, fun wl3 fw3 => ?_⟩
        refine ⟨_, "TooMany", _, .list [.str "window", .int (7 + d1 + 9)], rfl, Ex.refl _, .lst upd_same (.cons (.str _) (.cons (.int _) .nil)), rfl, rfl, fun dv3 H29 e29 hdv3 => ?_⟩
        refine ⟨told3, dv3, faultD ((be + 9 : Nat) : Int), rfl, (d28.mono (grow_in (ex0 _))).mono ((Ex.new fw3).trans e29), by rw [← hbe9]; exact hdv3.mono (grow_in e29), dep_fault, fun H30 e30 => ?_⟩
        have I30 := I27.mono (((e28.trans (Ex.new fw3)).trans e29).trans e30)
        obtain ⟨_, us, ea, hau, ru, lu⟩ := rowD_inv da24
        cases ea
        obtain ⟨_, ws, eta, htu, rw2, lw⟩ := rowD_inv dta24
        cases eta
        have hau2 := I30.ex _ _ hau
        walk_at "tw"
        refine c_tupleL (SqL.of hau2) fun p1 fp1 => ?_
        walk_at "tw"
        refine c_tupleL (SqL.of ((Ex.new fp1) _ _ (I30.ex _ _ htu))) fun p2 fp2 => ?_
        have e31 := (Ex.new (o := .tup us) fp1).trans (Ex.new (o := .tup ws) fp2)
        have I31 := I30.mono e31
        walk_at "tw"
        refine ⟨p, ys, ts, _, _, fi, by rw [hfi]; exact rfl, hp, .inr ⟨.tup ((Ex.new fp2) _ _ upd_same) (ru.mono I31.ex), .tup upd_same (rw2.mono I31.ex)⟩, oy, ot, by omega, by omega, by omega, by omega, fun _ _ told4 H32 e32 d32 => ?_, fun z => absurd z (by omega), fun _ z => absurd z (by omega)⟩
        have d33 : Dx H32 told4 (longD p ys ts fi) := d32.mono (grow_in (ex0 _))
        obtain ⟨tt, uu, rfl, htt, rtt⟩ := Dx.tup_inv d33
        cases rtt with
        | cons h1 r2 =>
          cases r2 with
          | cons h2 r3 =>
            cases r3
            walk_at "tw"
            exact ⟨_, .ref du, rowD (sumsL p ys ts), rfl, h1, dd24.mono (I31.ex.trans e32), dep_row2 (by unfold sumsL; rw [List.length_map, List.length_range]; unfold manyN; omega), fun H33 e33 => q _⟩
end Tw
namespace Tw
open PySem PySem.Spec PyProof.Rows L2 Evl RZ L2H
def top (i : Nat) : Stmt := PySem.Challenge.pw_twiceless_k83_long_rows_cut.main.body.getD i (.Pass ⟨0, 0, 0, 0⟩)
abbrev s_f_law_gcd : Stmt := top 49
abbrev N_f_law_gcd : List Str := ["one", "two"]
theorem sc_f_law_gcd : FnScope N_f_law_gcd ["one", "two"] (defScope s_f_law_gcd) := ⟨rfl, rfl, rfl, by decide +kernel, rfl, by decide +kernel, by decide +kernel⟩
abbrev s_f_law_num : Stmt := top 50
abbrev N_f_law_num : List Str := ["p", "top", "bottom", "told", "left", "power", "part"]
theorem sc_f_law_num : FnScope N_f_law_num ["p", "top", "bottom"] (defScope s_f_law_num) := ⟨rfl, rfl, rfl, by decide +kernel, rfl, by decide +kernel, by decide +kernel⟩
abbrev s_f_law_int : Stmt := top 51
abbrev N_f_law_int : List Str := ["p", "k"]
theorem sc_f_law_int : FnScope N_f_law_int ["p", "k"] (defScope s_f_law_int) := ⟨rfl, rfl, rfl, by decide +kernel, rfl, by decide +kernel, by decide +kernel⟩
abbrev s_f_law_add : Stmt := top 52
abbrev N_f_law_add : List Str := ["p", "one", "two"]
theorem sc_f_law_add : FnScope N_f_law_add ["p", "one", "two"] (defScope s_f_law_add) := ⟨rfl, rfl, rfl, by decide +kernel, rfl, by decide +kernel, by decide +kernel⟩
abbrev s_f_law_mul : Stmt := top 53
abbrev N_f_law_mul : List Str := ["p", "one", "two"]
theorem sc_f_law_mul : FnScope N_f_law_mul ["p", "one", "two"] (defScope s_f_law_mul) := ⟨rfl, rfl, rfl, by decide +kernel, rfl, by decide +kernel, by decide +kernel⟩
abbrev s_f_law_draw : Stmt := top 44
abbrev N_f_law_draw : List Str := ["bag", "size", "cell", "digit"]
theorem sc_f_law_draw : FnScope N_f_law_draw ["bag", "size"] (defScope s_f_law_draw) := ⟨rfl, rfl, rfl, by decide +kernel, rfl, by decide +kernel, by decide +kernel⟩
abbrev s_f_law_pick : Stmt := top 45
abbrev N_f_law_pick : List Str := ["bag", "menu"]
theorem sc_f_law_pick : FnScope N_f_law_pick ["bag", "menu"] (defScope s_f_law_pick) := ⟨rfl, rfl, rfl, by decide +kernel, rfl, by decide +kernel, by decide +kernel⟩
abbrev s_f_law_small : Stmt := top 55
abbrev N_f_law_small : List Str := ["bag", "p", "bottom"]
theorem sc_f_law_small : FnScope N_f_law_small ["bag", "p"] (defScope s_f_law_small) := ⟨rfl, rfl, rfl, by decide +kernel, rfl, by decide +kernel, by decide +kernel⟩
abbrev s_f_law_row : Stmt := top 56
abbrev N_f_law_row : List Str := ["bag", "p", "size", "k"]
theorem sc_f_law_row : FnScope N_f_law_row ["bag", "p", "size"] (defScope s_f_law_row) := ⟨rfl, rfl, rfl, by decide +kernel, rfl, by decide +kernel, by decide +kernel⟩
abbrev s_f_law_bag : Stmt := top 43
abbrev N_f_law_bag : List Str := ["script", "mixed", "cell"]
theorem sc_f_law_bag : FnScope N_f_law_bag ["script"] (defScope s_f_law_bag) := ⟨rfl, rfl, rfl, by decide +kernel, rfl, by decide +kernel, by decide +kernel⟩
abbrev s_f_law_line : Stmt := top 54
abbrev N_f_law_line : List Str := ["p"]
theorem sc_f_law_line : FnScope N_f_law_line ["p"] (defScope s_f_law_line) := ⟨rfl, rfl, rfl, by decide +kernel, rfl, by decide +kernel, by decide +kernel⟩
abbrev s_f_law_copied : Stmt := top 47
abbrev N_f_law_copied : List Str := ["thing", "one"]
theorem sc_f_law_copied : FnScope N_f_law_copied ["thing"] (defScope s_f_law_copied) := ⟨rfl, rfl, rfl, by decide +kernel, rfl, by decide +kernel, by decide +kernel⟩
abbrev s_f_law_same : Stmt := top 46
abbrev N_f_law_same : List Str := ["told", "due", "k"]
theorem sc_f_law_same : FnScope N_f_law_same ["told", "due"] (defScope s_f_law_same) := ⟨rfl, rfl, rfl, by decide +kernel, rfl, by decide +kernel, by decide +kernel⟩
abbrev s_f_law_spoil : Stmt := top 48
abbrev N_f_law_spoil : List Str := ["thing", "one"]
theorem sc_f_law_spoil : FnScope N_f_law_spoil ["thing"] (defScope s_f_law_spoil) := ⟨rfl, rfl, rfl, by decide +kernel, rfl, by decide +kernel, by decide +kernel⟩
abbrev s_f_law_due : Stmt := top 58
abbrev N_f_law_due : List Str := ["name", "fields", "base"]
theorem sc_f_law_due : FnScope N_f_law_due ["name", "fields"] (defScope s_f_law_due) := ⟨rfl, rfl, rfl, by decide +kernel, rfl, by decide +kernel, by decide +kernel⟩
abbrev s_f_law_sums : Stmt := top 60
abbrev N_f_law_sums : List Str := ["p", "row", "taps", "told", "i", "total", "j"]
theorem sc_f_law_sums : FnScope N_f_law_sums ["p", "row", "taps"] (defScope s_f_law_sums) := ⟨rfl, rfl, rfl, by decide +kernel, rfl, by decide +kernel, by decide +kernel⟩
abbrev s_f_inverse_modulo : Stmt := top 29
abbrev N_f_inverse_modulo : List Str := ["number", "modulus", "high", "low", "above", "below", "many"]
theorem sc_f_inverse_modulo : FnScope N_f_inverse_modulo ["number", "modulus"] (defScope s_f_inverse_modulo) := ⟨rfl, rfl, rfl, by decide +kernel, rfl, by decide +kernel, by decide +kernel⟩
abbrev s_m_Ground_number : Stmt := inClass (top 38) 2
abbrev N_m_Ground_number : List Str := ["self", "top", "bottom", "common"]
theorem sc_m_Ground_number : FnScope N_m_Ground_number ["self", "top", "bottom"] (defScope s_m_Ground_number) := ⟨rfl, rfl, rfl, by decide +kernel, rfl, by decide +kernel, by decide +kernel⟩
abbrev s_m_Ground_add : Stmt := inClass (top 38) 3
abbrev N_m_Ground_add : List Str := ["self", "x", "y"]
theorem sc_m_Ground_add : FnScope N_m_Ground_add ["self", "x", "y"] (defScope s_m_Ground_add) := ⟨rfl, rfl, rfl, by decide +kernel, rfl, by decide +kernel, by decide +kernel⟩
abbrev s_m_Ground_mul : Stmt := inClass (top 38) 5
abbrev N_m_Ground_mul : List Str := ["self", "x", "y"]
theorem sc_m_Ground_mul : FnScope N_m_Ground_mul ["self", "x", "y"] (defScope s_m_Ground_mul) := ⟨rfl, rfl, rfl, by decide +kernel, rfl, by decide +kernel, by decide +kernel⟩
abbrev s_f_dot : Stmt := top 3
abbrev N_f_dot : List Str := ["ground", "one", "other", "x", "y", "total"]
theorem sc_f_dot : FnScope N_f_dot ["ground", "one", "other"] (defScope s_f_dot) := ⟨rfl, rfl, rfl, by decide +kernel, rfl, by decide +kernel, by decide +kernel⟩
abbrev s_f_unsigned : Stmt := top 32
abbrev N_f_unsigned : List Str := ["word", "most"]
theorem sc_f_unsigned : FnScope N_f_unsigned ["word", "most"] (defScope s_f_unsigned) := ⟨rfl, rfl, rfl, by decide +kernel, rfl, by decide +kernel, by decide +kernel⟩
abbrev s_f_is_odd_prime : Stmt := top 28
abbrev N_f_is_odd_prime : List Str := ["number", "divisor"]
theorem sc_f_is_odd_prime : FnScope N_f_is_odd_prime ["number"] (defScope s_f_is_odd_prime) := ⟨rfl, rfl, rfl, by decide +kernel, rfl, by decide +kernel, by decide +kernel⟩
abbrev s_f_prime_of_line : Stmt := top 37
abbrev N_f_prime_of_line : List Str := ["line", "prime"]
theorem sc_f_prime_of_line : FnScope N_f_prime_of_line ["line"] (defScope s_f_prime_of_line) := ⟨rfl, rfl, rfl, by decide +kernel, rfl, by decide +kernel, by decide +kernel⟩
abbrev s_m_Ground_init : Stmt := inClass (top 38) 0
abbrev N_m_Ground_init : List Str := ["self", "line"]
theorem sc_m_Ground_init : FnScope N_m_Ground_init ["self", "line"] (defScope s_m_Ground_init) := ⟨rfl, rfl, rfl, by decide +kernel, rfl, by decide +kernel, by decide +kernel⟩
abbrev s_m_TooMany_init : Stmt := inClass (top 21) 0
abbrev N_m_TooMany_init : List Str := ["self", "what", "count"]
theorem sc_m_TooMany_init : FnScope N_m_TooMany_init ["self", "what", "count"] (defScope s_m_TooMany_init) := ⟨rfl, rfl, rfl, by decide +kernel, rfl, by decide +kernel, by decide +kernel⟩
abbrev s_f_check_lengths : Stmt := top 40
abbrev N_f_check_lengths : List Str := ["first", "second"]
theorem sc_f_check_lengths : FnScope N_f_check_lengths ["first", "second"] (defScope s_f_check_lengths) := ⟨rfl, rfl, rfl, by decide +kernel, rfl, by decide +kernel, by decide +kernel⟩
abbrev s_f_long_row : Stmt := top 41
abbrev N_f_long_row : List Str := ["ground", "row", "taps", "answers", "many", "told", "windows", "i"]
theorem sc_f_long_row : FnScope N_f_long_row ["ground", "row", "taps", "answers"] (defScope s_f_long_row) := ⟨rfl, rfl, rfl, by decide +kernel, rfl, by decide +kernel, by decide +kernel⟩
abbrev s_f_law_fault : Stmt := top 57
abbrev N_f_law_fault : List Str := ["e", "base", "rows", "names", "name", "fields", "one"]
theorem sc_f_law_fault : FnScope N_f_law_fault ["e", "base"] (defScope s_f_law_fault) := ⟨rfl, rfl, rfl, by decide +kernel, rfl, by decide +kernel, by decide +kernel⟩
abbrev s_f_law_asked : Stmt := top 59
abbrev N_f_law_asked : List Str := ["p", "row", "taps", "many", "kept", "told", "e"]
theorem sc_f_law_asked : FnScope N_f_law_asked ["p", "row", "taps", "many"] (defScope s_f_law_asked) := ⟨rfl, rfl, rfl, by decide +kernel, rfl, by decide +kernel, by decide +kernel⟩
abbrev s_f_law : Stmt := top 61
abbrev N_f_law : List Str := ["script", "bag", "p", "size", "wide", "row", "taps", "due", "first", "lots", "many", "windows", "at", "told", "beyond", "other", "more", "asked", "k"]
theorem sc_f_law : FnScope N_f_law ["script"] (defScope s_f_law) := ⟨rfl, rfl, rfl, by decide +kernel, rfl, by decide +kernel, by decide +kernel⟩
structure Txt (K : PySem.W.Frag) (mg : Str → Option Value) : Prop where
  b_abs : mg "abs" = none
  b_bool : mg "bool" = none
  b_int : mg "int" = none
  b_isinstance : mg "isinstance" = none
  b_len : mg "len" = none
  b_list : mg "list" = none
  b_max : mg "max" = none
  b_range : mg "range" = none
  b_str : mg "str" = none
  b_sum : mg "sum" = none
  b_tuple : mg "tuple" = none
  b_zip : mg "zip" = none
  c_GREATEST_PRIME : ∃ t, mg "GREATEST_PRIME" = some (.int 10007 t)
  cl_Ground : Cls K (He.ga K "Ground")
  ex_TooMany : OexC K (He.ga K "TooMany") ∧ PySem.W.findIn K (.ref (He.ga K "TooMany")) "__init__" = some (some (.ref (He.ma K (He.ga K "TooMany") "__init__"))) ∧ PySem.W.typeIn K (.ref (He.ma K (He.ga K "TooMany") "__init__")) = some (.type "function") ∧ mg "TooMany" = some (.ref (He.ga K "TooMany"))
  g_BadFormula : mg "BadFormula" = some (.ref (He.ga K "BadFormula"))
  g_BadGround : mg "BadGround" = some (.ref (He.ga K "BadGround"))
  g_BadName : mg "BadName" = some (.ref (He.ga K "BadName"))
  g_BadNumber : mg "BadNumber" = some (.ref (He.ga K "BadNumber"))
  g_BadPoints : mg "BadPoints" = some (.ref (He.ga K "BadPoints"))
  g_BadProgram : mg "BadProgram" = some (.ref (He.ga K "BadProgram"))
  g_BadScript : mg "BadScript" = some (.ref (He.ga K "BadScript"))
  g_BadTable : mg "BadTable" = some (.ref (He.ga K "BadTable"))
  g_Broken : mg "Broken" = some (.ref (He.ga K "Broken"))
  g_Endless : mg "Endless" = some (.ref (He.ga K "Endless"))
  g_Enough : mg "Enough" = some (.ref (He.ga K "Enough"))
  g_Ground : mg "Ground" = some (.ref (He.ga K "Ground"))
  g_NoSuch : mg "NoSuch" = some (.ref (He.ga K "NoSuch"))
  g_NotLeast : mg "NotLeast" = some (.ref (He.ga K "NotLeast"))
  g_NotLow : mg "NotLow" = some (.ref (He.ga K "NotLow"))
  g_NotRight : mg "NotRight" = some (.ref (He.ga K "NotRight"))
  g_NothingLeft : mg "NothingLeft" = some (.ref (He.ga K "NothingLeft"))
  g_Refused : mg "Refused" = some (.ref (He.ga K "Refused"))
  g_Stops : mg "Stops" = some (.ref (He.ga K "Stops"))
  g_TooMany : mg "TooMany" = some (.ref (He.ga K "TooMany"))
  g_Unlike : mg "Unlike" = some (.ref (He.ga K "Unlike"))
  g__law_add : mg "_law_add" = some (.ref (He.ga K "_law_add"))
  g__law_asked : mg "_law_asked" = some (.ref (He.ga K "_law_asked"))
  g__law_bag : mg "_law_bag" = some (.ref (He.ga K "_law_bag"))
  g__law_copied : mg "_law_copied" = some (.ref (He.ga K "_law_copied"))
  g__law_draw : mg "_law_draw" = some (.ref (He.ga K "_law_draw"))
  g__law_due : mg "_law_due" = some (.ref (He.ga K "_law_due"))
  g__law_fault : mg "_law_fault" = some (.ref (He.ga K "_law_fault"))
  g__law_gcd : mg "_law_gcd" = some (.ref (He.ga K "_law_gcd"))
  g__law_int : mg "_law_int" = some (.ref (He.ga K "_law_int"))
  g__law_line : mg "_law_line" = some (.ref (He.ga K "_law_line"))
  g__law_mul : mg "_law_mul" = some (.ref (He.ga K "_law_mul"))
  g__law_num : mg "_law_num" = some (.ref (He.ga K "_law_num"))
  g__law_pick : mg "_law_pick" = some (.ref (He.ga K "_law_pick"))
  g__law_row : mg "_law_row" = some (.ref (He.ga K "_law_row"))
  g__law_same : mg "_law_same" = some (.ref (He.ga K "_law_same"))
  g__law_small : mg "_law_small" = some (.ref (He.ga K "_law_small"))
  g__law_spoil : mg "_law_spoil" = some (.ref (He.ga K "_law_spoil"))
  g__law_sums : mg "_law_sums" = some (.ref (He.ga K "_law_sums"))
  g_check_lengths : mg "check_lengths" = some (.ref (He.ga K "check_lengths"))
  g_dot : mg "dot" = some (.ref (He.ga K "dot"))
  g_inverse_modulo : mg "inverse_modulo" = some (.ref (He.ga K "inverse_modulo"))
  g_is_odd_prime : mg "is_odd_prime" = some (.ref (He.ga K "is_odd_prime"))
  g_long_row : mg "long_row" = some (.ref (He.ga K "long_row"))
  g_prime_of_line : mg "prime_of_line" = some (.ref (He.ga K "prime_of_line"))
  g_unsigned : mg "unsigned" = some (.ref (He.ga K "unsigned"))
  i_gcd : mg "gcd" = some (.builtin "math.gcd")
  m_Ground_add : Meth K (He.ga K "Ground") "add" (He.ma K (He.ga K "Ground") "add")
  m_Ground_mul : Meth K (He.ga K "Ground") "mul" (He.ma K (He.ga K "Ground") "mul")
  m_Ground_number : Meth K (He.ga K "Ground") "number" (He.ma K (He.ga K "Ground") "number")
  mk_Ground : Mk K (He.ga K "Ground") (He.ma K (He.ga K "Ground") "__init__")
  no_at : PySem.W.findIn K (.ref (He.ga K "TooMany")) "at" = some none
  no_code : PySem.W.findIn K (.ref (He.ga K "TooMany")) "code" = some none
  no_condition : PySem.W.findIn K (.ref (He.ga K "TooMany")) "condition" = some none
  no_cost : PySem.W.findIn K (.ref (He.ga K "TooMany")) "cost" = some none
  no_count : PySem.W.findIn K (.ref (He.ga K "TooMany")) "count" = some none
  no_line : PySem.W.findIn K (.ref (He.ga K "TooMany")) "line" = some none
  no_name : PySem.W.findIn K (.ref (He.ga K "TooMany")) "name" = some none
  no_place : PySem.W.findIn K (.ref (He.ga K "TooMany")) "place" = some none
  no_what : PySem.W.findIn K (.ref (He.ga K "TooMany")) "what" = some none
  no_where : PySem.W.findIn K (.ref (He.ga K "TooMany")) "where" = some none
  no_why : PySem.W.findIn K (.ref (He.ga K "TooMany")) "why" = some none
  xf : XfC K (He.ga K "TooMany")
  gr : GrK K
  tm : TmK K
  ft : FtK K
  ask : AskK K
section
variable {P : Program} {w : World} {K : PySem.W.Frag} {base : Heap} {mg : Str → Option Value}
theorem ok_f_law_gcd (T : Txt K mg) {fd : FuncData} (F : FunD K "_law_gcd" "_law_gcd" (defArgs s_f_law_gcd) (defBody s_f_law_gcd) (defScope s_f_law_gcd) [] [] (He.fAd K ("_law_gcd", none)) fd)  : OkF P w K mg base (L2N.CX P w) 1 ("_law_gcd", none) ["one", "two"] sp__law_gcd := by
  refine FunD.okF F (F.ok sc_f_law_gcd (fun vs H Q E h => ?_) (fun cdv A outer s H vs Q E hr h => ⟨t_f_law_gcd K, PSs.nox ?_, pure_gcd K vs H Q E h⟩)) fun _ _ _ _ _ _ us hl => match us, hl with | [_, _], _ => rfl
  · obtain ⟨_, _, rfl, _⟩ := h; rfl
  · exact (pss_cons (ps_par (i := 0) (j := 1) rfl sc_f_law_gcd.nd rfl rfl (by decide) rfl rfl (pa_cons (pe_callB call_abs rfl T.b_abs (by decide +kernel) (pa_cons (pv 0) pa_nil)) (pa_cons (pe_callB call_abs rfl T.b_abs (by decide +kernel) (pa_cons (pv 1) pa_nil)) pa_nil)) (by rfl))
    (pss_cons (ps_while PassesOwn.never (pt_cmpR u_gt (pv 1) pe_int (nomark _)) (pss_one (ps_par (i := 0) (j := 1) rfl sc_f_law_gcd.nd rfl rfl (by decide) rfl rfl (pa_cons (pv 1) (pa_cons (pe_op u_mod (pe_callTy u_int rfl T.b_int (by decide +kernel) (pa_cons (pv 0) pa_nil)) (pv 1)) pa_nil)) (by rfl))))
    (pss_one (ps_ret (pv 0)))))
theorem ok_f_law_num (T : Txt K mg) {fd : FuncData} (F : FunD K "_law_num" "_law_num" (defArgs s_f_law_num) (defBody s_f_law_num) (defScope s_f_law_num) [] [] (He.fAd K ("_law_num", none)) fd) (G__law_gcd : OkF P w K mg base (L2N.CX P w) 1 ("_law_gcd", none) ["one", "two"] sp__law_gcd) : OkF P w K mg base (L2N.CX P w) 2 ("_law_num", none) ["p", "top", "bottom"] sp__law_num := by
  refine FunD.okF F (F.ok sc_f_law_num (fun vs H Q E h => ?_) (fun cdv A outer s H vs Q E hr h => ⟨t_f_law_num K, PSs.nox ?_, pure_num K vs H Q E h⟩)) fun _ _ _ _ _ _ us hl => match us, hl with | [_, _, _], _ => rfl
  · obtain ⟨_, _, _, rfl, _⟩ := h; rfl
  · exact (pss_cons (ps_if (pt_cmpR u_gt (pv 0) pe_int (nomark _)) (pss_cons (ps_par3 (i := 3) (j := 4) (l := 5) rfl sc_f_law_num.nd rfl rfl rfl (by decide) (by decide) (by decide) rfl rfl rfl (pa_cons pe_int (pa_cons (pe_op op_sub (pv 0) pe_int) (pa_cons (pe_op u_mod (pe_callTy u_int rfl T.b_int (by decide +kernel) (pa_cons (pv 2) pa_nil)) (pv 0)) pa_nil))) (by rfl))
    (pss_cons (ps_while PassesOwn.never (pt_cmpR u_gt (pv 4) pe_int (nomark _)) (pss_cons (ps_set (i := 3) sc_f_law_num.nd rfl (Or.inl rfl) (pe_ifExp (pt_cmpR (u_eq (un64 hr)) (pe_op u_mod (pe_callTy u_int rfl T.b_int (by decide +kernel) (pa_cons (pv 4) pa_nil)) pe_int) pe_int (nomark _)) (pe_op u_mod (pe_callTy u_int rfl T.b_int (by decide +kernel) (pa_cons (pe_op u_mul (pv 3) (pv 5)) pa_nil)) (pv 0)) (pv 3)))
    (pss_cons (ps_set (i := 5) sc_f_law_num.nd rfl (Or.inl rfl) (pe_op u_mod (pe_callTy u_int rfl T.b_int (by decide +kernel) (pa_cons (pe_op u_mul (pv 5) (pv 5)) pa_nil)) (pv 0)))
    (pss_one (ps_set (i := 4) sc_f_law_num.nd rfl (Or.inl rfl) (pe_op u_fdiv (pv 4) pe_int))))))
    (pss_one (ps_ret (pe_op u_mod (pe_callTy u_int rfl T.b_int (by decide +kernel) (pa_cons (pe_op u_mul (pv 1) (pv 3)) pa_nil)) (pv 0)))))) pss_nil)
    (pss_cons (ps_set (i := 6) sc_f_law_num.nd rfl (Or.inl rfl) (pe_op u_mul (pe_own G__law_gcd (hr.mono (by omega)) rfl T.g__law_gcd passN (pa_cons (pv 1) (pa_cons (pv 2) pa_nil))) (pe_ifExp (pt_cmpR u_gt (pv 2) pe_int (nomark _)) pe_int (pe_un un_neg pe_int))))
    (pss_one (ps_ret (pe_tup (pa_cons (pe_op u_fdiv (pv 1) (pv 6)) (pa_cons (pe_op u_fdiv (pv 2) (pv 6)) pa_nil)))))))
theorem ok_f_law_int (T : Txt K mg) {fd : FuncData} (F : FunD K "_law_int" "_law_int" (defArgs s_f_law_int) (defBody s_f_law_int) (defScope s_f_law_int) [] [] (He.fAd K ("_law_int", none)) fd)  : OkF P w K mg base (L2N.CX P w) 1 ("_law_int", none) ["p", "k"] sp__law_int := by
  refine FunD.okF F (F.ok sc_f_law_int (fun vs H Q E h => ?_) (fun cdv A outer s H vs Q E hr h => ⟨t_f_law_int K, PSs.nox ?_, pure_int K vs H Q E h⟩)) fun _ _ _ _ _ _ us hl => match us, hl with | [_, _], _ => rfl
  · obtain ⟨_, _, _, rfl, _⟩ := h; rfl
  · exact (pss_one (ps_ret (pe_ifExp (pt_cmpR u_gt (pv 0) pe_int (nomark _)) (pe_op u_mod (pe_callTy u_int rfl T.b_int (by decide +kernel) (pa_cons (pv 1) pa_nil)) (pv 0)) (pe_tup (pa_cons (pv 1) (pa_cons pe_int pa_nil))))))
theorem ok_f_law_add (T : Txt K mg) {fd : FuncData} (F : FunD K "_law_add" "_law_add" (defArgs s_f_law_add) (defBody s_f_law_add) (defScope s_f_law_add) [] [] (He.fAd K ("_law_add", none)) fd) (G__law_num : OkF P w K mg base (L2N.CX P w) 2 ("_law_num", none) ["p", "top", "bottom"] sp__law_num) : OkF P w K mg base (L2N.CX P w) 3 ("_law_add", none) ["p", "one", "two"] sp__law_add := by
  refine FunD.okF F (F.ok sc_f_law_add (fun vs H Q E h => ?_) (fun cdv A outer s H vs Q E hr h => ⟨t_f_law_add K, PSs.nox ?_, pure_add K vs H Q E h⟩)) fun _ _ _ _ _ _ us hl => match us, hl with | [_, _, _], _ => rfl
  · obtain ⟨_, _, _, _, _, _, _, _, rfl, _⟩ := h; rfl
  · exact (pss_cons (ps_if (pt_cmpR u_gt (pv 0) pe_int (nomark _)) (pss_one (ps_ret (pe_op u_mod (pe_callTy u_int rfl T.b_int (by decide +kernel) (pa_cons (pe_op u_add (pv 1) (pv 2)) pa_nil)) (pv 0)))) pss_nil)
    (pss_cons (ps_if (PW.pt (pw_and (pt_cmpR (u_eq (un64 hr)) (pe_ix u_ix (pv 1) pe_int (fun _ _ => rfl)) pe_int (nomark _)) (pw_and1 (pt_cmpR (u_eq (un64 hr)) (pe_ix u_ix (pv 2) pe_int (fun _ _ => rfl)) pe_int (nomark _))))) (pss_one (ps_ret (pe_tup (pa_cons (pe_op u_add (pe_ix u_ix (pv 1) pe_int (fun _ _ => rfl)) (pe_ix u_ix (pv 2) pe_int (fun _ _ => rfl))) (pa_cons pe_int pa_nil))))) pss_nil)
    (pss_one (ps_ret (pe_own G__law_num (hr.mono (by omega)) rfl T.g__law_num passN (pa_cons pe_int (pa_cons (pe_op u_add (pe_op u_mul (pe_ix u_ix (pv 1) pe_int (fun _ _ => rfl)) (pe_ix u_ix (pv 2) pe_int (fun _ _ => rfl))) (pe_op u_mul (pe_ix u_ix (pv 2) pe_int (fun _ _ => rfl)) (pe_ix u_ix (pv 1) pe_int (fun _ _ => rfl)))) (pa_cons (pe_op u_mul (pe_ix u_ix (pv 1) pe_int (fun _ _ => rfl)) (pe_ix u_ix (pv 2) pe_int (fun _ _ => rfl))) pa_nil))))))))
theorem ok_f_law_mul (T : Txt K mg) {fd : FuncData} (F : FunD K "_law_mul" "_law_mul" (defArgs s_f_law_mul) (defBody s_f_law_mul) (defScope s_f_law_mul) [] [] (He.fAd K ("_law_mul", none)) fd) (G__law_num : OkF P w K mg base (L2N.CX P w) 2 ("_law_num", none) ["p", "top", "bottom"] sp__law_num) : OkF P w K mg base (L2N.CX P w) 3 ("_law_mul", none) ["p", "one", "two"] sp__law_mul := by
  refine FunD.okF F (F.ok sc_f_law_mul (fun vs H Q E h => ?_) (fun cdv A outer s H vs Q E hr h => ⟨t_f_law_mul K, PSs.nox ?_, pure_mul K vs H Q E h⟩)) fun _ _ _ _ _ _ us hl => match us, hl with | [_, _, _], _ => rfl
  · obtain ⟨_, _, _, _, _, _, _, _, rfl, _⟩ := h; rfl
  · exact (pss_cons (ps_if (pt_cmpR u_gt (pv 0) pe_int (nomark _)) (pss_one (ps_ret (pe_op u_mod (pe_callTy u_int rfl T.b_int (by decide +kernel) (pa_cons (pe_op u_mul (pv 1) (pv 2)) pa_nil)) (pv 0)))) pss_nil)
    (pss_cons (ps_if (PW.pt (pw_and (pt_cmpR (u_eq (un64 hr)) (pe_ix u_ix (pv 1) pe_int (fun _ _ => rfl)) pe_int (nomark _)) (pw_and1 (pt_cmpR (u_eq (un64 hr)) (pe_ix u_ix (pv 2) pe_int (fun _ _ => rfl)) pe_int (nomark _))))) (pss_one (ps_ret (pe_tup (pa_cons (pe_op u_mul (pe_ix u_ix (pv 1) pe_int (fun _ _ => rfl)) (pe_ix u_ix (pv 2) pe_int (fun _ _ => rfl))) (pa_cons pe_int pa_nil))))) pss_nil)
    (pss_one (ps_ret (pe_own G__law_num (hr.mono (by omega)) rfl T.g__law_num passN (pa_cons pe_int (pa_cons (pe_op u_mul (pe_ix u_ix (pv 1) pe_int (fun _ _ => rfl)) (pe_ix u_ix (pv 2) pe_int (fun _ _ => rfl))) (pa_cons (pe_op u_mul (pe_ix u_ix (pv 1) pe_int (fun _ _ => rfl)) (pe_ix u_ix (pv 2) pe_int (fun _ _ => rfl))) pa_nil))))))))
theorem ok_f_law_draw (T : Txt K mg) {fd : FuncData} (F : FunD K "_law_draw" "_law_draw" (defArgs s_f_law_draw) (defBody s_f_law_draw) (defScope s_f_law_draw) [] [] (He.fAd K ("_law_draw", none)) fd)  : OkF P w K mg base (L2N.CX P w) 1 ("_law_draw", none) ["bag", "size"] sp__law_draw := by
  refine FunD.okF F (F.ok sc_f_law_draw (fun vs H Q E h => ?_) (fun cdv A outer s H vs Q E hr h => ⟨t_f_law_draw K, PSs.nox ?_, pure_draw K vs H Q E h⟩)) fun _ _ _ _ _ _ us hl => match us, hl with | [_, _], _ => rfl
  · obtain ⟨_, _, _, rfl, _⟩ := h; rfl
  · exact (pss_cons (ps_asg (pe_op u_add (pe_ix u_ix (pv 0) pe_int (fun _ _ => rfl)) pe_int) (pg_sub (pv 0) pe_int set_list))
    (pss_cut (ps_if (PW.pt (pw_and (pt_cmpR (u_eq (un64 hr)) (pe_ix u_ix (pv 0) pe_int (fun _ _ => rfl)) pe_int (nomark _)) (pw_and1 (pt_cmpR (u_lt (un64 hr)) (pe_ix u_ix (pv 0) pe_int (fun _ _ => rfl)) (pe_callB u_len rfl T.b_len (by decide +kernel) (pa_cons (pe_ix u_ix (pv 0) pe_int (fun _ _ => rfl)) pa_nil)) (nomark _))))) (pss_cons (ps_set (i := 2) sc_f_law_draw.nd rfl (Or.inl rfl) (pe_ix u_ix (pe_ix u_ix (pv 0) pe_int (fun _ _ => rfl)) (pe_ix u_ix (pv 0) pe_int (fun _ _ => rfl)) (fun _ _ => rfl)))
    (pss_cons (ps_asg (pe_op u_add (pe_ix u_ix (pv 0) pe_int (fun _ _ => rfl)) pe_int) (pg_sub (pv 0) pe_int set_list))
    (pss_one (ps_if (pt_cmpR u_ge (pv 2) (pe_op op_pow pe_int pe_int) (nomark _)) (pss_one (ps_asg (pe_callTy u_int rfl T.b_int (by decide +kernel) (pa_cons (pv 2) pa_nil)) (pg_sub (pv 0) pe_int set_list))) (pss_one (ps_asg (pe_op u_mod (pe_callTy u_int rfl T.b_int (by decide +kernel) (pa_cons (pe_op u_add (pe_op u_add (pe_op u_mul (pe_ix u_ix (pv 0) pe_int (fun _ _ => rfl)) pe_int) (pe_op u_mul (pe_op u_mod (pe_callTy u_int rfl T.b_int (by decide +kernel) (pa_cons (pv 2) pa_nil)) pe_int) pe_int)) pe_int) pa_nil)) pe_int) (pg_sub (pv 0) pe_int set_list))))))) pss_nil)
    (pss_cons (ps_if (pt_cmpR u_gt (pe_ix u_ix (pv 0) pe_int (fun _ _ => rfl)) pe_int (nomark _)) (pss_cons (ps_set (i := 3) sc_f_law_draw.nd rfl (Or.inl rfl) (pe_op u_mod (pe_callTy u_int rfl T.b_int (by decide +kernel) (pa_cons (pe_ix u_ix (pv 0) pe_int (fun _ _ => rfl)) pa_nil)) (pv 1)))
    (pss_cons (ps_asg (pe_op u_fdiv (pe_ix u_ix (pv 0) pe_int (fun _ _ => rfl)) (pv 1)) (pg_sub (pv 0) pe_int set_list))
    (pss_one (ps_ret (pv 3))))) pss_nil)
    (pss_cons (ps_asg (pe_op u_mod (pe_callTy u_int rfl T.b_int (by decide +kernel) (pa_cons (pe_op u_add (pe_op u_add (pe_op op_pow (pe_ix u_ix (pv 0) pe_int (fun _ _ => rfl)) pe_int) (pe_op u_mul (pe_ix u_ix (pv 0) pe_int (fun _ _ => rfl)) pe_int)) pe_int) pa_nil)) pe_int) (pg_sub (pv 0) pe_int set_list))
    (pss_one (ps_ret (pe_op u_mod (pe_callTy u_int rfl T.b_int (by decide +kernel) (pa_cons (pe_op u_add (pe_op u_fdiv (pe_ix u_ix (pv 0) pe_int (fun _ _ => rfl)) pe_int) (pe_op u_mul (pe_op u_mod (pe_callTy u_int rfl T.b_int (by decide +kernel) (pa_cons (pe_ix u_ix (pv 0) pe_int (fun _ _ => rfl)) pa_nil)) pe_int) pe_int)) pa_nil)) (pv 1))))))))
theorem ok_f_law_pick (T : Txt K mg) {fd : FuncData} (F : FunD K "_law_pick" "_law_pick" (defArgs s_f_law_pick) (defBody s_f_law_pick) (defScope s_f_law_pick) [] [] (He.fAd K ("_law_pick", none)) fd) (G__law_draw : OkF P w K mg base (L2N.CX P w) 1 ("_law_draw", none) ["bag", "size"] sp__law_draw) : OkF P w K mg base (L2N.CX P w) 2 ("_law_pick", none) ["bag", "menu"] sp__law_pick := by
  refine FunD.okF F (F.ok sc_f_law_pick (fun vs H Q E h => ?_) (fun cdv A outer s H vs Q E hr h => ⟨t_f_law_pick K, PSs.nox ?_, pure_pick K vs H Q E h⟩)) fun _ _ _ _ _ _ us hl => match us, hl with | [_, _], _ => rfl
  · obtain ⟨_, _, _, _, rfl, _⟩ := h; rfl
  · exact (pss_one (ps_ret (pe_ix u_ix (pv 1) (pe_own G__law_draw (hr.mono (by omega)) rfl T.g__law_draw passN (pa_cons (pv 0) (pa_cons (pe_callB u_len rfl T.b_len (by decide +kernel) (pa_cons (pv 1) pa_nil)) pa_nil))) (fun _ _ => rfl))))
theorem ok_f_law_small (T : Txt K mg) {fd : FuncData} (F : FunD K "_law_small" "_law_small" (defArgs s_f_law_small) (defBody s_f_law_small) (defScope s_f_law_small) [] [] (He.fAd K ("_law_small", none)) fd) (G__law_draw : OkF P w K mg base (L2N.CX P w) 1 ("_law_draw", none) ["bag", "size"] sp__law_draw) (G__law_num : OkF P w K mg base (L2N.CX P w) 2 ("_law_num", none) ["p", "top", "bottom"] sp__law_num) (G__law_pick : OkF P w K mg base (L2N.CX P w) 2 ("_law_pick", none) ["bag", "menu"] sp__law_pick) : OkF P w K mg base (L2N.CX P w) 3 ("_law_small", none) ["bag", "p"] sp__law_small := by
  refine FunD.okF F (F.ok sc_f_law_small (fun vs H Q E h => ?_) (fun cdv A outer s H vs Q E hr h => ⟨t_f_law_small K, PSs.nox ?_, pure_small K vs H Q E h⟩)) fun _ _ _ _ _ _ us hl => match us, hl with | [_, _], _ => rfl
  · obtain ⟨_, _, _, rfl, _⟩ := h; rfl
  · exact (pss_cons (ps_if (pt_cmpR u_gt (pv 1) pe_int (nomark _)) (pss_one (ps_ret (pe_own G__law_draw (hr.mono (by omega)) rfl T.g__law_draw passN (pa_cons (pv 0) (pa_cons (pv 1) pa_nil))))) pss_nil)
    (pss_cons (ps_set (i := 2) sc_f_law_small.nd rfl (Or.inl rfl) (pe_own G__law_pick (hr.mono (by omega)) rfl T.g__law_pick passN (pa_cons (pv 0) (pa_cons (pe_lst (pa_cons pe_int (pa_cons pe_int (pa_cons pe_int (pa_cons pe_int (pa_cons pe_int pa_nil)))))) pa_nil))))
    (pss_one (ps_ret (pe_own G__law_num (hr.mono (by omega)) rfl T.g__law_num passN (pa_cons pe_int (pa_cons (pe_op op_sub (pe_own G__law_draw (hr.mono (by omega)) rfl T.g__law_draw passN (pa_cons (pv 0) (pa_cons pe_int pa_nil))) pe_int) (pa_cons (pv 2) pa_nil))))))))
theorem ok_f_law_row (T : Txt K mg) {fd : FuncData} (F : FunD K "_law_row" "_law_row" (defArgs s_f_law_row) (defBody s_f_law_row) (defScope s_f_law_row) [] [] (He.fAd K ("_law_row", none)) fd) (G__law_small : OkF P w K mg base (L2N.CX P w) 3 ("_law_small", none) ["bag", "p"] sp__law_small) : OkF P w K mg base (L2N.CX P w) 4 ("_law_row", none) ["bag", "p", "size"] sp__law_row := by
  refine FunD.okF F (F.ok sc_f_law_row (fun vs H Q E h => ?_) (fun cdv A outer s H vs Q E hr h => ⟨t_f_law_row K, PSs.nox ?_, pure_row K vs H Q E h⟩)) fun _ _ _ _ _ _ us hl => match us, hl with | [_, _, _], _ => rfl
  · obtain ⟨_, _, _, _, rfl, _⟩ := h; rfl
  · exact (pss_one (ps_ret (pe_lc (own := [("k", 3)]) rfl sc_f_law_row.nd (pi_range1 rfl T.b_range (pa_cons (pv 2) pa_nil)) (blkOk_by (N := N_f_law_row) (sc := defScope s_f_law_row) (own := [("k", 3)]) (by decide +kernel)) (fun _ _ _ _ _ => (pg_name (i := 3) sc_f_law_row.nd rfl (Or.inl rfl))) (fun _ _ _ _ _ => pts_nil) (fun _ _ _ _ _ => (pe_own G__law_small (hr.mono (by omega)) rfl T.g__law_small passN (pa_cons (pv 0) (pa_cons (pv 1) pa_nil)))))))
theorem ok_f_law_bag (T : Txt K mg) {fd : FuncData} (F : FunD K "_law_bag" "_law_bag" (defArgs s_f_law_bag) (defBody s_f_law_bag) (defScope s_f_law_bag) [] [] (He.fAd K ("_law_bag", none)) fd)  : OkF P w K mg base (L2N.CX P w) 1 ("_law_bag", none) ["script"] (sp__law_bag K) := by
  refine FunD.okF F (F.ok sc_f_law_bag (fun vs H Q E h => ?_) (fun cdv A outer s H vs Q E hr h => ⟨t_f_law_bag K, PSs.nox ?_, pure_bag K vs H Q E h⟩)) fun _ _ _ _ _ _ us hl => match us, hl with | [_], _ => rfl
  · obtain ⟨_, _, rfl, _⟩ := h; rfl
  · exact (pss_cons (ps_set (i := 1) sc_f_law_bag.nd rfl (Or.inl rfl) pe_int)
    (pss_cons (ps_for PassesOwn.never rfl (pi_seq (pe_slice u_sl (pv 0) po_none (po_some pe_int))) (pg_name (i := 2) sc_f_law_bag.nd rfl (Or.inl rfl)) (pss_one (ps_set (i := 1) sc_f_law_bag.nd rfl (Or.inl rfl) (pe_op u_mod (pe_callTy u_int rfl T.b_int (by decide +kernel) (pa_cons (pe_op u_add (pe_op u_add (pe_op u_mul (pv 1) pe_int) (pe_op u_mod (pe_callTy u_int rfl T.b_int (by decide +kernel) (pa_cons (pv 2) pa_nil)) pe_int)) pe_int) pa_nil)) pe_int))))
    (pss_one (ps_ret (pe_lst (pa_cons (pe_callTy u_list rfl T.b_list (by decide +kernel) (pa_cons (pe_slice u_sl (pv 0) po_none (po_some pe_int)) pa_nil)) (pa_cons pe_int (pa_cons pe_int (pa_cons (pv 1) (pa_cons pe_int pa_nil))))))))))
theorem ok_f_law_line (T : Txt K mg) {fd : FuncData} (F : FunD K "_law_line" "_law_line" (defArgs s_f_law_line) (defBody s_f_law_line) (defScope s_f_law_line) [] [] (He.fAd K ("_law_line", none)) fd)  : OkF P w K mg base (L2N.CX P w) 1 ("_law_line", none) ["p"] sp__law_line := by
  refine FunD.okF F (F.ok sc_f_law_line (fun vs H Q E h => ?_) (fun cdv A outer s H vs Q E hr h => ⟨t_f_law_line K, PSs.nox ?_, pure_line K vs H Q E h⟩)) fun _ _ _ _ _ _ us hl => match us, hl with | [_], _ => rfl
  · obtain ⟨_, rfl, _⟩ := h; rfl
  · exact (pss_one (ps_ret (pe_ifExp (pt_cmpR u_gt (pv 0) pe_int (nomark _)) (pe_op u_add pe_str (pe_callTy u_str rfl T.b_str (by decide +kernel) (pa_cons (pv 0) pa_nil))) pe_str)))
theorem ok_f_law_copied (T : Txt K mg) {fd : FuncData} (F : FunD K "_law_copied" "_law_copied" (defArgs s_f_law_copied) (defBody s_f_law_copied) (defScope s_f_law_copied) [] [] (He.fAd K ("_law_copied", none)) fd) : ∀ n : Nat, OkF P w K mg base (L2N.CX P w) (n + 1) ("_law_copied", none) ["thing"] (spC n)
  | 0 => FunD.okF F (F.ok sc_f_law_copied (fun _ _ _ _ h => h.elim) (fun _ _ _ _ _ _ _ _ _ h => h.elim)) fun _ _ _ _ _ _ us hl => match us, hl with | [_], _ => rfl
  | n + 1 => by
    have G__law_copied := ok_f_law_copied T F n
    refine FunD.okF F (F.ok sc_f_law_copied (fun vs H Q E h => ?_) (fun cdv A outer s H vs Q E hr h => ⟨t_f_law_copied K (spC n), PSs.nox ?_, pure_copied K n vs H Q E h⟩)) fun _ _ _ _ _ _ us hl => match us, hl with | [_], _ => rfl
    · obtain ⟨_, _,  rfl, _⟩ := h; rfl
    · exact (pss_cons (ps_if (pt_val (pe_callB u_isi rfl T.b_isinstance (by decide +kernel) (pa_cons (pv 0) (pa_cons (pe_bltn rfl T.b_list (by decide +kernel) rfl) pa_nil)))) (pss_one (ps_ret (pe_lc (own := [("one", 1)]) rfl sc_f_law_copied.nd (pi_seq (pv 0)) (blkOk_by (N := N_f_law_copied) (sc := defScope s_f_law_copied) (own := [("one", 1)]) (by decide +kernel)) (fun _ _ _ _ _ => (pg_name (i := 1) sc_f_law_copied.nd rfl (Or.inl rfl))) (fun _ _ _ _ _ => pts_nil) (fun _ _ _ _ _ => (pe_own G__law_copied (hr.mono (by omega)) rfl T.g__law_copied passN (pa_cons (pv 1) pa_nil)))))) pss_nil)
    (pss_cons (ps_if (pt_val (pe_callB u_isi rfl T.b_isinstance (by decide +kernel) (pa_cons (pv 0) (pa_cons (pe_bltn rfl T.b_tuple (by decide +kernel) rfl) pa_nil)))) (pss_one (ps_ret (pe_callTy u_tuple rfl T.b_tuple (by decide +kernel) (pa_cons (pe_lc (own := [("one", 1)]) rfl sc_f_law_copied.nd (pi_seq (pv 0)) (blkOk_by (N := N_f_law_copied) (sc := defScope s_f_law_copied) (own := [("one", 1)]) (by decide +kernel)) (fun _ _ _ _ _ => (pg_name (i := 1) sc_f_law_copied.nd rfl (Or.inl rfl))) (fun _ _ _ _ _ => pts_nil) (fun _ _ _ _ _ => (pe_own G__law_copied (hr.mono (by omega)) rfl T.g__law_copied passN (pa_cons (pv 1) pa_nil)))) pa_nil)))) pss_nil)
    (pss_one (ps_ret (pv 0)))))
theorem ok_f_law_same (T : Txt K mg) {fd : FuncData} (F : FunD K "_law_same" "_law_same" (defArgs s_f_law_same) (defBody s_f_law_same) (defScope s_f_law_same) [] [] (He.fAd K ("_law_same", none)) fd) : ∀ n : Nat, OkF P w K mg base (L2N.CX P w) (n + 1) ("_law_same", none) ["told", "due"] (spS n)
  | 0 => FunD.okF F (F.ok sc_f_law_same (fun _ _ _ _ h => h.elim) (fun _ _ _ _ _ _ _ _ _ h => h.elim)) fun _ _ _ _ _ _ us hl => match us, hl with | [_, _], _ => rfl
  | n + 1 => by
    have G__law_same := ok_f_law_same T F n
    refine FunD.okF F (F.ok sc_f_law_same (fun vs H Q E h => ?_) (fun cdv A outer s H vs Q E hr h => ⟨t_f_law_same K (spS n), PSs.nox ?_, pure_same K n vs H Q E h⟩)) fun _ _ _ _ _ _ us hl => match us, hl with | [_, _], _ => rfl
    · obtain ⟨_, _, _,  rfl, _⟩ := h; rfl
    · exact (pss_cons (ps_if (PW.pt (pw_or (PW.pt (pw_and (pt_val (pe_callB u_isi rfl T.b_isinstance (by decide +kernel) (pa_cons (pv 1) (pa_cons (pe_bltn rfl T.b_list (by decide +kernel) rfl) pa_nil)))) (pw_and1 (pt_val (pe_callB u_isi rfl T.b_isinstance (by decide +kernel) (pa_cons (pv 0) (pa_cons (pe_bltn rfl T.b_list (by decide +kernel) rfl) pa_nil))))))) (pw_or1 (PW.pt (pw_and (pt_val (pe_callB u_isi rfl T.b_isinstance (by decide +kernel) (pa_cons (pv 1) (pa_cons (pe_bltn rfl T.b_tuple (by decide +kernel) rfl) pa_nil)))) (pw_and1 (pt_val (pe_callB u_isi rfl T.b_isinstance (by decide +kernel) (pa_cons (pv 0) (pa_cons (pe_bltn rfl T.b_tuple (by decide +kernel) rfl) pa_nil)))))))))) (pss_one (ps_ret (pe_and (pe_cmpR (u_eq (un64 hr)) (pe_callB u_len rfl T.b_len (by decide +kernel) (pa_cons (pv 0) pa_nil)) (pe_callB u_len rfl T.b_len (by decide +kernel) (pa_cons (pv 1) pa_nil)) (nomark _)) (pe_one (pe_cmpR (u_eq (un64 hr)) (pe_lc (own := [("k", 2)]) rfl sc_f_law_same.nd (pi_range1 rfl T.b_range (pa_cons (pe_callB u_len rfl T.b_len (by decide +kernel) (pa_cons (pv 1) pa_nil)) pa_nil)) (blkOk_by (N := N_f_law_same) (sc := defScope s_f_law_same) (own := [("k", 2)]) (by decide +kernel)) (fun _ _ _ _ _ => (pg_name (i := 2) sc_f_law_same.nd rfl (Or.inl rfl))) (fun _ _ _ _ _ => (pts_one (pt_not (pt_val (pe_own G__law_same (hr.mono (by omega)) rfl T.g__law_same passN (pa_cons (pe_ix u_ix (pv 0) (pv 2) (fun _ _ => rfl)) (pa_cons (pe_ix u_ix (pv 1) (pv 2) (fun _ _ => rfl)) pa_nil))))))) (fun _ _ _ _ _ => (pv 2))) (pe_lst pa_nil) (nomark _)))))) pss_nil)
    (pss_cons (ps_if (PW.pt (pw_or (pt_val (pe_callB u_isi rfl T.b_isinstance (by decide +kernel) (pa_cons (pv 1) (pa_cons (pe_bltn rfl T.b_bool (by decide +kernel) rfl) pa_nil)))) (pw_or1 (pt_val (pe_callB u_isi rfl T.b_isinstance (by decide +kernel) (pa_cons (pv 0) (pa_cons (pe_bltn rfl T.b_bool (by decide +kernel) rfl) pa_nil))))))) (pss_one (ps_ret (pe_and (pe_callB u_isi rfl T.b_isinstance (by decide +kernel) (pa_cons (pv 1) (pa_cons (pe_bltn rfl T.b_bool (by decide +kernel) rfl) pa_nil))) (pe_and (pe_callB u_isi rfl T.b_isinstance (by decide +kernel) (pa_cons (pv 0) (pa_cons (pe_bltn rfl T.b_bool (by decide +kernel) rfl) pa_nil))) (pe_one (pe_cmpR (u_eq (un64 hr)) (pv 0) (pv 1) (nomark _))))))) pss_nil)
    (pss_cons (ps_if (PW.pt (pw_or (PW.pt (pw_and (pt_val (pe_callB u_isi rfl T.b_isinstance (by decide +kernel) (pa_cons (pv 1) (pa_cons (pe_bltn rfl T.b_int (by decide +kernel) rfl) pa_nil)))) (pw_and1 (pt_val (pe_callB u_isi rfl T.b_isinstance (by decide +kernel) (pa_cons (pv 0) (pa_cons (pe_bltn rfl T.b_int (by decide +kernel) rfl) pa_nil))))))) (pw_or1 (PW.pt (pw_and (pt_val (pe_callB u_isi rfl T.b_isinstance (by decide +kernel) (pa_cons (pv 1) (pa_cons (pe_bltn rfl T.b_str (by decide +kernel) rfl) pa_nil)))) (pw_and1 (pt_val (pe_callB u_isi rfl T.b_isinstance (by decide +kernel) (pa_cons (pv 0) (pa_cons (pe_bltn rfl T.b_str (by decide +kernel) rfl) pa_nil)))))))))) (pss_one (ps_ret (pe_cmpR (u_eq (un64 hr)) (pv 0) (pv 1) (nomark _)))) pss_nil)
    (pss_one (ps_ret (pe_and (pe_cmpR op_isN (pv 0) pe_non (nomark _)) (pe_one (pe_cmpR op_isN (pv 1) pe_non (nomark _)))))))))
theorem ok_f_law_spoil (T : Txt K mg) {fd : FuncData} (F : FunD K "_law_spoil" "_law_spoil" (defArgs s_f_law_spoil) (defBody s_f_law_spoil) (defScope s_f_law_spoil) [] [] (He.fAd K ("_law_spoil", none)) fd) : ∀ n : Nat, OkF P w K mg base (L2N.CX P w) (n + 1) ("_law_spoil", none) ["thing"] (spP n)
  | 0 => FunD.okF F (F.ok sc_f_law_spoil (fun _ _ _ _ h => h.elim) (fun _ _ _ _ _ _ _ _ _ h => h.elim)) fun _ _ _ _ _ _ us hl => match us, hl with | [_], _ => rfl
  | n + 1 => by
    have G__law_spoil := ok_f_law_spoil T F n
    refine FunD.okF F (F.ok sc_f_law_spoil (fun vs H Q E h => ?_) (fun cdv A outer s H vs Q E hr h => ⟨t_f_law_spoil K (spP n), PSs.nox ?_, pure_spoil K n vs H Q E h⟩)) fun _ _ _ _ _ _ us hl => match us, hl with | [_], _ => rfl
    · obtain ⟨_, _,  rfl, _⟩ := h; rfl
    · exact (pss_cut (ps_if (pt_val (pe_callB u_isi rfl T.b_isinstance (by decide +kernel) (pa_cons (pv 0) (pa_cons (pe_bltn rfl T.b_tuple (by decide +kernel) rfl) pa_nil)))) (pss_one (ps_for PassesOwn.never rfl (pi_seq (pv 0)) (pg_name (i := 1) sc_f_law_spoil.nd rfl (Or.inl rfl)) (pss_one (ps_expr (pe_own G__law_spoil (hr.mono (by omega)) rfl T.g__law_spoil passN (pa_cons (pv 1) pa_nil)))))) pss_nil)
    (pss_cut (ps_if (pt_val (pe_callB u_isi rfl T.b_isinstance (by decide +kernel) (pa_cons (pv 0) (pa_cons (pe_bltn rfl T.b_list (by decide +kernel) rfl) pa_nil)))) (pss_cons (ps_for PassesOwn.never rfl (pi_seq (pv 0)) (pg_name (i := 1) sc_f_law_spoil.nd rfl (Or.inl rfl)) (pss_one (ps_expr (pe_own G__law_spoil (hr.mono (by omega)) rfl T.g__law_spoil passN (pa_cons (pv 1) pa_nil)))))
    (pss_cons (ps_expr (pe_bm0 PySem.F.plainAttrs_list PySem.F.slot_list_reverse PySem.F.type_list_reverse mt_reverse (pv 0)))
    (pss_one (ps_expr (pe_bm PySem.F.plainAttrs_list PySem.F.slot_list_append PySem.F.type_list_append mt_append (pv 0) (pa_cons pe_str pa_nil)))))) pss_nil)
    (pss_one (ps_ret (pv 0)))))
theorem ok_f_law_due (T : Txt K mg) {fd : FuncData} (F : FunD K "_law_due" "_law_due" (defArgs s_f_law_due) (defBody s_f_law_due) (defScope s_f_law_due) [] [] (He.fAd K ("_law_due", none)) fd)  : OkF P w K mg base (L2N.CX P w) 1 ("_law_due", none) ["name", "fields"] sp__law_due := by
  refine FunD.okF F (F.ok sc_f_law_due (fun vs H Q E h => ?_) (fun cdv A outer s H vs Q E hr h => ⟨t_f_law_due K, PSs.nox ?_, pure_due K vs H Q E h⟩)) fun _ _ _ _ _ _ us hl => match us, hl with | [_, _], _ => rfl
  · obtain ⟨_, _, _, _, rfl, _⟩ := h; rfl
  · exact (pss_cons (ps_set (i := 2) sc_f_law_due.nd rfl (Or.inl rfl) (pe_ifExp (pt_cmpR (u_eq (un64 hr)) (pv 0) pe_str (nomark _)) pe_str (pe_ifExp (pt_cmpR u_in (pv 0) (pe_lst (pa_cons pe_str (pa_cons pe_str (pa_cons pe_str (pa_cons pe_str pa_nil))))) rfl) pe_str pe_str)))
    (pss_one (ps_ret (pe_lst (pa_cons pe_str (pa_cons (pv 2) (pa_cons (pe_lst (pa_cons (pv 0) pa_nil)) (pa_cons (pv 1) (pa_cons (pv 0) pa_nil)))))))))
theorem ok_f_law_sums (T : Txt K mg) {fd : FuncData} (F : FunD K "_law_sums" "_law_sums" (defArgs s_f_law_sums) (defBody s_f_law_sums) (defScope s_f_law_sums) [] [] (He.fAd K ("_law_sums", none)) fd) (G__law_add : OkF P w K mg base (L2N.CX P w) 3 ("_law_add", none) ["p", "one", "two"] sp__law_add) (G__law_int : OkF P w K mg base (L2N.CX P w) 1 ("_law_int", none) ["p", "k"] sp__law_int) (G__law_mul : OkF P w K mg base (L2N.CX P w) 3 ("_law_mul", none) ["p", "one", "two"] sp__law_mul) : OkF P w K mg base (L2N.CX P w) 4 ("_law_sums", none) ["p", "row", "taps"] sp__law_sums := by
  refine FunD.okF F (F.ok sc_f_law_sums (fun vs H Q E h => ?_) (fun cdv A outer s H vs Q E hr h => ⟨t_f_law_sums K, PSs.nox ?_, pure_sums K vs H Q E h⟩)) fun _ _ _ _ _ _ us hl => match us, hl with | [_, _, _], _ => rfl
  · obtain ⟨_, _, _, _, _, _, rfl, _⟩ := h; rfl
  · exact (pss_cons (ps_set (i := 3) sc_f_law_sums.nd rfl (Or.inl rfl) (pe_lst pa_nil))
    (pss_cons (ps_for PassesOwn.never rfl (pi_range1 rfl T.b_range (pa_cons (pe_op u_add (pe_op op_sub (pe_callB u_len rfl T.b_len (by decide +kernel) (pa_cons (pv 1) pa_nil)) (pe_callB u_len rfl T.b_len (by decide +kernel) (pa_cons (pv 2) pa_nil))) pe_int) pa_nil)) (pg_name (i := 4) sc_f_law_sums.nd rfl (Or.inl rfl)) (pss_cons (ps_set (i := 5) sc_f_law_sums.nd rfl (Or.inl rfl) (pe_own G__law_int (hr.mono (by omega)) rfl T.g__law_int passN (pa_cons (pv 0) (pa_cons pe_int pa_nil))))
    (pss_cons (ps_for PassesOwn.never rfl (pi_range1 rfl T.b_range (pa_cons (pe_callB u_len rfl T.b_len (by decide +kernel) (pa_cons (pv 2) pa_nil)) pa_nil)) (pg_name (i := 6) sc_f_law_sums.nd rfl (Or.inl rfl)) (pss_one (ps_set (i := 5) sc_f_law_sums.nd rfl (Or.inl rfl) (pe_own G__law_add (hr.mono (by omega)) rfl T.g__law_add passN (pa_cons (pv 0) (pa_cons (pv 5) (pa_cons (pe_own G__law_mul (hr.mono (by omega)) rfl T.g__law_mul passN (pa_cons (pv 0) (pa_cons (pe_ix u_ix (pv 1) (pe_op u_add (pv 4) (pv 6)) (fun _ _ => rfl)) (pa_cons (pe_ix u_ix (pv 2) (pv 6) (fun _ _ => rfl)) pa_nil)))) pa_nil)))))))
    (pss_one (ps_expr (pe_bm PySem.F.plainAttrs_list PySem.F.slot_list_append PySem.F.type_list_append mt_append (pv 3) (pa_cons (pv 5) pa_nil)))))))
    (pss_one (ps_ret (pv 3)))))
theorem ok_f_inverse_modulo {fd : FuncData} (F : FunD K "inverse_modulo" "inverse_modulo" (defArgs s_f_inverse_modulo) (defBody s_f_inverse_modulo) (defScope s_f_inverse_modulo) [] [] (He.fAd K ("inverse_modulo", none)) fd) : OkF P w K mg base (L2N.CX P w) 1 ("inverse_modulo", none) ["number", "modulus"] sp_inverse_modulo :=
  FunD.okF F (F.ok sc_f_inverse_modulo (fun _ _ _ _ h => h.elim) (fun _ _ _ _ _ _ _ _ _ h => h.elim)) fun _ _ _ _ _ _ us hl => match us, hl with | [_, _], _ => rfl
theorem bd_m_Ground_number {fd : FuncData} (F : FunD K "number" "Ground.number" (defArgs s_m_Ground_number) (defBody s_m_Ground_number) (defScope s_m_Ground_number) [.int 1] [] (He.fAd K ("Ground", some "number")) fd) : ∃ ds, Vals [] ds ∧ Binds K fd ["self", "top", "bottom"] ds := F.binds1 3 1 (by decide) rfl fun T kV doc pm an cdv ct us its h1 h2 => match us, its, h1, h2 with | [_, _, _], [_], _, _ => ⟨_, rfl, rfl⟩
theorem ok_m_Ground_number (T : Txt K mg) {fd : FuncData} (F : FunD K "number" "Ground.number" (defArgs s_m_Ground_number) (defBody s_m_Ground_number) (defScope s_m_Ground_number) [.int 1] [] (He.fAd K ("Ground", some "number")) fd) (G_inverse_modulo : OkF P w K mg base (L2N.CX P w) 1 ("inverse_modulo", none) ["number", "modulus"] sp_inverse_modulo) : OkM P w K mg base 2 "Ground" "number" ["self", "top", "bottom"] (sp_Ground_number K) [] :=
  (by
    obtain ⟨ds, hv, hb⟩ := bd_m_Ground_number F
    refine ⟨⟨fd, ds, (F.ok sc_m_Ground_number (fun vs H Q E h => ?_) (fun cdv A outer s H vs Q E hr h => ⟨t_m_Ground_number K, PSs.nox ?_, pure_number K T.gr vs H Q E h⟩)), hv, hb⟩⟩
    · obtain ⟨_, _, _, _, rfl, _⟩ := h; rfl
    · exact (pss_cons (ps_if (pt_cmpR op_notN (pe_fld (pv 0) rfl) pe_non (nomark _)) (pss_cons (ps_if (pt_cmpR (u_eq (un64 hr)) (pe_op u_mod (pv 2) (pe_fld (pv 0) rfl)) pe_int (nomark _)) (pss_one ps_never) pss_nil)
      (pss_one (ps_ret (pe_op u_mod (pe_op u_mul (pv 1) (pe_own G_inverse_modulo (hr.mono (by omega)) rfl T.g_inverse_modulo passN (pa_cons (pv 2) (pa_cons (pe_fld (pv 0) rfl) pa_nil)))) (pe_fld (pv 0) rfl))))) pss_nil)
      (pss_cons (ps_if (pt_cmpR (u_eq (un64 hr)) (pv 2) pe_int (nomark _)) (pss_one ps_never) pss_nil)
      (pss_cons (ps_set (i := 3) sc_m_Ground_number.nd rfl (Or.inl rfl) (pe_callBfun cr_gcd rfl T.i_gcd (pa_cons (pv 1) (pa_cons (pv 2) pa_nil))))
      (pss_cut (ps_if (pt_cmpR (u_lt (un64 hr)) (pv 2) pe_int (nomark _)) (pss_one (ps_set (i := 3) sc_m_Ground_number.nd rfl (Or.inl rfl) (pe_un un_neg (pv 3)))) pss_nil)
      (pss_one (ps_ret (pe_tup (pa_cons (pe_op u_fdiv (pv 1) (pv 3)) (pa_cons (pe_op u_fdiv (pv 2) (pv 3)) pa_nil))))))))))
theorem ok_m_Ground_add (T : Txt K mg) {fd : FuncData} (F : FunD K "add" "Ground.add" (defArgs s_m_Ground_add) (defBody s_m_Ground_add) (defScope s_m_Ground_add) [] [] (He.fAd K ("Ground", some "add")) fd) (G_Ground_number : OkM P w K mg base 2 "Ground" "number" ["self", "top", "bottom"] (sp_Ground_number K) []) : OkM P w K mg base 3 "Ground" "add" ["self", "x", "y"] (sp_Ground_add K) [] := by
  refine ⟨⟨fd, [], (F.ok sc_m_Ground_add (fun vs H Q E h => ?_) (fun cdv A outer s H vs Q E hr h => ⟨t_m_Ground_add K, PSs.nox ?_, pure_gadd K T.gr vs H Q E h⟩)), .nil, (F.bindsN fun _ _ _ _ _ _ us hl => match us, hl with | [_, _, _], _ => rfl)⟩⟩
  · obtain ⟨_, _, _, _, _, _, _, _, _, rfl, _⟩ := h; rfl
  · exact (pss_cons (ps_if (pt_cmpR op_notN (pe_fld (pv 0) rfl) pe_non (nomark _)) (pss_one (ps_ret (pe_op u_mod (pe_op u_add (pv 1) (pv 2)) (pe_fld (pv 0) rfl)))) pss_nil)
    (pss_one (ps_ret (pe_omt G_Ground_number T.cl_Ground T.m_Ground_number (hr.mono (by omega)) passN (pv 0) (pa_cons (pe_op u_add (pe_op u_mul (pe_ix u_ix (pv 1) pe_int (fun _ _ => rfl)) (pe_ix u_ix (pv 2) pe_int (fun _ _ => rfl))) (pe_op u_mul (pe_ix u_ix (pv 2) pe_int (fun _ _ => rfl)) (pe_ix u_ix (pv 1) pe_int (fun _ _ => rfl)))) (pa_cons (pe_op u_mul (pe_ix u_ix (pv 1) pe_int (fun _ _ => rfl)) (pe_ix u_ix (pv 2) pe_int (fun _ _ => rfl))) pa_nil))))))
theorem ok_m_Ground_mul (T : Txt K mg) {fd : FuncData} (F : FunD K "mul" "Ground.mul" (defArgs s_m_Ground_mul) (defBody s_m_Ground_mul) (defScope s_m_Ground_mul) [] [] (He.fAd K ("Ground", some "mul")) fd) (G_Ground_number : OkM P w K mg base 2 "Ground" "number" ["self", "top", "bottom"] (sp_Ground_number K) []) : OkM P w K mg base 3 "Ground" "mul" ["self", "x", "y"] (sp_Ground_mul K) [] := by
  refine ⟨⟨fd, [], (F.ok sc_m_Ground_mul (fun vs H Q E h => ?_) (fun cdv A outer s H vs Q E hr h => ⟨t_m_Ground_mul K, PSs.nox ?_, pure_gmul K T.gr vs H Q E h⟩)), .nil, (F.bindsN fun _ _ _ _ _ _ us hl => match us, hl with | [_, _, _], _ => rfl)⟩⟩
  · obtain ⟨_, _, _, _, _, _, _, _, _, rfl, _⟩ := h; rfl
  · exact (pss_cons (ps_if (pt_cmpR op_notN (pe_fld (pv 0) rfl) pe_non (nomark _)) (pss_one (ps_ret (pe_op u_mod (pe_op u_mul (pv 1) (pv 2)) (pe_fld (pv 0) rfl)))) pss_nil)
    (pss_one (ps_ret (pe_omt G_Ground_number T.cl_Ground T.m_Ground_number (hr.mono (by omega)) passN (pv 0) (pa_cons (pe_op u_mul (pe_ix u_ix (pv 1) pe_int (fun _ _ => rfl)) (pe_ix u_ix (pv 2) pe_int (fun _ _ => rfl))) (pa_cons (pe_op u_mul (pe_ix u_ix (pv 1) pe_int (fun _ _ => rfl)) (pe_ix u_ix (pv 2) pe_int (fun _ _ => rfl))) pa_nil))))))
theorem ok_f_dot (T : Txt K mg) {fd : FuncData} (F : FunD K "dot" "dot" (defArgs s_f_dot) (defBody s_f_dot) (defScope s_f_dot) [] [] (He.fAd K ("dot", none)) fd) (G_Ground_add : OkM P w K mg base 3 "Ground" "add" ["self", "x", "y"] (sp_Ground_add K) []) (G_Ground_mul : OkM P w K mg base 3 "Ground" "mul" ["self", "x", "y"] (sp_Ground_mul K) []) : OkF P w K mg base (L2N.CX P w) 4 ("dot", none) ["ground", "one", "other"] (sp_dot K) := by
  refine FunD.okF F (F.ok sc_f_dot (fun vs H Q E h => ?_) (fun cdv A outer s H vs Q E hr h => ⟨t_f_dot K, PSs.nox ?_, pure_dot K T.gr vs H Q E h⟩)) fun _ _ _ _ _ _ us hl => match us, hl with | [_, _, _], _ => rfl
  · obtain ⟨_, _, _, _, _, _, _, rfl, _⟩ := h; rfl
  · exact (pss_cons (ps_if (pt_cmpR op_notN (pe_fld (pv 0) rfl) pe_non (nomark _)) (pss_one (ps_ret (pe_op u_mod (pe_callB (u_sum rfl) rfl T.b_sum (by decide +kernel) (pa_cons (pe_lc (own := [("x", 3), ("y", 4)]) rfl sc_f_dot.nd (pi_zipA rfl T.b_zip (pa_cons (pv 1) (pa_cons (pv 2) pa_nil))) (blkOk_by (N := N_f_dot) (sc := defScope s_f_dot) (own := [("x", 3), ("y", 4)]) (by decide +kernel)) (fun _ _ _ _ _ => (pg_tup rfl (pgs_cons (pg_name (i := 3) sc_f_dot.nd rfl (Or.inl rfl)) (pgs_cons (pg_name (i := 4) sc_f_dot.nd rfl (Or.inl rfl)) pgs_nil)))) (fun _ _ _ _ _ => pts_nil) (fun _ _ _ _ _ => (pe_op u_mul (pv 3) (pv 4)))) pa_nil)) (pe_fld (pv 0) rfl)))) pss_nil)
    (pss_cons (ps_set (i := 5) sc_f_dot.nd rfl (Or.inl rfl) (pe_tup (pa_cons pe_int (pa_cons pe_int pa_nil))))
    (pss_cons (ps_for PassesOwn.never rfl (pi_zipA rfl T.b_zip (pa_cons (pv 1) (pa_cons (pv 2) pa_nil))) (pg_tup rfl (pgs_cons (pg_name (i := 3) sc_f_dot.nd rfl (Or.inl rfl)) (pgs_cons (pg_name (i := 4) sc_f_dot.nd rfl (Or.inl rfl)) pgs_nil))) (pss_one (ps_if (PW.pt (pw_and (pt_cmpR (u_ne (un64 hr)) (pe_ix u_ix (pv 3) pe_int (fun _ _ => rfl)) pe_int (nomark _)) (pw_and1 (pt_cmpR (u_ne (un64 hr)) (pe_ix u_ix (pv 4) pe_int (fun _ _ => rfl)) pe_int (nomark _))))) (pss_one (ps_set (i := 5) sc_f_dot.nd rfl (Or.inl rfl) (pe_omt G_Ground_add T.cl_Ground T.m_Ground_add (hr.mono (by omega)) passN (pv 0) (pa_cons (pv 5) (pa_cons (pe_omt G_Ground_mul T.cl_Ground T.m_Ground_mul (hr.mono (by omega)) passN (pv 0) (pa_cons (pv 3) (pa_cons (pv 4) pa_nil))) pa_nil))))) pss_nil)))
    (pss_one (ps_ret (pv 5))))))
theorem bd_f_unsigned {fd : FuncData} (F : FunD K "unsigned" "unsigned" (defArgs s_f_unsigned) (defBody s_f_unsigned) (defScope s_f_unsigned) [.int 60] [] (He.fAd K ("unsigned", none)) fd) : ∃ ds, Vals [.int 60] ds ∧ Binds K fd ["word", "most"] ds := F.binds1 1 0 (by decide) rfl fun T kV doc pm an cdv ct us its h1 h2 => match us, its, h1, h2 with | [_], [_], _, _ => ⟨_, rfl, rfl⟩
theorem ok_f_unsigned (T : Txt K mg) {fd : FuncData} (F : FunD K "unsigned" "unsigned" (defArgs s_f_unsigned) (defBody s_f_unsigned) (defScope s_f_unsigned) [.int 60] [] (He.fAd K ("unsigned", none)) fd)  : OkD P w K mg base 1 "unsigned" ["word", "most"] sp_unsigned [.int 60] :=
  (by
    obtain ⟨ds, hv, hb⟩ := bd_f_unsigned F
    refine ⟨⟨fd, ds, (F.ok sc_f_unsigned (fun vs H Q E h => ?_) (fun cdv A outer s H vs Q E hr h => ⟨t_f_unsigned K, PSs.nox ?_, pure_unsigned K vs H Q E h⟩)), hv, hb⟩, F.kp⟩
    · obtain ⟨_, rfl, _⟩ := h; rfl
    · exact (pss_cons (ps_if (PW.pt (pw_or (pt_cmpR u_gt (pe_callB u_len rfl T.b_len (by decide +kernel) (pa_cons (pv 0) pa_nil)) (pv 1) (nomark _)) (pw_or (pt_not (pt_val (pe_m0 PySem.F.slot_str_isascii PySem.F.type_str_isascii mt_isascii (pv 0)))) (pw_or1 (pt_not (pt_val (pe_m0 PySem.F.slot_str_isdigit PySem.F.type_str_isdigit mt_isdigit (pv 0)))))))) (pss_one (ps_ret pe_non)) pss_nil)
      (pss_cons (ps_if (PW.pt (pw_and (pt_val (pe_m1 PySem.F.slot_str_startswith PySem.F.type_str_startswith mt_startswith (pv 0) pe_str)) (pw_and1 (pt_cmpR u_gt (pe_callB u_len rfl T.b_len (by decide +kernel) (pa_cons (pv 0) pa_nil)) pe_int (nomark _))))) (pss_one (ps_ret pe_non)) pss_nil)
      (pss_one (ps_ret (pe_callTy u_int rfl T.b_int (by decide +kernel) (pa_cons (pv 0) pa_nil)))))))
theorem ok_f_is_odd_prime (T : Txt K mg) {fd : FuncData} (F : FunD K "is_odd_prime" "is_odd_prime" (defArgs s_f_is_odd_prime) (defBody s_f_is_odd_prime) (defScope s_f_is_odd_prime) [] [] (He.fAd K ("is_odd_prime", none)) fd)  : OkF P w K mg base (L2N.CX P w) 1 ("is_odd_prime", none) ["number"] sp_is_odd_prime := by
  refine FunD.okF F (F.ok sc_f_is_odd_prime (fun vs H Q E h => ?_) (fun cdv A outer s H vs Q E hr h => ⟨t_f_is_odd_prime K, PSs.nox ?_, pure_is_odd_prime K vs H Q E h⟩)) fun _ _ _ _ _ _ us hl => match us, hl with | [_], _ => rfl
  · obtain ⟨_, rfl, _⟩ := h; rfl
  · exact (pss_cons (ps_if (PW.pt (pw_or (pt_cmpR (u_lt (un64 hr)) (pv 0) pe_int (nomark _)) (pw_or1 (pt_cmpR (u_eq (un64 hr)) (pe_op u_mod (pv 0) pe_int) pe_int (nomark _))))) (pss_one (ps_ret pe_bl)) pss_nil)
    (pss_cons (ps_set (i := 1) sc_f_is_odd_prime.nd rfl (Or.inl rfl) pe_int)
    (pss_cons (ps_while PassesOwn.never (pt_cmpR u_le (pe_op u_mul (pv 1) (pv 1)) (pv 0) (nomark _)) (pss_cons (ps_if (pt_cmpR (u_eq (un64 hr)) (pe_op u_mod (pv 0) (pv 1)) pe_int (nomark _)) (pss_one (ps_ret pe_bl)) pss_nil)
    (pss_one (ps_aug (i := 1) sc_f_is_odd_prime.nd rfl (Or.inl rfl) pe_int ip_add))))
    (pss_one (ps_ret pe_bl)))))
theorem ok_f_prime_of_line (T : Txt K mg) {fd : FuncData} (F : FunD K "prime_of_line" "prime_of_line" (defArgs s_f_prime_of_line) (defBody s_f_prime_of_line) (defScope s_f_prime_of_line) [] [] (He.fAd K ("prime_of_line", none)) fd) (G_is_odd_prime : OkF P w K mg base (L2N.CX P w) 1 ("is_odd_prime", none) ["number"] sp_is_odd_prime) (G_unsigned : OkD P w K mg base 1 "unsigned" ["word", "most"] sp_unsigned [.int 60]) : OkF P w K mg base (L2N.CX P w) 2 ("prime_of_line", none) ["line"] sp_prime_of_line := by
  refine FunD.okF F (F.ok sc_f_prime_of_line (fun vs H Q E h => ?_) (fun cdv A outer s H vs Q E hr h => ⟨t_f_prime_of_line K, PSs.nox ?_, pure_prime_of_line K vs H Q E h⟩)) fun _ _ _ _ _ _ us hl => match us, hl with | [_], _ => rfl
  · obtain ⟨_, rfl, _⟩ := h; rfl
  · exact (pss_cons (ps_if (pt_cmpR (u_eq (un64 hr)) (pv 0) pe_str (nomark _)) (pss_one (ps_ret pe_non)) pss_nil)
    (pss_cons (ps_if (pt_not (pt_val (pe_m1 PySem.F.slot_str_startswith PySem.F.type_str_startswith mt_startswith (pv 0) pe_str))) (pss_one ps_never) pss_nil)
    (pss_cons (ps_set (i := 1) sc_f_prime_of_line.nd rfl (Or.inl rfl) (pe_ownD G_unsigned (hr.mono (by omega)) rfl T.g_unsigned passN (pa_cons (pe_slice u_sl (pv 0) (po_some pe_int) po_none) pa_nil)))
    (pss_cons (ps_if (PW.pt (pw_or (pt_cmpR op_isN (pv 1) pe_non (nomark _)) (pw_or (pt_cmpR u_gt (pv 1) (pe_constI rfl T.c_GREATEST_PRIME) (nomark _)) (pw_or1 (pt_not (pt_val (pe_own G_is_odd_prime (hr.mono (by omega)) rfl T.g_is_odd_prime passN (pa_cons (pv 1) pa_nil)))))))) (pss_one ps_never) pss_nil)
    (pss_one (ps_ret (pv 1)))))))
theorem ok_m_Ground_init (T : Txt K mg) {fd : FuncData} (F : FunD K "__init__" "Ground.__init__" (defArgs s_m_Ground_init) (defBody s_m_Ground_init) (defScope s_m_Ground_init) [] [] (He.fAd K ("Ground", some "__init__")) fd) (G_prime_of_line : OkF P w K mg base (L2N.CX P w) 2 ("prime_of_line", none) ["line"] sp_prime_of_line) : OkI P w K mg base 3 "Ground" ["self", "line"] (sp_Ground_init K) := by
  refine ⟨⟨fd, (F.ok sc_m_Ground_init (fun vs H Q E h => ?_) (fun cdv A outer s H vs Q E hr h => ⟨t_m_Ground_init K, PSs.nox ?_, pure_ginit K T.gr vs H Q E h⟩)), (F.bindsN fun _ _ _ _ _ _ us hl => match us, hl with | [_, _], _ => rfl)⟩⟩
  · obtain ⟨_, _, _, rfl, _⟩ := h; rfl
  · exact (pss_cons (ps_fld (pv 0) (pv 1) rfl)
    (pss_one (ps_fld (pv 0) (pe_own G_prime_of_line (hr.mono (by omega)) rfl T.g_prime_of_line passN (pa_cons (pv 1) pa_nil)) rfl)))
theorem ok_m_TooMany_init (T : Txt K mg) {fd : FuncData} (F : FunD K "__init__" "TooMany.__init__" (defArgs s_m_TooMany_init) (defBody s_m_TooMany_init) (defScope s_m_TooMany_init) [] [] (He.fAd K ("TooMany", some "__init__")) fd)  : OkI P w K mg base 1 "TooMany" ["self", "what", "count"] (sp_TooMany_init K) := by
  refine ⟨⟨fd, (F.ok sc_m_TooMany_init (fun vs H Q E h => ?_) (fun cdv A outer s H vs Q E hr h => ⟨t_m_TooMany_init K, PSs.nox ?_, pure_tminit K T.tm vs H Q E h⟩)), (F.bindsN fun _ _ _ _ _ _ us hl => match us, hl with | [_, _, _], _ => rfl)⟩⟩
  · obtain ⟨_, _, _, rfl, _⟩ := h; rfl
  · exact (pss_cons (ps_ost (pv 0) pe_str rfl)
    (pss_cons (ps_ost (pv 0) (pv 1) rfl)
    (pss_one (ps_ost (pv 0) (pv 2) rfl))))
theorem ok_f_check_lengths (T : Txt K mg) {fd : FuncData} (F : FunD K "check_lengths" "check_lengths" (defArgs s_f_check_lengths) (defBody s_f_check_lengths) (defScope s_f_check_lengths) [] [] (He.fAd K ("check_lengths", none)) fd) (G_TooMany_init : OkI P w K mg base 1 "TooMany" ["self", "what", "count"] (sp_TooMany_init K)) : OkF P w K mg base (L2N.CX P w) 3 ("check_lengths", none) ["first", "second"] (sp_check_lengths K) := by
  refine FunD.okF F (F.ok sc_f_check_lengths (fun vs H Q E h => ?_) (fun cdv A outer s H vs Q E hr h => ⟨t_f_check_lengths K E, ?_, pure_check K vs H Q E h⟩)) fun _ _ _ _ _ _ us hl => match us, hl with | [_, _], _ => rfl
  · obtain ⟨_, _, rfl, _⟩ := h; rfl
  · have tk := L2N.takes_of (X := cxOf (L2N.CX P w) P w K mg base N_f_check_lengths "check_lengths" (defScope s_f_check_lengths) (He.fAd K ("check_lengths", none)) cdv A outer s H E) (E := E) rfl rfl rfl rfl
    exact (pss_cons (ps_if (pt_cmpR u_gt (pv 0) pe_int (nomark _)) (pss_one (ps_rz tk rfl T.ex_TooMany G_TooMany_init (hr.mono (by omega)) (pa_cons pe_str (pa_cons (pv 0) pa_nil)))) pss_nil)
    (pss_one (ps_if (pt_cmpR u_gt (pv 1) pe_int (nomark _)) (pss_one (ps_rz tk rfl T.ex_TooMany G_TooMany_init (hr.mono (by omega)) (pa_cons pe_str (pa_cons (pv 1) pa_nil)))) pss_nil)))
theorem ok_f_long_row (T : Txt K mg) {fd : FuncData} (F : FunD K "long_row" "long_row" (defArgs s_f_long_row) (defBody s_f_long_row) (defScope s_f_long_row) [] [] (He.fAd K ("long_row", none)) fd) (G_check_lengths : OkF P w K mg base (L2N.CX P w) 3 ("check_lengths", none) ["first", "second"] (sp_check_lengths K)) (G_dot : OkF P w K mg base (L2N.CX P w) 4 ("dot", none) ["ground", "one", "other"] (sp_dot K)) : OkKw P w K mg base 5 "long_row" fd ["ground", "row", "taps", "answers"] ["answers"] (sp_long_row K) := by
  refine ⟨(F.ok sc_f_long_row (fun vs H Q E h => ?_) (fun cdv A outer s H vs Q E hr h => ⟨t_f_long_row K E, ?_, pure_long_row K T.gr vs H Q E h⟩)), kbinds_of (n := 3) F (by decide) (fun _ _ _ _ _ _ us ws hl hw => match us, ws, hl, hw with | [_, _, _], [_], _, _ => rfl), F.kp⟩
  · obtain ⟨_, _, _, _, _, _, _, rfl, _⟩ := h; rfl
  · have tk := L2N.takes_of (X := cxOf (L2N.CX P w) P w K mg base N_f_long_row "long_row" (defScope s_f_long_row) (He.fAd K ("long_row", none)) cdv A outer s H E) (E := E) rfl rfl rfl rfl
    exact (pss_cons (ps_expr (pe_own G_check_lengths (hr.mono (by omega)) rfl T.g_check_lengths (passE tk) (pa_cons (pv 3) (pa_cons (pe_callB u_len rfl T.b_len (by decide +kernel) (pa_cons (pv 2) pa_nil)) pa_nil))))
    (pss_cons (ps_set (i := 4) sc_f_long_row.nd rfl (Or.inl rfl) (pe_callB (u_max rfl) rfl T.b_max (by decide +kernel) (pa_cons pe_int (pa_cons (pe_op u_add (pe_op op_sub (pe_callB u_len rfl T.b_len (by decide +kernel) (pa_cons (pv 1) pa_nil)) (pe_callB u_len rfl T.b_len (by decide +kernel) (pa_cons (pv 2) pa_nil))) pe_int) pa_nil))))
    (pss_cons (ps_setLc (i := 5) (own := [("i", 7)]) rfl sc_f_long_row.nd rfl rfl (sw_true rfl rfl rfl (by decide +kernel)) (pi_range1 rfl T.b_range (pa_cons (pv 4) pa_nil)) (blkOk_by (N := N_f_long_row) (sc := defScope s_f_long_row) (own := [("i", 7)]) (by decide +kernel)) (fun _ _ _ _ _ => (pg_name (i := 7) sc_f_long_row.nd rfl (Or.inl rfl))) (fun _ _ _ _ _ => pts_nil) (fun _ _ _ _ _ => (pe_own G_dot (hr.mono (by omega)) rfl T.g_dot passN (pa_cons (pv 0) (pa_cons (pe_slice u_sl (pv 1) (po_some (pv 7)) (po_some (pe_op u_add (pv 7) (pe_callB u_len rfl T.b_len (by decide +kernel) (pa_cons (pv 2) pa_nil))))) (pa_cons (pv 2) pa_nil))))))
    (pss_cons (ps_set (i := 6) sc_f_long_row.nd rfl (Or.inl rfl) (pe_op u_fdiv (pe_op op_sub (pe_op u_add (pv 4) (pv 3)) pe_int) (pv 3)))
    (pss_one (ps_ret (pe_tup (pa_cons (pv 5) (pa_cons (pe_op u_mul (pv 6) (pe_op op_sub (pe_op u_add (pv 3) (pe_callB u_len rfl T.b_len (by decide +kernel) (pa_cons (pv 2) pa_nil))) pe_int)) pa_nil)))))))))
theorem ok_f_law_fault (T : Txt K mg) {fd : FuncData} (F : FunD K "_law_fault" "_law_fault" (defArgs s_f_law_fault) (defBody s_f_law_fault) (defScope s_f_law_fault) [] [] (He.fAd K ("_law_fault", none)) fd) : OkH P w K mg base 1 "_law_fault" fd ["e", "base"] (sp__law_fault K) := by
  refine okH_of F sc_f_law_fault (fun a c d vs H Q E h => ?_) (F.bindsN fun _ _ _ _ _ _ us hl => match us, hl with | [_, _], _ => rfl) (fun cdv A outer s H vs Q E p c d hh hr h => ⟨t_f_law_fault K p.1 c d, ?_, pure_fault K T.ft p.1 c d vs H Q E h⟩)
  · obtain ⟨_, _, rfl, _⟩ := h; rfl
  · exact (pss_cons (ps_set (i := 2) sc_f_law_fault.nd rfl (Or.inl rfl) (pe_lst (pa_cons (pe_tup (pa_cons pe_str (pa_cons (pe_callB (call_isP hh) rfl T.b_isinstance (by decide +kernel) (pa_cons (pv 0) (pa_cons (pe_glob rfl T.g_BadGround rfl) pa_nil))) pa_nil))) (pa_cons (pe_tup (pa_cons pe_str (pa_cons (pe_callB (call_isP hh) rfl T.b_isinstance (by decide +kernel) (pa_cons (pv 0) (pa_cons (pe_glob rfl T.g_BadNumber rfl) pa_nil))) pa_nil))) (pa_cons (pe_tup (pa_cons pe_str (pa_cons (pe_callB (call_isP hh) rfl T.b_isinstance (by decide +kernel) (pa_cons (pv 0) (pa_cons (pe_glob rfl T.g_BadTable rfl) pa_nil))) pa_nil))) (pa_cons (pe_tup (pa_cons pe_str (pa_cons (pe_callB (call_isP hh) rfl T.b_isinstance (by decide +kernel) (pa_cons (pv 0) (pa_cons (pe_glob rfl T.g_BadName rfl) pa_nil))) pa_nil))) pa_nil))))))
    (pss_cons (ps_set (i := 2) sc_f_law_fault.nd rfl (Or.inl rfl) (pe_op u_add (pv 2) (pe_lst (pa_cons (pe_tup (pa_cons pe_str (pa_cons (pe_callB (call_isP hh) rfl T.b_isinstance (by decide +kernel) (pa_cons (pv 0) (pa_cons (pe_glob rfl T.g_BadProgram rfl) pa_nil))) pa_nil))) (pa_cons (pe_tup (pa_cons pe_str (pa_cons (pe_callB (call_isP hh) rfl T.b_isinstance (by decide +kernel) (pa_cons (pv 0) (pa_cons (pe_glob rfl T.g_BadFormula rfl) pa_nil))) pa_nil))) (pa_cons (pe_tup (pa_cons pe_str (pa_cons (pe_callB (call_isP hh) rfl T.b_isinstance (by decide +kernel) (pa_cons (pv 0) (pa_cons (pe_glob rfl T.g_BadScript rfl) pa_nil))) pa_nil))) (pa_cons (pe_tup (pa_cons pe_str (pa_cons (pe_callB (call_isP hh) rfl T.b_isinstance (by decide +kernel) (pa_cons (pv 0) (pa_cons (pe_glob rfl T.g_Broken rfl) pa_nil))) pa_nil))) pa_nil)))))))
    (pss_cons (ps_set (i := 2) sc_f_law_fault.nd rfl (Or.inl rfl) (pe_op u_add (pv 2) (pe_lst (pa_cons (pe_tup (pa_cons pe_str (pa_cons (pe_callB (call_isP hh) rfl T.b_isinstance (by decide +kernel) (pa_cons (pv 0) (pa_cons (pe_glob rfl T.g_Unlike rfl) pa_nil))) pa_nil))) (pa_cons (pe_tup (pa_cons pe_str (pa_cons (pe_callB (call_isP hh) rfl T.b_isinstance (by decide +kernel) (pa_cons (pv 0) (pa_cons (pe_glob rfl T.g_NotRight rfl) pa_nil))) pa_nil))) (pa_cons (pe_tup (pa_cons pe_str (pa_cons (pe_callB (call_isP hh) rfl T.b_isinstance (by decide +kernel) (pa_cons (pv 0) (pa_cons (pe_glob rfl T.g_NotLeast rfl) pa_nil))) pa_nil))) (pa_cons (pe_tup (pa_cons pe_str (pa_cons (pe_callB (call_isP hh) rfl T.b_isinstance (by decide +kernel) (pa_cons (pv 0) (pa_cons (pe_glob rfl T.g_NotLow rfl) pa_nil))) pa_nil))) pa_nil)))))))
    (pss_cons (ps_set (i := 2) sc_f_law_fault.nd rfl (Or.inl rfl) (pe_op u_add (pv 2) (pe_lst (pa_cons (pe_tup (pa_cons pe_str (pa_cons (pe_callB (call_isP hh) rfl T.b_isinstance (by decide +kernel) (pa_cons (pv 0) (pa_cons (pe_glob rfl T.g_BadPoints rfl) pa_nil))) pa_nil))) (pa_cons (pe_tup (pa_cons pe_str (pa_cons (pe_callB (call_isP hh) rfl T.b_isinstance (by decide +kernel) (pa_cons (pv 0) (pa_cons (pe_glob rfl T.g_TooMany rfl) pa_nil))) pa_nil))) (pa_cons (pe_tup (pa_cons pe_str (pa_cons (pe_callB (call_isP hh) rfl T.b_isinstance (by decide +kernel) (pa_cons (pv 0) (pa_cons (pe_glob rfl T.g_NoSuch rfl) pa_nil))) pa_nil))) (pa_cons (pe_tup (pa_cons pe_str (pa_cons (pe_callB (call_isP hh) rfl T.b_isinstance (by decide +kernel) (pa_cons (pv 0) (pa_cons (pe_glob rfl T.g_Stops rfl) pa_nil))) pa_nil))) pa_nil)))))))
    (pss_cons (ps_set (i := 2) sc_f_law_fault.nd rfl (Or.inl rfl) (pe_op u_add (pv 2) (pe_lst (pa_cons (pe_tup (pa_cons pe_str (pa_cons (pe_callB (call_isP hh) rfl T.b_isinstance (by decide +kernel) (pa_cons (pv 0) (pa_cons (pe_glob rfl T.g_Enough rfl) pa_nil))) pa_nil))) (pa_cons (pe_tup (pa_cons pe_str (pa_cons (pe_callB (call_isP hh) rfl T.b_isinstance (by decide +kernel) (pa_cons (pv 0) (pa_cons (pe_glob rfl T.g_Endless rfl) pa_nil))) pa_nil))) (pa_cons (pe_tup (pa_cons pe_str (pa_cons (pe_callB (call_isP hh) rfl T.b_isinstance (by decide +kernel) (pa_cons (pv 0) (pa_cons (pe_glob rfl T.g_NothingLeft rfl) pa_nil))) pa_nil))) pa_nil))))))
    (pss_cons (ps_setLcH (i := 3) (ow := [("one", 6)]) hh.hot hh.mem sc_f_law_fault.nd rfl rfl (sw_true rfl rfl rfl (by decide +kernel)) (pi_listH (pv 2)) (blkOk_by (N := N_f_law_fault) (sc := defScope s_f_law_fault) (own := [("one", 6)]) (by decide +kernel)) (fun _ _ _ _ _ => (pg_name (i := 6) sc_f_law_fault.nd rfl (Or.inl rfl))) (fun _ _ _ _ _ => (pts_one (pt_truth (pe_ix u_ix (pv 6) pe_int (fun _ _ => rfl)) (by intro _; rfl)))) (fun _ _ _ _ _ => (pe_ix u_ix (pv 6) pe_int (fun _ _ => rfl))))
    (pss_cons (ps_if (pt_cmpR (u_ne (un64H hr)) (pe_callB u_len rfl T.b_len (by decide +kernel) (pa_cons (pv 3) pa_nil)) pe_int (nomark _)) (pss_one (ps_ret (pe_lst (pa_cons pe_str (pa_cons (pv 1) (pa_cons (pv 3) (pa_cons (pe_lst pa_nil) (pa_cons pe_str pa_nil)))))))) pss_nil)
    (pss_cons (ps_set (i := 4) sc_f_law_fault.nd rfl (Or.inl rfl) (pe_ix u_ix (pv 3) pe_int (fun _ _ => rfl)))
    (pss_cons (ps_set (i := 5) sc_f_law_fault.nd rfl (Or.inl rfl) (pe_ifExp (pt_cmpR (u_eq (un64H hr)) (pv 4) pe_str (nomark _)) (pe_lst (pa_cons (pe_xfP hh T.xf T.no_what (pv 0) rfl) (pa_cons (pe_xfP hh T.xf T.no_count (pv 0) rfl) pa_nil))) (pe_ifExp (pt_cmpR (u_eq (un64H hr)) (pv 4) pe_str (nomark _)) (pe_lst (pa_cons (pe_xfP hh T.xf T.no_what (pv 0) rfl) pa_nil)) (pe_ifExp (pt_cmpR (u_eq (un64H hr)) (pv 4) pe_str (nomark _)) (pe_lst (pa_cons (pe_xfP hh T.xf T.no_name (pv 0) rfl) pa_nil)) (pe_ifExp (pt_cmpR (u_eq (un64H hr)) (pv 4) pe_str (nomark _)) (pe_lst (pa_cons (pe_xfP hh T.xf T.no_line (pv 0) rfl) pa_nil)) (pe_lst pa_nil))))))
    (pss_cons (ps_set (i := 5) sc_f_law_fault.nd rfl (Or.inl rfl) (pe_ifExp (pt_cmpR u_in (pv 4) (pe_lst (pa_cons pe_str (pa_cons pe_str (pa_cons pe_str pa_nil)))) rfl) (pe_lst (pa_cons (pe_xfP hh T.xf T.no_at (pv 0) rfl) pa_nil)) (pe_ifExp (pt_cmpR u_in (pv 4) (pe_lst (pa_cons pe_str (pa_cons pe_str (pa_cons pe_str (pa_cons pe_str pa_nil))))) rfl) (pe_lst (pa_cons (pe_xfP hh T.xf T.no_line (pv 0) rfl) pa_nil)) (pv 5))))
    (pss_cons (ps_set (i := 5) sc_f_law_fault.nd rfl (Or.inl rfl) (pe_ifExp (pt_cmpR u_in (pv 4) (pe_lst (pa_cons pe_str (pa_cons pe_str pa_nil))) rfl) (pe_lst (pa_cons (pe_xfP hh T.xf T.no_why (pv 0) rfl) pa_nil)) (pe_ifExp (pt_cmpR (u_eq (un64H hr)) (pv 4) pe_str (nomark _)) (pe_lst (pa_cons (pe_xfP hh T.xf T.no_place (pv 0) rfl) pa_nil)) (pe_ifExp (pt_cmpR (u_eq (un64H hr)) (pv 4) pe_str (nomark _)) (pe_lst (pa_cons (pe_xfP hh T.xf T.no_cost (pv 0) rfl) pa_nil)) (pv 5)))))
    (pss_cons (ps_set (i := 5) sc_f_law_fault.nd rfl (Or.inl rfl) (pe_ifExp (pt_cmpR (u_eq (un64H hr)) (pv 4) pe_str (nomark _)) (pe_lst (pa_cons (pe_xfP hh T.xf T.no_condition (pv 0) rfl) (pa_cons (pe_xfP hh T.xf T.no_where (pv 0) rfl) pa_nil))) (pv 5)))
    (pss_cut (ps_if (pt_cmpR u_in (pv 4) (pe_lst (pa_cons pe_str (pa_cons pe_str (pa_cons pe_str (pa_cons pe_str (pa_cons pe_str (pa_cons pe_str (pa_cons pe_str pa_nil)))))))) rfl) (pss_one (ps_expr (pe_bm PySem.F.plainAttrs_list PySem.F.slot_list_append PySem.F.type_list_append mt_append (pv 5) (pa_cons (pe_and (pe_callB u_isi rfl T.b_isinstance (by decide +kernel) (pa_cons (pe_xfP hh T.xf T.no_why (pv 0) rfl) (pa_cons (pe_bltn rfl T.b_str (by decide +kernel) rfl) pa_nil))) (pe_one (pe_cmpR (u_ne (un64H hr)) (pe_xfP hh T.xf T.no_why (pv 0) rfl) pe_str (nomark _)))) pa_nil)))) pss_nil)
    (pss_one (ps_ret (pe_lst (pa_cons pe_str (pa_cons (pv 1) (pa_cons (pv 3) (pa_cons (pv 5) (pa_cons (pe_xfP hh T.xf T.no_code (pv 0) rfl) pa_nil)))))))))))))))))))))
theorem ok_f_law_asked (T : Txt K mg) {fd : FuncData} (F : FunD K "_law_asked" "_law_asked" (defArgs s_f_law_asked) (defBody s_f_law_asked) (defScope s_f_law_asked) [] [] (He.fAd K ("_law_asked", none)) fd) (G_Ground_init : OkI P w K mg base 3 "Ground" ["self", "line"] (sp_Ground_init K)) (G__law_copied : OkF P w K mg base (L2N.CX P w) 5 ("_law_copied", none) ["thing"] sp__law_copied) {fdH : FuncData} (G__law_fault : OkH P w K mg base 1 "_law_fault" fdH ["e", "base"] (sp__law_fault K)) (G__law_line : OkF P w K mg base (L2N.CX P w) 1 ("_law_line", none) ["p"] sp__law_line) (G__law_same : OkF P w K mg base (L2N.CX P w) 5 ("_law_same", none) ["told", "due"] sp__law_same) {fdL : FuncData} (G_long_row : OkKw P w K mg base 5 "long_row" fdL ["ground", "row", "taps", "answers"] ["answers"] (sp_long_row K)) : OkF P w K mg base (L2N.CX P w) 6 ("_law_asked", none) ["p", "row", "taps", "many"] (sp__law_asked K) := by
  refine FunD.okF F (F.ok sc_f_law_asked (fun vs H Q E h => ?_) (fun cdv A outer s H vs Q E hr h => ⟨t_f_law_asked K, PSs.nox ?_, pure_asked K T.ask vs H Q E h⟩)) fun _ _ _ _ _ _ us hl => match us, hl with | [_, _, _, _], _ => rfl
  · obtain ⟨_, _, _, _, _, _, rfl, _⟩ := h; rfl
  · exact (pss_cons (ps_set (i := 4) sc_f_law_asked.nd rfl (Or.inl rfl) (pe_own G__law_copied (hr.mono (by omega)) rfl T.g__law_copied passN (pa_cons (pe_lst (pa_cons (pv 1) (pa_cons (pv 2) pa_nil))) pa_nil)))
    (pss_cons (ps_tryN (i := 6) rfl rfl sc_f_law_asked.nd rfl rfl ⟨rfl, by decide, .inl T.g_Refused⟩ (fun W pn xe tk own => (pss_one (ps_set (i := 5) sc_f_law_asked.nd rfl (Or.inl rfl) (pe_callKS G_long_row.fn (hr.mono (by omega)) rfl T.g_long_row G_long_row.kp G_long_row.kb (fun σ => L2N.passAt tk σ) (pa_cons (pe_mk G_Ground_init T.mk_Ground (hr.mono (by omega)) rfl T.g_Ground passN (pa_cons (pe_own G__law_line (hr.mono (by omega)) rfl T.g__law_line passN (pa_cons (pv 0) pa_nil)) pa_nil)) (pa_cons (pv 1) (pa_cons (pv 2) pa_nil))) (pk_cons (pv 3) pk_nil))))) (fun a oe cls d pn hz hf => pss_one (ps_ret (pe_callP G__law_fault.fn (roomH_mark (hr.mono (by omega)) _) (hotE_suite hz hf) rfl T.g__law_fault G__law_fault.kp G__law_fault.bd (pa_cons (pv 6) (pa_cons pe_str pa_nil))))))
    (pss_one (ps_ret (pe_ifExp (pt_val (pe_own G__law_same (hr.mono (by omega)) rfl T.g__law_same passN (pa_cons (pe_lst (pa_cons (pv 1) (pa_cons (pv 2) pa_nil))) (pa_cons (pv 4) pa_nil)))) (pv 5) pe_non)))))
theorem ok_f_law (T : Txt K mg) {fd : FuncData} (F : FunD K "law" "law" (defArgs s_f_law) (defBody s_f_law) (defScope s_f_law) [] [] (He.fAd K ("law", none)) fd) (G__law_asked : OkF P w K mg base (L2N.CX P w) 6 ("_law_asked", none) ["p", "row", "taps", "many"] (sp__law_asked K)) (G__law_bag : OkF P w K mg base (L2N.CX P w) 1 ("_law_bag", none) ["script"] (sp__law_bag K)) (G__law_draw : OkF P w K mg base (L2N.CX P w) 1 ("_law_draw", none) ["bag", "size"] sp__law_draw) (G__law_due : OkF P w K mg base (L2N.CX P w) 1 ("_law_due", none) ["name", "fields"] sp__law_due) (G__law_pick : OkF P w K mg base (L2N.CX P w) 2 ("_law_pick", none) ["bag", "menu"] sp__law_pick) (G__law_row : OkF P w K mg base (L2N.CX P w) 4 ("_law_row", none) ["bag", "p", "size"] sp__law_row) (G__law_same : OkF P w K mg base (L2N.CX P w) 5 ("_law_same", none) ["told", "due"] sp__law_same) (G__law_spoil : OkF P w K mg base (L2N.CX P w) 5 ("_law_spoil", none) ["thing"] sp__law_spoil) (G__law_sums : OkF P w K mg base (L2N.CX P w) 4 ("_law_sums", none) ["p", "row", "taps"] sp__law_sums) : FnOk P w K mg base CX0 7 (He.fAd K ("law", none)) fd ["script"] (sp_law K) := by
  refine (F.ok sc_f_law (fun vs H Q E h => ?_) (fun cdv A outer s H vs Q E hr h => ⟨t_f_law K, PSs.nox ?_, pure_law K vs H Q E h⟩))
  · obtain ⟨_, _, rfl, _⟩ := h; rfl
  · exact (pss_cons (ps_set (i := 1) sc_f_law.nd rfl (Or.inl rfl) (pe_own G__law_bag (hr.mono (by omega)) rfl T.g__law_bag passN (pa_cons (pv 0) pa_nil)))
    (pss_cons (ps_set (i := 2) sc_f_law.nd rfl (Or.inl rfl) (pe_own G__law_pick (hr.mono (by omega)) rfl T.g__law_pick passN (pa_cons (pv 1) (pa_cons (pe_lst (pa_cons pe_int (pa_cons pe_int (pa_cons pe_int (pa_cons pe_int (pa_cons pe_int (pa_cons pe_int (pa_cons pe_int pa_nil)))))))) pa_nil))))
    (pss_cons (ps_par (i := 3) (j := 4) rfl sc_f_law.nd rfl rfl (by decide) rfl rfl (pa_cons (pe_own G__law_draw (hr.mono (by omega)) rfl T.g__law_draw passN (pa_cons (pv 1) (pa_cons (pe_own G__law_pick (hr.mono (by omega)) rfl T.g__law_pick passN (pa_cons (pv 1) (pa_cons (pe_lst (pa_cons pe_int (pa_cons pe_int (pa_cons pe_int (pa_cons pe_int pa_nil))))) pa_nil))) pa_nil))) (pa_cons (pe_op u_add pe_int (pe_own G__law_draw (hr.mono (by omega)) rfl T.g__law_draw passN (pa_cons (pv 1) (pa_cons pe_int pa_nil)))) pa_nil)) (by rfl))
    (pss_cons (ps_asg (pe_tup (pa_cons (pe_own G__law_row (hr.mono (by omega)) rfl T.g__law_row passN (pa_cons (pv 1) (pa_cons (pv 2) (pa_cons (pv 3) pa_nil)))) (pa_cons (pe_own G__law_row (hr.mono (by omega)) rfl T.g__law_row passN (pa_cons (pv 1) (pa_cons (pv 2) (pa_cons (pv 4) pa_nil)))) pa_nil))) (pg_tup rfl (pgs_cons (pg_name (i := 5) sc_f_law.nd rfl (Or.inr rfl)) (pgs_cons (pg_name (i := 6) sc_f_law.nd rfl (Or.inl rfl)) pgs_nil))))
    (pss_cut (ps_if (pt_cmpR (u_eq (un64 hr)) (pe_own G__law_draw (hr.mono (by omega)) rfl T.g__law_draw passN (pa_cons (pv 1) (pa_cons pe_int pa_nil))) pe_int (nomark _)) (pss_one (ps_set (i := 5) sc_f_law.nd rfl (Or.inr rfl) (pe_lc (own := [("k", 18)]) rfl sc_f_law.nd (pi_range1 rfl T.b_range (pa_cons (pv 3) pa_nil)) (blkOk_by (N := N_f_law) (sc := defScope s_f_law) (own := [("k", 18)]) (by decide +kernel)) (fun _ _ _ _ _ => (pg_name (i := 18) sc_f_law.nd rfl (Or.inl rfl))) (fun _ _ _ _ _ => pts_nil) (fun _ _ _ _ _ => (pe_ix u_ix (pv 5) (pe_op u_fdiv (pv 18) pe_int) (fun _ _ => rfl)))))) pss_nil)
    (pss_cons (ps_set (i := 7) sc_f_law.nd rfl (Or.inl rfl) (pe_own G__law_sums (hr.mono (by omega)) rfl T.g__law_sums passN (pa_cons (pv 2) (pa_cons (pv 5) (pa_cons (pv 6) pa_nil)))))
    (pss_cons (ps_set (i := 8) sc_f_law.nd rfl (Or.inl rfl) (pe_op u_add pe_int (pe_own G__law_draw (hr.mono (by omega)) rfl T.g__law_draw passN (pa_cons (pv 1) (pa_cons pe_int pa_nil)))))
    (pss_cons (ps_set (i := 9) sc_f_law.nd rfl (Or.inl rfl) (pe_ifExp (pt_cmpR (u_eq (un64 hr)) (pe_own G__law_draw (hr.mono (by omega)) rfl T.g__law_draw passN (pa_cons (pv 1) (pa_cons pe_int pa_nil))) pe_int (nomark _)) (pe_lst (pa_cons pe_int (pa_cons pe_int (pa_cons pe_int (pa_cons pe_int (pa_cons pe_int (pa_cons pe_int pa_nil))))))) (pe_lst (pa_cons (pv 8) (pa_cons (pe_op u_add pe_int (pe_own G__law_draw (hr.mono (by omega)) rfl T.g__law_draw passN (pa_cons (pv 1) (pa_cons pe_int pa_nil)))) (pa_cons (pv 8) pa_nil))))))
    (pss_cons (ps_for PassesOwn.never rfl (pi_seq (pv 9)) (pg_name (i := 10) sc_f_law.nd rfl (Or.inl rfl)) (pss_cons (ps_set (i := 11) sc_f_law.nd rfl (Or.inl rfl) pe_int)
    (pss_cons (ps_for PassesOwn.never rfl (pi_range3 rfl T.b_range (pa_cons pe_int (pa_cons (pe_callB u_len rfl T.b_len (by decide +kernel) (pa_cons (pv 7) pa_nil)) (pa_cons (pv 10) pa_nil)))) (pg_name (i := 12) sc_f_law.nd rfl (Or.inl rfl)) (pss_one (ps_set (i := 11) sc_f_law.nd rfl (Or.inl rfl) (pe_op u_add (pv 11) pe_int))))
    (pss_cons (ps_set (i := 13) sc_f_law.nd rfl (Or.inl rfl) (pe_own G__law_asked (hr.mono (by omega)) rfl T.g__law_asked passN (pa_cons (pv 2) (pa_cons (pv 5) (pa_cons (pv 6) (pa_cons (pv 10) pa_nil))))))
    (pss_cons (ps_if (pt_not (pt_val (pe_own G__law_same (hr.mono (by omega)) rfl T.g__law_same passN (pa_cons (pv 13) (pa_cons (pe_tup (pa_cons (pv 7) (pa_cons (pe_op u_mul (pv 11) (pe_op op_sub (pe_op u_add (pv 10) (pv 4)) pe_int)) pa_nil))) pa_nil))))) (pss_one (ps_ret pe_bl)) pss_nil)
    (pss_one (ps_expr (pe_own G__law_spoil (hr.mono (by omega)) rfl T.g__law_spoil passN (pa_cons (pv 13) pa_nil)))))))))
    (pss_cons (ps_par (i := 14) (j := 15) rfl sc_f_law.nd rfl rfl (by decide) rfl rfl (pa_cons (pe_op u_add pe_int (pe_own G__law_draw (hr.mono (by omega)) rfl T.g__law_draw passN (pa_cons (pv 1) (pa_cons pe_int pa_nil)))) (pa_cons (pe_op u_add pe_int (pe_own G__law_draw (hr.mono (by omega)) rfl T.g__law_draw passN (pa_cons (pv 1) (pa_cons pe_int pa_nil)))) pa_nil)) (by rfl))
    (pss_cons (ps_if (pt_not (pt_val (pe_own G__law_same (hr.mono (by omega)) rfl T.g__law_same passN (pa_cons (pe_own G__law_asked (hr.mono (by omega)) rfl T.g__law_asked passN (pa_cons (pv 2) (pa_cons (pv 5) (pa_cons (pv 6) (pa_cons (pv 14) pa_nil))))) (pa_cons (pe_own G__law_due (hr.mono (by omega)) rfl T.g__law_due passN (pa_cons pe_str (pa_cons (pe_lst (pa_cons pe_str (pa_cons (pv 14) pa_nil))) pa_nil))) pa_nil))))) (pss_one (ps_ret pe_bl)) pss_nil)
    (pss_cons (ps_set (i := 16) sc_f_law.nd rfl (Or.inl rfl) (pe_own G__law_row (hr.mono (by omega)) rfl T.g__law_row passN (pa_cons (pv 1) (pa_cons (pv 2) (pa_cons (pv 15) pa_nil)))))
    (pss_cons (ps_if (pt_not (pt_val (pe_own G__law_same (hr.mono (by omega)) rfl T.g__law_same passN (pa_cons (pe_own G__law_asked (hr.mono (by omega)) rfl T.g__law_asked passN (pa_cons (pv 2) (pa_cons (pv 5) (pa_cons (pv 16) (pa_cons (pv 8) pa_nil))))) (pa_cons (pe_own G__law_due (hr.mono (by omega)) rfl T.g__law_due passN (pa_cons pe_str (pa_cons (pe_lst (pa_cons pe_str (pa_cons (pv 15) pa_nil))) pa_nil))) pa_nil))))) (pss_one (ps_ret pe_bl)) pss_nil)
    (pss_cons (ps_if (pt_not (pt_val (pe_own G__law_same (hr.mono (by omega)) rfl T.g__law_same passN (pa_cons (pe_own G__law_asked (hr.mono (by omega)) rfl T.g__law_asked passN (pa_cons (pv 2) (pa_cons (pv 5) (pa_cons (pv 16) (pa_cons (pe_op u_add (pv 14) pe_int) pa_nil))))) (pa_cons (pe_own G__law_due (hr.mono (by omega)) rfl T.g__law_due passN (pa_cons pe_str (pa_cons (pe_lst (pa_cons pe_str (pa_cons (pe_op u_add (pv 14) pe_int) pa_nil))) pa_nil))) pa_nil))))) (pss_one (ps_ret pe_bl)) pss_nil)
    (pss_cons (ps_set (i := 17) sc_f_law.nd rfl (Or.inl rfl) (pe_own G__law_asked (hr.mono (by omega)) rfl T.g__law_asked passN (pa_cons (pv 2) (pa_cons (pe_callTy u_tuple rfl T.b_tuple (by decide +kernel) (pa_cons (pv 5) pa_nil)) (pa_cons (pe_callTy u_tuple rfl T.b_tuple (by decide +kernel) (pa_cons (pv 6) pa_nil)) (pa_cons (pv 8) pa_nil))))))
    (pss_one (ps_ret (pe_and (pe_callB u_isi rfl T.b_isinstance (by decide +kernel) (pa_cons (pv 17) (pa_cons (pe_bltn rfl T.b_tuple (by decide +kernel) rfl) pa_nil))) (pe_and (pe_cmpR (u_eq (un64 hr)) (pe_callB u_len rfl T.b_len (by decide +kernel) (pa_cons (pv 17) pa_nil)) pe_int (nomark _)) (pe_one (pe_own G__law_same (hr.mono (by omega)) rfl T.g__law_same passN (pa_cons (pe_ix u_ix (pv 17) pe_int (fun _ _ => rfl)) (pa_cons (pv 7) pa_nil)))))))))))))))))))))))
end
end Tw
set_option maxHeartbeats 0
namespace Tw
open PySem PySem.Spec PyProof.Rows L2 Evl RZ L2H
def d_f_law_gcd : He.DefD := ⟨("_law_gcd", none), "_law_gcd", "_law_gcd", defArgs s_f_law_gcd, defBody s_f_law_gcd, defScope s_f_law_gcd, [], []⟩
def d_f_law_num : He.DefD := ⟨("_law_num", none), "_law_num", "_law_num", defArgs s_f_law_num, defBody s_f_law_num, defScope s_f_law_num, [], []⟩
def d_f_law_int : He.DefD := ⟨("_law_int", none), "_law_int", "_law_int", defArgs s_f_law_int, defBody s_f_law_int, defScope s_f_law_int, [], []⟩
def d_f_law_add : He.DefD := ⟨("_law_add", none), "_law_add", "_law_add", defArgs s_f_law_add, defBody s_f_law_add, defScope s_f_law_add, [], []⟩
def d_f_law_mul : He.DefD := ⟨("_law_mul", none), "_law_mul", "_law_mul", defArgs s_f_law_mul, defBody s_f_law_mul, defScope s_f_law_mul, [], []⟩
def d_f_law_draw : He.DefD := ⟨("_law_draw", none), "_law_draw", "_law_draw", defArgs s_f_law_draw, defBody s_f_law_draw, defScope s_f_law_draw, [], []⟩
def d_f_law_pick : He.DefD := ⟨("_law_pick", none), "_law_pick", "_law_pick", defArgs s_f_law_pick, defBody s_f_law_pick, defScope s_f_law_pick, [], []⟩
def d_f_law_small : He.DefD := ⟨("_law_small", none), "_law_small", "_law_small", defArgs s_f_law_small, defBody s_f_law_small, defScope s_f_law_small, [], []⟩
def d_f_law_row : He.DefD := ⟨("_law_row", none), "_law_row", "_law_row", defArgs s_f_law_row, defBody s_f_law_row, defScope s_f_law_row, [], []⟩
def d_f_law_bag : He.DefD := ⟨("_law_bag", none), "_law_bag", "_law_bag", defArgs s_f_law_bag, defBody s_f_law_bag, defScope s_f_law_bag, [], []⟩
def d_f_law_line : He.DefD := ⟨("_law_line", none), "_law_line", "_law_line", defArgs s_f_law_line, defBody s_f_law_line, defScope s_f_law_line, [], []⟩
def d_f_law_copied : He.DefD := ⟨("_law_copied", none), "_law_copied", "_law_copied", defArgs s_f_law_copied, defBody s_f_law_copied, defScope s_f_law_copied, [], []⟩
def d_f_law_same : He.DefD := ⟨("_law_same", none), "_law_same", "_law_same", defArgs s_f_law_same, defBody s_f_law_same, defScope s_f_law_same, [], []⟩
def d_f_law_spoil : He.DefD := ⟨("_law_spoil", none), "_law_spoil", "_law_spoil", defArgs s_f_law_spoil, defBody s_f_law_spoil, defScope s_f_law_spoil, [], []⟩
def d_f_law_due : He.DefD := ⟨("_law_due", none), "_law_due", "_law_due", defArgs s_f_law_due, defBody s_f_law_due, defScope s_f_law_due, [], []⟩
def d_f_law_sums : He.DefD := ⟨("_law_sums", none), "_law_sums", "_law_sums", defArgs s_f_law_sums, defBody s_f_law_sums, defScope s_f_law_sums, [], []⟩
def d_f_inverse_modulo : He.DefD := ⟨("inverse_modulo", none), "inverse_modulo", "inverse_modulo", defArgs s_f_inverse_modulo, defBody s_f_inverse_modulo, defScope s_f_inverse_modulo, [], []⟩
def d_m_Ground_number : He.DefD := ⟨("Ground", some "number"), "number", "Ground.number", defArgs s_m_Ground_number, defBody s_m_Ground_number, defScope s_m_Ground_number, [.int 1], []⟩
def d_m_Ground_add : He.DefD := ⟨("Ground", some "add"), "add", "Ground.add", defArgs s_m_Ground_add, defBody s_m_Ground_add, defScope s_m_Ground_add, [], []⟩
def d_m_Ground_mul : He.DefD := ⟨("Ground", some "mul"), "mul", "Ground.mul", defArgs s_m_Ground_mul, defBody s_m_Ground_mul, defScope s_m_Ground_mul, [], []⟩
def d_f_dot : He.DefD := ⟨("dot", none), "dot", "dot", defArgs s_f_dot, defBody s_f_dot, defScope s_f_dot, [], []⟩
def d_f_unsigned : He.DefD := ⟨("unsigned", none), "unsigned", "unsigned", defArgs s_f_unsigned, defBody s_f_unsigned, defScope s_f_unsigned, [.int 60], []⟩
def d_f_is_odd_prime : He.DefD := ⟨("is_odd_prime", none), "is_odd_prime", "is_odd_prime", defArgs s_f_is_odd_prime, defBody s_f_is_odd_prime, defScope s_f_is_odd_prime, [], []⟩
def d_f_prime_of_line : He.DefD := ⟨("prime_of_line", none), "prime_of_line", "prime_of_line", defArgs s_f_prime_of_line, defBody s_f_prime_of_line, defScope s_f_prime_of_line, [], []⟩
def d_m_Ground_init : He.DefD := ⟨("Ground", some "__init__"), "__init__", "Ground.__init__", defArgs s_m_Ground_init, defBody s_m_Ground_init, defScope s_m_Ground_init, [], []⟩
def d_m_TooMany_init : He.DefD := ⟨("TooMany", some "__init__"), "__init__", "TooMany.__init__", defArgs s_m_TooMany_init, defBody s_m_TooMany_init, defScope s_m_TooMany_init, [], []⟩
def d_f_check_lengths : He.DefD := ⟨("check_lengths", none), "check_lengths", "check_lengths", defArgs s_f_check_lengths, defBody s_f_check_lengths, defScope s_f_check_lengths, [], []⟩
def d_f_long_row : He.DefD := ⟨("long_row", none), "long_row", "long_row", defArgs s_f_long_row, defBody s_f_long_row, defScope s_f_long_row, [], []⟩
def d_f_law_fault : He.DefD := ⟨("_law_fault", none), "_law_fault", "_law_fault", defArgs s_f_law_fault, defBody s_f_law_fault, defScope s_f_law_fault, [], []⟩
def d_f_law_asked : He.DefD := ⟨("_law_asked", none), "_law_asked", "_law_asked", defArgs s_f_law_asked, defBody s_f_law_asked, defScope s_f_law_asked, [], []⟩
def d_f_law : He.DefD := ⟨("law", none), "law", "law", defArgs s_f_law, defBody s_f_law, defScope s_f_law, [], []⟩
def fnL0 : List He.DefD := [d_f_law_gcd, d_f_law_num, d_f_law_int, d_f_law_add, d_f_law_mul, d_f_law_draw, d_f_law_pick, d_f_law_small, d_f_law_row, d_f_law_bag]
def fnL1 : List He.DefD := [d_f_law_line, d_f_law_copied, d_f_law_same, d_f_law_spoil, d_f_law_due, d_f_law_sums, d_f_inverse_modulo, d_m_Ground_number, d_m_Ground_add, d_m_Ground_mul]
def fnL2 : List He.DefD := [d_f_dot, d_f_unsigned, d_f_is_odd_prime, d_f_prime_of_line, d_m_Ground_init, d_m_TooMany_init, d_f_check_lengths, d_f_long_row, d_f_law_fault, d_f_law_asked]
def fnL3 : List He.DefD := [d_f_law]
def fnL : List He.DefD := fnL0 ++ (fnL1 ++ (fnL2 ++ (fnL3)))
def faL0 : List He.Fa := [.free "abs", .free "bool", .free "int", .free "isinstance", .free "len", .free "list", .free "max", .free "range", .free "str", .free "sum", .free "tuple", .free "zip"]
def faL1 : List He.Fa := [.int "GREATEST_PRIME" 10007, .cls "Ground", .glo "TooMany", .glo "BadFormula", .glo "BadGround", .glo "BadName", .glo "BadNumber", .glo "BadPoints", .glo "BadProgram", .glo "BadScript", .glo "BadTable", .glo "Broken"]
def faL2 : List He.Fa := [.glo "Endless", .glo "Enough", .glo "Ground", .glo "NoSuch", .glo "NotLeast", .glo "NotLow", .glo "NotRight", .glo "NothingLeft", .glo "Refused", .glo "Stops", .glo "Unlike", .glo "_law_add"]
def faL3 : List He.Fa := [.glo "_law_asked", .glo "_law_bag", .glo "_law_copied", .glo "_law_draw", .glo "_law_due", .glo "_law_fault", .glo "_law_gcd", .glo "_law_int", .glo "_law_line", .glo "_law_mul", .glo "_law_num", .glo "_law_pick"]
def faL4 : List He.Fa := [.glo "_law_row", .glo "_law_same", .glo "_law_small", .glo "_law_spoil", .glo "_law_sums", .glo "check_lengths", .glo "dot", .glo "inverse_modulo", .glo "is_odd_prime", .glo "long_row", .glo "prime_of_line", .glo "unsigned"]
def faL5 : List He.Fa := [.meth "Ground" "add", .meth "Ground" "mul", .meth "Ground" "number", .mkr "Ground", .noat "TooMany" "at", .noat "TooMany" "code", .noat "TooMany" "condition", .noat "TooMany" "cost", .noat "TooMany" "count", .noat "TooMany" "line", .noat "TooMany" "name", .noat "TooMany" "place"]
def faL6 : List He.Fa := [.noat "TooMany" "what", .noat "TooMany" "where", .noat "TooMany" "why", .noat "Ground" "prime", .noat "Ground" "line", .exm "TooMany" "Refused" true, .glo "law"]
def faL : List He.Fa := faL0 ++ (faL1 ++ (faL2 ++ (faL3 ++ (faL4 ++ (faL5 ++ (faL6))))))
def looseL0 : List Str := ["_wall", "dot", "Refused", "Missing", "Halted", "BadGround", "BadNumber", "BadTable", "BadProgram", "BadName", "BadFormula", "BadScript"]
def looseL1 : List Str := ["Broken", "Unlike", "NotRight", "NotLeast", "NotLow", "BadPoints", "TooMany", "NoSuch", "Stops", "Enough", "Endless", "NothingLeft"]
def looseL2 : List Str := ["is_odd_prime", "inverse_modulo", "MOST_DIGITS", "unsigned", "signed", "fraction", "GREATEST_PRIME", "prime_of_line", "Ground", "check_lengths", "long_row", "_law_bag"]
def looseL3 : List Str := ["_law_draw", "_law_pick", "_law_same", "_law_copied", "_law_spoil", "_law_gcd", "_law_num", "_law_int", "_law_add", "_law_mul", "_law_line", "_law_small"]
def looseL4 : List Str := ["_law_row", "_law_fault", "_law_due", "_law_asked", "_law_sums"]
def looseL : List Str := looseL0 ++ (looseL1 ++ (looseL2 ++ (looseL3 ++ (looseL4))))
def exL (K : PySem.W.Frag) : Bool := He.eqO (PySem.W.nsIn K mainGlobals "gcd") (some (some (.builtin "math.gcd"))) && (oexB K (He.ga K "TooMany") && (He.eqO (PySem.W.findIn K (.ref (He.ga K "TooMany")) "__init__") (some (some (.ref (He.ma K (He.ga K "TooMany") "__init__")))) &&
  (decide (PySem.W.typeIn K (.ref (He.ma K (He.ga K "TooMany") "__init__")) = some (.type "function")) && (excB K (He.ga K "TooMany") && errL.all fun x => decide (PySem.W.kitOne K (.ref (He.ga K "TooMany")) (.ref (He.ga K x)) = some (decide (x = "TooMany")))))))
abbrev RL : PySem.W.OpenRow := PySem.W.OpenLaw.row PySem.Challenge.rw_twiceless_k83_long_rows_cut
abbrev qL : Program := PySem.W.view RL.prog [0, 61]
abbrev hkL : PySem.W.Hook := He.hookX 4 faL fnL [] [] exL
def obL (s : PySem.W.SharedT) : He.AlX := He.obsX 4 faL fnL [] [] exL (HandSHeadRun.getT s)
theorem obL_eq (s : PySem.W.SharedT) : obL s = hkL.obs s.abs := He.obsX_eq (HandSHeadRun.getT_eq s)
theorem runL (w : World) : HandSHeadRun.RunEqI RL qL hkL obL 20000 looseL w := by
  unfold HandSHeadRun.RunEqI
  kernel_rfl
theorem factsL {P : Program} {w : World} {K : PySem.W.Frag} {h : Heap} {mg : Str → Option Value} {f : Addr} (X : K.In h) (G : h.Ns mainGlobals mg) (hfa : mg ("law" : Str) = some (.ref f)) (cx : He.SaysX faL fnL [] [] exL w h K) :
    ∃ fd : FuncData, (∀ (s : Shared) (v : Value), BindsTo s fd ⟨[v], []⟩ [("script", v)]) ∧ ∀ base : Heap, K.In base → base.Ns mainGlobals mg → FnOk P w K mg base CX0 7 f fd ["script"] (sp_law K) := by
  have c := cx.t.d
  obtain ⟨x1, y1⟩ := He.ba cx.more
  obtain ⟨x2, y2⟩ := He.ba y1
  obtain ⟨x3, y3⟩ := He.ba y2
  obtain ⟨x4, y4⟩ := He.ba y3
  obtain ⟨x5, x6⟩ := He.ba y4
  have T : Txt K mg := {
    b_abs := He.free_ok X G (c.fact 0 (f := .free "abs") rfl),
    b_bool := He.free_ok X G (c.fact 1 (f := .free "bool") rfl),
    b_int := He.free_ok X G (c.fact 2 (f := .free "int") rfl),
    b_isinstance := He.free_ok X G (c.fact 3 (f := .free "isinstance") rfl),
    b_len := He.free_ok X G (c.fact 4 (f := .free "len") rfl),
    b_list := He.free_ok X G (c.fact 5 (f := .free "list") rfl),
    b_max := He.free_ok X G (c.fact 6 (f := .free "max") rfl),
    b_range := He.free_ok X G (c.fact 7 (f := .free "range") rfl),
    b_str := He.free_ok X G (c.fact 8 (f := .free "str") rfl),
    b_sum := He.free_ok X G (c.fact 9 (f := .free "sum") rfl),
    b_tuple := He.free_ok X G (c.fact 10 (f := .free "tuple") rfl),
    b_zip := He.free_ok X G (c.fact 11 (f := .free "zip") rfl),
    c_GREATEST_PRIME := He.int_ok X G (c.fact 12 (f := .int "GREATEST_PRIME" 10007) rfl),
    cl_Ground := He.cls_ok (c.fact 13 (f := .cls "Ground") rfl),
    ex_TooMany := ⟨oexB_ok x2, He.eqO_ok x3, of_decide_eq_true x4, He.glo_ok X G (c.fact 14 (f := .glo "TooMany") rfl)⟩,
    g_BadFormula := He.glo_ok X G (c.fact 15 (f := .glo "BadFormula") rfl),
    g_BadGround := He.glo_ok X G (c.fact 16 (f := .glo "BadGround") rfl),
    g_BadName := He.glo_ok X G (c.fact 17 (f := .glo "BadName") rfl),
    g_BadNumber := He.glo_ok X G (c.fact 18 (f := .glo "BadNumber") rfl),
    g_BadPoints := He.glo_ok X G (c.fact 19 (f := .glo "BadPoints") rfl),
    g_BadProgram := He.glo_ok X G (c.fact 20 (f := .glo "BadProgram") rfl),
    g_BadScript := He.glo_ok X G (c.fact 21 (f := .glo "BadScript") rfl),
    g_BadTable := He.glo_ok X G (c.fact 22 (f := .glo "BadTable") rfl),
    g_Broken := He.glo_ok X G (c.fact 23 (f := .glo "Broken") rfl),
    g_Endless := He.glo_ok X G (c.fact 24 (f := .glo "Endless") rfl),
    g_Enough := He.glo_ok X G (c.fact 25 (f := .glo "Enough") rfl),
    g_Ground := He.glo_ok X G (c.fact 26 (f := .glo "Ground") rfl),
    g_NoSuch := He.glo_ok X G (c.fact 27 (f := .glo "NoSuch") rfl),
    g_NotLeast := He.glo_ok X G (c.fact 28 (f := .glo "NotLeast") rfl),
    g_NotLow := He.glo_ok X G (c.fact 29 (f := .glo "NotLow") rfl),
    g_NotRight := He.glo_ok X G (c.fact 30 (f := .glo "NotRight") rfl),
    g_NothingLeft := He.glo_ok X G (c.fact 31 (f := .glo "NothingLeft") rfl),
    g_Refused := He.glo_ok X G (c.fact 32 (f := .glo "Refused") rfl),
    g_Stops := He.glo_ok X G (c.fact 33 (f := .glo "Stops") rfl),
    g_TooMany := He.glo_ok X G (c.fact 14 (f := .glo "TooMany") rfl),
    g_Unlike := He.glo_ok X G (c.fact 34 (f := .glo "Unlike") rfl),
    g__law_add := He.glo_ok X G (c.fact 35 (f := .glo "_law_add") rfl),
    g__law_asked := He.glo_ok X G (c.fact 36 (f := .glo "_law_asked") rfl),
    g__law_bag := He.glo_ok X G (c.fact 37 (f := .glo "_law_bag") rfl),
    g__law_copied := He.glo_ok X G (c.fact 38 (f := .glo "_law_copied") rfl),
    g__law_draw := He.glo_ok X G (c.fact 39 (f := .glo "_law_draw") rfl),
    g__law_due := He.glo_ok X G (c.fact 40 (f := .glo "_law_due") rfl),
    g__law_fault := He.glo_ok X G (c.fact 41 (f := .glo "_law_fault") rfl),
    g__law_gcd := He.glo_ok X G (c.fact 42 (f := .glo "_law_gcd") rfl),
    g__law_int := He.glo_ok X G (c.fact 43 (f := .glo "_law_int") rfl),
    g__law_line := He.glo_ok X G (c.fact 44 (f := .glo "_law_line") rfl),
    g__law_mul := He.glo_ok X G (c.fact 45 (f := .glo "_law_mul") rfl),
    g__law_num := He.glo_ok X G (c.fact 46 (f := .glo "_law_num") rfl),
    g__law_pick := He.glo_ok X G (c.fact 47 (f := .glo "_law_pick") rfl),
    g__law_row := He.glo_ok X G (c.fact 48 (f := .glo "_law_row") rfl),
    g__law_same := He.glo_ok X G (c.fact 49 (f := .glo "_law_same") rfl),
    g__law_small := He.glo_ok X G (c.fact 50 (f := .glo "_law_small") rfl),
    g__law_spoil := He.glo_ok X G (c.fact 51 (f := .glo "_law_spoil") rfl),
    g__law_sums := He.glo_ok X G (c.fact 52 (f := .glo "_law_sums") rfl),
    g_check_lengths := He.glo_ok X G (c.fact 53 (f := .glo "check_lengths") rfl),
    g_dot := He.glo_ok X G (c.fact 54 (f := .glo "dot") rfl),
    g_inverse_modulo := He.glo_ok X G (c.fact 55 (f := .glo "inverse_modulo") rfl),
    g_is_odd_prime := He.glo_ok X G (c.fact 56 (f := .glo "is_odd_prime") rfl),
    g_long_row := He.glo_ok X G (c.fact 57 (f := .glo "long_row") rfl),
    g_prime_of_line := He.glo_ok X G (c.fact 58 (f := .glo "prime_of_line") rfl),
    g_unsigned := He.glo_ok X G (c.fact 59 (f := .glo "unsigned") rfl),
    i_gcd := PySem.W.mg_of X G (He.eqO_ok x1),
    m_Ground_add := He.meth_ok (c.fact 60 (f := .meth "Ground" "add") rfl),
    m_Ground_mul := He.meth_ok (c.fact 61 (f := .meth "Ground" "mul") rfl),
    m_Ground_number := He.meth_ok (c.fact 62 (f := .meth "Ground" "number") rfl),
    mk_Ground := He.mkr_ok (c.fact 63 (f := .mkr "Ground") rfl),
    no_at := He.noat_ok (c.fact 64 (f := .noat "TooMany" "at") rfl),
    no_code := He.noat_ok (c.fact 65 (f := .noat "TooMany" "code") rfl),
    no_condition := He.noat_ok (c.fact 66 (f := .noat "TooMany" "condition") rfl),
    no_cost := He.noat_ok (c.fact 67 (f := .noat "TooMany" "cost") rfl),
    no_count := He.noat_ok (c.fact 68 (f := .noat "TooMany" "count") rfl),
    no_line := He.noat_ok (c.fact 69 (f := .noat "TooMany" "line") rfl),
    no_name := He.noat_ok (c.fact 70 (f := .noat "TooMany" "name") rfl),
    no_place := He.noat_ok (c.fact 71 (f := .noat "TooMany" "place") rfl),
    no_what := He.noat_ok (c.fact 72 (f := .noat "TooMany" "what") rfl),
    no_where := He.noat_ok (c.fact 73 (f := .noat "TooMany" "where") rfl),
    no_why := He.noat_ok (c.fact 74 (f := .noat "TooMany" "why") rfl),
    xf := (excB_ok x5).1,
    gr := ⟨He.cls_ok (c.fact 13 (f := .cls "Ground") rfl), He.noat_ok (c.fact 75 (f := .noat "Ground" "prime") rfl), He.noat_ok (c.fact 76 (f := .noat "Ground" "line") rfl)⟩,
    tm := ⟨oexB_ok x2, He.noat_ok (c.fact 65 (f := .noat "TooMany" "code") rfl), He.noat_ok (c.fact 72 (f := .noat "TooMany" "what") rfl), He.noat_ok (c.fact 68 (f := .noat "TooMany" "count") rfl)⟩,
    ft := ⟨(excB_ok x5).2, fun x hx => of_decide_eq_true (List.all_eq_true.mp x6 x hx)⟩,
    ask := ⟨He.exm_ok (c.fact 77 (f := .exm "TooMany" "Refused" true) rfl)⟩}
  obtain ⟨fd0, F0⟩ := c.def_ 0 (d := d_f_law_gcd) rfl
  obtain ⟨fd1, F1⟩ := c.def_ 1 (d := d_f_law_num) rfl
  obtain ⟨fd2, F2⟩ := c.def_ 2 (d := d_f_law_int) rfl
  obtain ⟨fd3, F3⟩ := c.def_ 3 (d := d_f_law_add) rfl
  obtain ⟨fd4, F4⟩ := c.def_ 4 (d := d_f_law_mul) rfl
  obtain ⟨fd5, F5⟩ := c.def_ 5 (d := d_f_law_draw) rfl
  obtain ⟨fd6, F6⟩ := c.def_ 6 (d := d_f_law_pick) rfl
  obtain ⟨fd7, F7⟩ := c.def_ 7 (d := d_f_law_small) rfl
  obtain ⟨fd8, F8⟩ := c.def_ 8 (d := d_f_law_row) rfl
  obtain ⟨fd9, F9⟩ := c.def_ 9 (d := d_f_law_bag) rfl
  obtain ⟨fd10, F10⟩ := c.def_ 10 (d := d_f_law_line) rfl
  obtain ⟨fd11, F11⟩ := c.def_ 11 (d := d_f_law_copied) rfl
  obtain ⟨fd12, F12⟩ := c.def_ 12 (d := d_f_law_same) rfl
  obtain ⟨fd13, F13⟩ := c.def_ 13 (d := d_f_law_spoil) rfl
  obtain ⟨fd14, F14⟩ := c.def_ 14 (d := d_f_law_due) rfl
  obtain ⟨fd15, F15⟩ := c.def_ 15 (d := d_f_law_sums) rfl
  obtain ⟨fd16, F16⟩ := c.def_ 16 (d := d_f_inverse_modulo) rfl
  obtain ⟨fd17, F17⟩ := c.def_ 17 (d := d_m_Ground_number) rfl
  obtain ⟨fd18, F18⟩ := c.def_ 18 (d := d_m_Ground_add) rfl
  obtain ⟨fd19, F19⟩ := c.def_ 19 (d := d_m_Ground_mul) rfl
  obtain ⟨fd20, F20⟩ := c.def_ 20 (d := d_f_dot) rfl
  obtain ⟨fd21, F21⟩ := c.def_ 21 (d := d_f_unsigned) rfl
  obtain ⟨fd22, F22⟩ := c.def_ 22 (d := d_f_is_odd_prime) rfl
  obtain ⟨fd23, F23⟩ := c.def_ 23 (d := d_f_prime_of_line) rfl
  obtain ⟨fd24, F24⟩ := c.def_ 24 (d := d_m_Ground_init) rfl
  obtain ⟨fd25, F25⟩ := c.def_ 25 (d := d_m_TooMany_init) rfl
  obtain ⟨fd26, F26⟩ := c.def_ 26 (d := d_f_check_lengths) rfl
  obtain ⟨fd27, F27⟩ := c.def_ 27 (d := d_f_long_row) rfl
  obtain ⟨fd28, F28⟩ := c.def_ 28 (d := d_f_law_fault) rfl
  obtain ⟨fd29, F29⟩ := c.def_ 29 (d := d_f_law_asked) rfl
  obtain ⟨fd30, F30⟩ := c.def_ 30 (d := d_f_law) rfl
  have e := hfa.symm.trans (He.glo_ok X G (c.fact 78 (f := .glo "law") rfl))
  cases e
  have b := FunD.bindsA (ps := ["script"]) F30 fun _ _ _ _ _ _ us hl => match us, hl with | [_], _ => rfl
  refine ⟨fd30, fun s v => b s [v] rfl, fun base _ _ => ?_⟩
  have G__law_gcd := ok_f_law_gcd (P := P) (w := w) (base := base) T F0 
  have G__law_num := ok_f_law_num (P := P) (w := w) (base := base) T F1 G__law_gcd
  have G__law_int := ok_f_law_int (P := P) (w := w) (base := base) T F2 
  have G__law_add := ok_f_law_add (P := P) (w := w) (base := base) T F3 G__law_num
  have G__law_mul := ok_f_law_mul (P := P) (w := w) (base := base) T F4 G__law_num
  have G__law_draw := ok_f_law_draw (P := P) (w := w) (base := base) T F5 
  have G__law_pick := ok_f_law_pick (P := P) (w := w) (base := base) T F6 G__law_draw
  have G__law_small := ok_f_law_small (P := P) (w := w) (base := base) T F7 G__law_draw G__law_num G__law_pick
  have G__law_row := ok_f_law_row (P := P) (w := w) (base := base) T F8 G__law_small
  have G__law_bag := ok_f_law_bag (P := P) (w := w) (base := base) T F9 
  have G__law_line := ok_f_law_line (P := P) (w := w) (base := base) T F10 
  have G__law_copied := ok_f_law_copied (P := P) (w := w) (base := base) T F11 4
  have G__law_same := ok_f_law_same (P := P) (w := w) (base := base) T F12 4
  have G__law_spoil := ok_f_law_spoil (P := P) (w := w) (base := base) T F13 4
  have G__law_due := ok_f_law_due (P := P) (w := w) (base := base) T F14 
  have G__law_sums := ok_f_law_sums (P := P) (w := w) (base := base) T F15 G__law_add G__law_int G__law_mul
  have G_inverse_modulo := ok_f_inverse_modulo (P := P) (w := w) (base := base) (mg := mg) F16
  have G_Ground_number := ok_m_Ground_number (P := P) (w := w) (base := base) T F17 G_inverse_modulo
  have G_Ground_add := ok_m_Ground_add (P := P) (w := w) (base := base) T F18 G_Ground_number
  have G_Ground_mul := ok_m_Ground_mul (P := P) (w := w) (base := base) T F19 G_Ground_number
  have G_dot := ok_f_dot (P := P) (w := w) (base := base) T F20 G_Ground_add G_Ground_mul
  have G_unsigned := ok_f_unsigned (P := P) (w := w) (base := base) T F21 
  have G_is_odd_prime := ok_f_is_odd_prime (P := P) (w := w) (base := base) T F22 
  have G_prime_of_line := ok_f_prime_of_line (P := P) (w := w) (base := base) T F23 G_is_odd_prime G_unsigned
  have G_Ground_init := ok_m_Ground_init (P := P) (w := w) (base := base) T F24 G_prime_of_line
  have G_TooMany_init := ok_m_TooMany_init (P := P) (w := w) (base := base) T F25 
  have G_check_lengths := ok_f_check_lengths (P := P) (w := w) (base := base) T F26 G_TooMany_init
  have G_long_row := ok_f_long_row (P := P) (w := w) (base := base) T F27 G_check_lengths G_dot
  have G__law_fault := ok_f_law_fault (P := P) (w := w) (base := base) T F28 
  have G__law_asked := ok_f_law_asked (P := P) (w := w) (base := base) T F29 G_Ground_init G__law_copied G__law_fault G__law_line G__law_same G_long_row
  exact ok_f_law T F30 G__law_asked G__law_bag G__law_draw G__law_due G__law_pick G__law_row G__law_same G__law_spoil G__law_sums
end Tw
open PySem PySem.Calls PySem.W PyProof.Rows
theorem PySem.Challenge.cw_twiceless_k83_long_rows_cut_holds : PySem.Challenge.rw_twiceless_k83_long_rows_cut.Holds := by
  w_on; o_law
  refine HandSHeadRun.head_imp (r := Tw.RL) (q := Tw.qL) (H := Tw.hkL) (ob := Tw.obL) (M := 20000) (loose := Tw.looseL) (d := HandSHeadRun.topDef Tw.RL.prog 61) (kwd := []) Tw.obL_eq
    Tw.runL (by kernel_rfl) (by kernel_rfl) (by kernel_rfl) (by rfl) (by first | assumption | decide +kernel) (by decide +kernel) ⟨rfl, rfl, rfl, rfl, rfl, by decide +kernel⟩ ?hw ?hc
  case hw => w_witness2
  case hc =>
    refine L2.walk_ofE (l := PySem.Challenge.rw_twiceless_k83_long_rows_cut) (n := 63) (k := 7) (x := "script") (CX := L2.CX0) rfl (by decide) (by kernel_rfl) ⟨rfl, by decide, by decide⟩ ?F (fun _ _ _ _ z => z)
    intro w mg fa h Y G hmg0
    obtain ⟨K, KX, c⟩ := Y
    have hmg : mg ("law" : PySem.Str) = some (.ref fa) := by
      have e : (HandSHeadRun.topDef Tw.RL.prog 61).name = ("law" : PySem.Str) := by kernel_rfl
      rw [← e]
      exact hmg0
    obtain ⟨fd, hb, hF⟩ := Tw.factsL (P := PySem.Challenge.pw_twiceless_k83_long_rows_cut) (w := w) KX G hmg c
    exact ⟨K, fd, Tw.sp_law K, KX, hb, fun H a ns hl _ hS => ⟨a, ns, rfl, hS, hl, fun _ => rfl⟩, hF⟩
