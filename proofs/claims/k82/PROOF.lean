import PyProof.Rows.All
import Wide.All
import OpenK.AllK
import Wide.FinOn
import HandS.ForMost
import HandS.Evl
import HandS.Wide
import HandS.Defaults
import HandS.HeadHook4
import HandS.HeadEnd
import HandS.Head2
import HandS.HotCalls
import HandS.ExcInit
import HandS.ExcInitHot
import HandS.ExcIs
import HandS.ExcField
import HandS.Gcd
import HandS.Zip
import HandS.IsInst
import HandS.TryOnly
import HandS.Style
import HandS.StrMore
import HandS.ExcCtx
import HandS.ExcOwn
import HandS.EndBits
import HandS.TupAny
import KE.KStateDown
import HandS.Head0
import HandS.Head1
import HandS.Head3
import HandS.Lambda
import HandS.Nested
import HandS.Conv
import HandS.More
import KE.DatumOrd
import HandS.EndTab
import HandS.HeadWalk
import PySem.Challenge.RW_twiceless_k82_windows
set_option Elab.async false
set_option linter.all false
set_option maxRecDepth 100000
set_option maxHeartbeats 4400000
/-! Own layer, part A: rules for each operator of Python whatever it meets (unions of the layer's), their readings, and a step tactic. -/
namespace Tw
open PySem PySem.Spec PyProof.Rows L2 Evl RZ

/-! ### operators, whatever they meet -/
def uAdd (K : PySem.W.Frag) : R2 := fun x y H Q => rI0 (fun i j => .int (i + j)) x y H Q ∨ (∃ i j, x = .str i ∧ y = .str j ∧ i.length + j.length ≤ sizeLine ∧ Q (.str (i ++ j)) H) ∨ rCat x y H Q ∨ rCatA K x y H Q
def uSub : R2 := rI0 fun i j => .int (i - j)
def uMul (K : PySem.W.Frag) : R2 := fun x y H Q => rI CMul (fun i j => .int (i * j)) x y H Q ∨ rI CMulW (fun i j => .int (i * j)) x y H Q ∨ rRep x y H Q
def uFdiv : R2 := fun x y H Q => rI CDivW (fun i j => .int (i / j)) x y H Q ∨ rI CDivN (fun i j => .int (i.fdiv j)) x y H Q
def uMod : R2 := fun x y H Q => rI (fun _ j => 0 < j) (fun i j => .int (i % j)) x y H Q ∨ rI (fun _ j => j ≠ 0) (fun i j => .int (i.fmod j)) x y H Q
def uPow : R2 := rI CPow fun i j => .int (i ^ j.toNat)
def uNeg : V → Hp → VK → Prop := rU fun i => .int (-i)
def uEq (K : PySem.W.Frag) : R2 := fun x y H Q => rEq x y H Q ∨ rEqD K x y H Q
def uNe (K : PySem.W.Frag) : R2 := fun x y H Q => rNe x y H Q ∨ rNeD K x y H Q
def uLt (K : PySem.W.Frag) : R2 := fun x y H Q => rI0 (fun i j => .bl (decide (i < j))) x y H Q ∨ rLtT K x y H Q
def uLe (K : PySem.W.Frag) : R2 := rI0 fun i j => .bl (decide (i ≤ j))
def uGt (K : PySem.W.Frag) : R2 := rI0 fun i j => .bl (decide (j < i))
def uGe (K : PySem.W.Frag) : R2 := rI0 fun i j => .bl (decide (j ≤ i))
def uIsN : R2 := fun x y H Q => y = .non ∧ Q (.bl (decide (x = .non))) H
def uNotN : R2 := fun x y H Q => y = .non ∧ Q (.bl (!decide (x = .non))) H
def uIn (K : PySem.W.Frag) : R2 := fun x y H Q => rIn K false x y H Q ∨ (∃ i j, x = .str i ∧ y = .str j ∧ Q (.bl (!(Builtin.Str.occurrences j i 0 j.length 1).isEmpty)) H)
def uNotIn (K : PySem.W.Frag) : R2 := fun x y H Q => rIn K true x y H Q ∨ (∃ i j, x = .str i ∧ y = .str j ∧ Q (.bl (!(!(Builtin.Str.occurrences j i 0 j.length 1).isEmpty))) H)
def uIx (K : PySem.W.Frag) : R2 := rIx K
def uSl (K : PySem.W.Frag) : V → Option Int → Option Int → Hp → VK → Prop := fun x lo hi H Q => rSlL K x lo hi H Q ∨ rSlA K x lo hi H Q ∨ rSlS x lo hi H Q
def uLen (K : PySem.W.Frag) : List V → Hp → VK → Prop := fun xs H Q => (∃ p ys, xs = [.ref p] ∧ (SqL K H p ys ∨ SqT K H p ys) ∧ Q (.int ys.length) H) ∨ (∃ z, xs = [.str z] ∧ z.length ≤ sizeLine ∧ Q (.int z.length) H)
def rAbs : List V → Hp → VK → Prop := fun xs H Q => ∃ i, xs = [.int i] ∧ Q (.int (if i < 0 then -i else i)) H
def uMax (K : PySem.W.Frag) : List V → Hp → VK → Prop := fun xs H Q => (∃ i j, xs = [.int i, .int j] ∧ Q (.int (if j > i then j else i)) H) ∨ rMax K xs H Q
def uMin (K : PySem.W.Frag) : List V → Hp → VK → Prop := fun xs H Q => (∃ i j, xs = [.int i, .int j] ∧ Q (.int (if j < i then j else i)) H) ∨ rMin K xs H Q
def uSum (K : PySem.W.Frag) : List V → Hp → VK → Prop := rSum K
def uIsi (K : PySem.W.Frag) : List V → Hp → VK → Prop := rIsi K
def uInt : List V → Hp → VK → Prop := fun xs H Q => ((∃ i, xs = [.int i] ∧ Q (.int i) H) ∨ ∃ k, xs = [.bl k] ∧ Q (.int (if k then 1 else 0)) H) ∨ (∃ a n, xs = [.str a] ∧ PySem.intText? a = some n ∧ a.length ≤ 640 ∧ Q (.int n) H)
def uList (K : PySem.W.Frag) : List V → Hp → VK → Prop := fun xs H Q => ∃ p ys, xs = [.ref p] ∧ (SqL K H p ys ∨ SqT K H p ys) ∧ ∀ l, H l = none → Q (.ref l) (upd H l (.lst ys))
def uTuple (K : PySem.W.Frag) : List V → Hp → VK → Prop := fun xs H Q => ∃ p ys, xs = [.ref p] ∧ ((SqL K H p ys ∧ ∀ l, H l = none → Q (.ref l) (upd H l (.tup ys))) ∨ (SqT K H p ys ∧ Q (.ref p) H))
def uStr : List V → Hp → VK → Prop := fun xs H Q => ∃ i, xs = [.int i] ∧ i.natAbs.log2 < 1920 ∧ Q (.str (toString i)) H
def rIsascii : V → List V → Hp → VK → Prop := fun x xs H Q => ∃ a, x = .str a ∧ xs = [] ∧ True ∧ Q (.bl (Txt.isascii a)) H
def rIsdigit : V → List V → Hp → VK → Prop := fun x xs H Q => ∃ a, x = .str a ∧ xs = [] ∧ True ∧ Q (.bl (Txt.isdigit a)) H
def rStarts : V → List V → Hp → VK → Prop := fun x xs H Q => ∃ a b, x = .str a ∧ xs = [.str b] ∧ Q (.bl (Txt.startswith a b)) H
def tTru (K : PySem.W.Frag) (t : TE) : TT := fun σ H Q => t σ H fun x H1 => ∃ k, TruV K x H1 k ∧ Q k H1
section
variable {X : Cx}
theorem u_add : OpR X (binaryOp .Add) (uAdd X.K) := op_add.or (op_add_str.or (op_cat.or op_catA))
theorem u_mul : OpR X (binaryOp .Mult) (uMul X.K) := op_mul.or (op_mulW.or op_rep)
theorem u_fdiv : OpR X (binaryOp .FloorDiv) uFdiv := op_fdivW.or op_fdivN
theorem u_mod : OpR X (binaryOp .Mod) uMod := op_mod.or op_modN
theorem u_eq (hu : X.A.units + 64 < cLine) : OpR X (compareOp .Eq) (uEq X.K) := op_eq.or (op_eqD hu)
theorem u_ne (hu : X.A.units + 64 < cLine) : OpR X (compareOp .NotEq) (uNe X.K) := op_ne.or (op_neD hu)
theorem u_lt (hu : X.A.units + 64 < cLine) : OpR X (compareOp .Lt) (uLt X.K) := op_lt.or (op_ltT (by omega))
theorem u_le : OpR X (compareOp .LtE) (uLe X.K) := op_le
theorem u_gt : OpR X (compareOp .Gt) (uGt X.K) := op_gt
theorem u_ge : OpR X (compareOp .GtE) (uGe X.K) := op_ge
theorem u_in : OpR X (compareOp .In) (uIn X.K) := op_in_seq.or op_in_str
theorem u_notin : OpR X (compareOp .NotIn) (uNotIn X.K) := op_notIn_seq.or op_notin_str
theorem u_ix : IxR X (uIx X.K) := ix_seq
theorem u_sl : SlR X (uSl X.K) := sl_list.or (sl_tupA.or sl_str)
theorem u_len : CallR X (.builtin "len") (uLen X.K) := call_len_seq.or call_len_str
theorem u_max (hc : X.calm = true) : CallR X (.builtin "max") (uMax X.K) := (call_max2 hc).or (cr_max hc)
theorem u_min (hc : X.calm = true) : CallR X (.builtin "min") (uMin X.K) := (call_min2 hc).or (cr_min hc)
theorem u_sum (hc : X.calm = true) : CallR X (.builtin "sum") (uSum X.K) := cr_sum hc
theorem u_isi : CallR X (.builtin "isinstance") (uIsi X.K) := call_isi
theorem u_int : CallR X (.type "int") uInt := call_int1.or call_int_str
theorem u_list : CallR X (.type "list") (uList X.K) := call_list_of
theorem u_tuple : CallR X (.type "tuple") (uTuple X.K) := call_tuple_of
theorem u_str : CallR X (.type "str") uStr := call_str_int
end

/-! ### what is walked: a list or a tuple -/
def iSeq (K : PySem.W.Frag) (tl : TE) : TI := fun σ H R => tl σ H fun x H1 => ∃ a, x = .ref a ∧ (((∃ xs, SqL K H1 a xs) ∧ R (Itl K a) H1) ∨ ((∃ xs, SqT K H1 a xs) ∧ R (Itt K a) H1))
theorem pi_seq {X : Cx} {tg l : Expr} {tl : TE} (hl : PE X l tl) : PI X tg l (iSeq X.K tl) := by
  refine ⟨fun pns st sg Hh Rr Iv hw => ?_⟩
  refine thn (hl.run pns st sg Hh _ Iv hw) fun vv st1 hh => ?_
  obtain ⟨xv, H1, I1, rel, a, eq, alt⟩ := hh
  subst eq
  cases rel
  have nw := I1.fpOk (b := st1.heap.objs.size) (Nat.le_refl _) (I1.hok.fresh (Nat.le_refl _))
  have one : ∀ b ∈ [st1.heap.objs.size], FpOk X pns H1 b := fun b hb => by rw [List.mem_singleton.mp hb]; exact nw
  rcases alt with ⟨⟨xs, hq⟩, q⟩ | ⟨⟨xs, hq⟩, q⟩
  · obtain ⟨its, _, pl, _⟩ := I1.list hq
    refine wpAny_pyIter_list pl.isList ⟨_, _, _, _, H1, rfl, ?_, turn_list a _, ⟨_, Heap.get?_push_size _ rfl, rfl, rfl⟩, one, q⟩
    exact I1.kept (t' := st1.toks) fun b o e => Heap.get?_push_of_some _ e
  · obtain ⟨its, _, pl, _⟩ := I1.tuple hq
    have pl' : st1.heap.IsTuple a its.toArray := pl
    refine wpAny_pyIter_tuple pl' ⟨_, _, _, _, H1, rfl, ?_, turn_tuple a _, ⟨_, Heap.get?_push_size _ rfl, rfl, rfl⟩, one, q⟩
    exact I1.kept (t' := st1.toks) fun b o e => Heap.get?_push_of_some _ e
/-! ### calls of own defs by their place's name -/
structure OkF (P : Program) (w : World) (K : PySem.W.Frag) (mg : Str → Option Value) (base : Heap) (CX : CXT) (k : Nat) (p : Str × Option Str) (ps : List Str) (sp : Sp) : Prop where
  ex : ∃ fd, FnOk P w K mg base CX k (He.fAd K p) fd ps sp ∧ Binds K fd ps []
  kp : PySem.W.keepIn K (.ref (He.fAd K p)) = true
section
variable {X : Cx} {CX : CXT} {k : Nat} {x : Str} {ps : List Str} {sp : Sp} {E : XK} {q pos apos : Pos} {e : Expr} {es : List Expr} {t : TA}
theorem pe_own (G : OkF X.prog X.w X.K X.mg X.base CX k (x, none) ps sp) (hr : Room k X.A) (hg : Gl X x) (hm : X.mg x = some (.ref (He.ga X.K x))) (hx : Passes CX X E) (ha : PA X (e :: es) t)
    (hd : (x == ("__debug__" : Str)) = false := by decide) (he : starEach (e :: es) X.env = (false, eval e X.env) :: starEach es X.env := by rfl) (hpl : (backTo pos (starEach es X.env)).any (·.1) = false := by rfl) :
    PE X (.Call (.Name x q) (e :: es) [] pos) (tCall sp [] E t) := by
  obtain ⟨fd, F, b⟩ := G.ex
  exact pe_call F hr hg hm G.kp b .nil hx ha hd he hpl
end
theorem FunD.okF {P : Program} {w : World} {K : PySem.W.Frag} {mg : Str → Option Value} {base : Heap} {CX : CXT} {k : Nat} {p : Str × Option Str} {x qual : Str} {params : Arguments} {body : List Stmt} {scope : Scope} {ps : List Str} {sp : Sp} {fd : FuncData}
    (F : FunD K x qual params body scope [] [] (He.fAd K p) fd) (hf : FnOk P w K mg base CX k (He.fAd K p) fd ps sp)
    (h : ∀ (kV doc pm : Value) (an : Option Addr) (cdv ct : Value) (us : List Value), us.length = ps.length → bindArgs (PySem.W.fnOf x qual params body scope .none kV doc pm an cdv ct) ⟨us, []⟩ = pure (ps.zip us)) : OkF P w K mg base CX k p ps sp :=
  ⟨⟨fd, hf, F.bindsN h⟩, F.kp⟩

theorem ex_app {H H' : Hp} (e : Ex H H') {a : Addr} {o : HO} (h : H a = some o) : H' a = some o := e a o h
/-! ### readings, one step at a time -/
section
variable {K : PySem.W.Frag} {σ : L2.St} {H : Hp} {Q : VK} {QT : Bool → Hp → Prop} {QA : List V → Hp → Prop} {ta tb tc te : TE} {t u : TT} {tr : TA} {r : R2} {v : V} {D : Ends} {ts tu : TS} {i j : Int} {b : Bool}
theorem c_var {n : Nat} (h : σ[n]? = some (some v)) (q : Q v H) : tVar n σ H Q := ⟨v, h, q⟩
theorem c_c (q : Q v H) : tC v σ H Q := q
theorem c_op (h : ta σ H fun x H1 => tb σ H1 fun y H2 => r x y H2 Q) : tOp r ta tb σ H Q := h
theorem c_un {f : V → Hp → VK → Prop} (h : ta σ H fun x H1 => f x H1 Q) : tUn f ta σ H Q := h
theorem c_cb {f : List V → Hp → VK → Prop} (h : tr σ H fun vs H1 => f vs H1 Q) : tCB f tr σ H Q := h
theorem c_nil (q : QA [] H) : tNil σ H QA := q
theorem c_cons (h : ta σ H fun x H1 => tr σ H1 fun xs H2 => QA (x :: xs) H2) : tCons ta tr σ H QA := h
theorem c_tup (h : tr σ H fun xs H1 => xs.length ≤ sizeLine ∧ ∀ p, H1 p = none → Q (.ref p) (upd H1 p (.tup xs))) : tTup tr σ H Q := h
theorem c_lst (h : tr σ H fun xs H1 => xs.length ≤ sizeLine ∧ ∀ p, H1 p = none → Q (.ref p) (upd H1 p (.lst xs))) : tLst tr σ H Q := h
theorem c_call {sp : Sp} {dvs : List V} {E : XK} (h : tr σ H fun vs H1 => sp (vs ++ dvs) H1 Q E) : tCall sp dvs E tr σ H Q := h
theorem c_test (h : te σ H fun x H1 => ∃ k, x = .bl k ∧ QT k H1) : tTest te σ H QT := h
theorem c_B (h : te σ H fun x H1 => ∃ k, x = .bl k ∧ QT k H1) : tB te σ H QT := h
theorem c_bl {p : Bool → Prop} (h : p b) : ∃ k, V.bl b = .bl k ∧ p k := ⟨b, rfl, h⟩
theorem c_not (h : t σ H fun c H1 => QT (!c) H1) : tNot t σ H QT := h
theorem c_and (h : t σ H fun c H1 => if c = true then u σ H1 QT else QT false H1) : tAnd t u σ H QT := h
theorem c_or (h : t σ H fun c H1 => if c = true then QT true H1 else u σ H1 QT) : tOr t u σ H QT := h
theorem c_andV (h : ta σ H fun x H1 => ∃ c, x = .bl c ∧ if c = true then tb σ H1 Q else Q (.bl false) H1) : tAndV ta tb σ H Q := h
theorem c_orV (h : ta σ H fun x H1 => ∃ c, x = .bl c ∧ if c = true then Q (.bl true) H1 else tb σ H1 Q) : tOrV ta tb σ H Q := h
theorem c_notV (h : ta σ H fun x H1 => ∃ c, x = .bl c ∧ Q (.bl (!c)) H1) : tNotV ta σ H Q := h
theorem c_if (h : t σ H fun c H1 => if c = true then ta σ H1 Q else tb σ H1 Q) : tIf t ta tb σ H Q := h
theorem c_fld {f : Str} (h : ta σ H fun x H1 => ∃ a C dx fs v, x = .ref a ∧ H1 a = some (.ins C dx fs) ∧ Cls K C ∧ NoAttr K C f ∧ fs.lookup f = some v ∧ Q v H1) : tFld K ta f σ H Q := h
-- statements
theorem c_seq (h : ts { D with nx := tu D } σ H) : tSeq ts tu D σ H := h
theorem c_asg {g : TG} (h : te σ H fun x H1 => g x σ H1 D.nx) : tAsg te g D σ H := h
theorem c_name {n : Nat} {QS : L2.St → Hp → Prop} (h : QS (σ.set n (some v)) H) : gName n v σ H QS := h
theorem c_sub {s : TSet} {QS : L2.St → Hp → Prop} (h : ta σ H fun o H1 => tb σ H1 fun x H2 => s o x v H2 fun H3 => QS σ H3) : gSub ta tb s v σ H QS := h
theorem c_ifS (h : t σ H fun c H1 => if c = true then ts D σ H1 else tu D σ H1) : tIfS t ts tu D σ H := h
theorem c_ret (h : te σ H D.rt) : tRet te D σ H := h
theorem c_next (h : D.nx σ H) : tNext D σ H := h
theorem c_drop (h : te σ H fun _ H1 => D.nx σ H1) : tDrop te D σ H := h
theorem c_par {m n : Nat} (h : tr σ H fun vs H1 => ∃ v w, vs = [v, w] ∧ D.nx ((σ.set m (some v)).set n (some w)) H1) : tPar m n tr D σ H := h
theorem c_par3 {m n l : Nat} (h : tr σ H fun vs H1 => ∃ u v w, vs = [u, v, w] ∧ D.nx (((σ.set m (some u)).set n (some v)).set l (some w)) H1) : tPar3 m n l tr D σ H := h
theorem c_vw {v w : V} {p : V → V → Prop} (h : p v w) : ∃ a b, [v, w] = [a, b] ∧ p a b := ⟨v, w, rfl, h⟩
theorem c_uvw {u v w : V} {p : V → V → V → Prop} (h : p u v w) : ∃ a b c, [u, v, w] = [a, b, c] ∧ p a b c := ⟨u, v, w, rfl, h⟩
-- operators
theorem c_addI (q : Q (.int (i + j)) H) : uAdd K (.int i) (.int j) H Q := .inl ⟨i, j, rfl, rfl, q⟩
theorem c_addS {x y : Str} (hl : x.length + y.length ≤ sizeLine) (q : Q (.str (x ++ y)) H) : uAdd K (.str x) (.str y) H Q := .inr (.inl ⟨x, y, rfl, rfl, hl, q⟩)
theorem c_subI (q : Q (.int (i - j)) H) : uSub (.int i) (.int j) H Q := ⟨i, j, rfl, rfl, q⟩
theorem c_mulI (h : CMul i j ∨ CMulW i j) (q : Q (.int (i * j)) H) : uMul K (.int i) (.int j) H Q := h.elim (fun h => .inl ⟨i, j, rfl, rfl, h, q⟩) fun h => .inr (.inl ⟨i, j, rfl, rfl, h, q⟩)
theorem c_fdivI (h : CDivW i j) (q : Q (.int (i / j)) H) : uFdiv (.int i) (.int j) H Q := .inl ⟨i, j, rfl, rfl, h, q⟩
theorem c_modI (h : 0 < j) (q : Q (.int (i % j)) H) : uMod (.int i) (.int j) H Q := .inl ⟨i, j, rfl, rfl, h, q⟩
theorem c_powI (h : CPow i j) (q : Q (.int (i ^ j.toNat)) H) : uPow (.int i) (.int j) H Q := ⟨i, j, rfl, rfl, h, q⟩
theorem c_negI (q : Q (.int (-i)) H) : uNeg (.int i) H Q := ⟨i, rfl, q⟩
theorem c_eqI (q : Q (.bl (decide (i = j))) H) : uEq K (.int i) (.int j) H Q := .inl ⟨rfl, by
  have e : decide (V.int i = V.int j) = decide (i = j) := by rw [dec_int, Bool.beq_eq_decide_eq]
  rw [e]; exact q⟩
theorem c_neI (q : Q (.bl (!decide (i = j))) H) : uNe K (.int i) (.int j) H Q := .inl ⟨rfl, by
  have e : decide (V.int i = V.int j) = decide (i = j) := by rw [dec_int, Bool.beq_eq_decide_eq]
  rw [e]; exact q⟩
theorem c_eqS {x y : Str} (q : Q (.bl (decide (x = y))) H) : uEq K (.str x) (.str y) H Q := .inl ⟨rfl, by
  have e : decide (V.str x = V.str y) = decide (x = y) := by rw [dec_str, Bool.beq_eq_decide_eq]
  rw [e]; exact q⟩
theorem c_neS {x y : Str} (q : Q (.bl (!decide (x = y))) H) : uNe K (.str x) (.str y) H Q := .inl ⟨rfl, by
  have e : decide (V.str x = V.str y) = decide (x = y) := by rw [dec_str, Bool.beq_eq_decide_eq]
  rw [e]; exact q⟩
theorem c_ltI (q : Q (.bl (decide (i < j))) H) : uLt K (.int i) (.int j) H Q := .inl ⟨i, j, rfl, rfl, q⟩
theorem c_leI (q : Q (.bl (decide (i ≤ j))) H) : uLe K (.int i) (.int j) H Q := ⟨i, j, rfl, rfl, q⟩
theorem c_gtI (q : Q (.bl (decide (j < i))) H) : uGt K (.int i) (.int j) H Q := ⟨i, j, rfl, rfl, q⟩
theorem c_geI (q : Q (.bl (decide (j ≤ i))) H) : uGe K (.int i) (.int j) H Q := ⟨i, j, rfl, rfl, q⟩
theorem c_isN (q : Q (.bl (decide (v = .non))) H) : uIsN v .non H Q := ⟨rfl, q⟩
theorem c_notN (q : Q (.bl (!decide (v = .non))) H) : uNotN v .non H Q := ⟨rfl, q⟩
theorem c_ixL {p : Addr} {xs : List V} (h : SqL K H p xs) (a : atI xs i = some v) (q : Q v H) : uIx K (.ref p) (.int i) H Q := .inl ⟨p, xs, i, v, rfl, rfl, h, a, q⟩
theorem c_ixT {p : Addr} {xs : List V} (h : SqT K H p xs) (a : atI xs i = some v) (q : Q v H) : uIx K (.ref p) (.int i) H Q := .inr (.inl ⟨p, xs, i, v, rfl, rfl, h, a, q⟩)
theorem c_lenL {p : Addr} {xs : List V} (h : SqL K H p xs) (q : Q (.int (xs.length : Int)) H) : uLen K [.ref p] H Q := .inl ⟨p, xs, rfl, .inl h, q⟩
theorem c_lenT {p : Addr} {xs : List V} (h : SqT K H p xs) (q : Q (.int (xs.length : Int)) H) : uLen K [.ref p] H Q := .inl ⟨p, xs, rfl, .inr h, q⟩
theorem c_intI (q : Q (.int i) H) : uInt [.int i] H Q := .inl (.inl ⟨i, rfl, q⟩)
theorem c_intB (q : Q (.int (if b then 1 else 0)) H) : uInt [.bl b] H Q := .inl (.inr ⟨b, rfl, q⟩)
theorem c_absI (q : Q (.int (if i < 0 then -i else i)) H) : rAbs [.int i] H Q := ⟨i, rfl, q⟩
theorem c_setL {p : Addr} {xs : List V} {n : Nat} {QS : Hp → Prop} (h : H p = some (.lst xs)) (a : ixN xs.length i = some n) (q : QS (upd H p (.lst (xs.set n v)))) : rSetL (.ref p) (.int i) v H QS := ⟨p, xs, i, n, rfl, rfl, h, a, q⟩
theorem c_isi {c : V} {t u : Value} (hc : ClsV c u) (ht : TyX K H v t) (h : PySem.W.kitOne K t u = some b) (q : Q (.bl b) H) : uIsi K [v, c] H Q := ⟨v, c, t, u, b, rfl, hc, ht, h, q⟩
end
section
variable {A B : Prop} {b : Bool}
theorem c_iteT (h : b = true) (q : A) : if b = true then A else B := by rw [if_pos h]; exact q
theorem c_iteF (h : b = false) (q : B) : if b = true then A else B := by rw [h, if_neg Bool.false_ne_true]; exact q
theorem c_ite (h1 : b = true → A) (h2 : b = false → B) : if b = true then A else B := by
  cases b with
  | true => rw [if_pos rfl]; exact h1 rfl
  | false => rw [if_neg Bool.false_ne_true]; exact h2 rfl
end
section
variable {K : PySem.W.Frag} {σ : L2.St} {H : Hp} {Q : VK} {te tl : TE} {tt : TT} {tr : TA} {g : TG} {ws : List Nat} {D : Ends} {ts : TS} {wi : TI} {R : It → Hp → Prop} {to th : TO} {QO : Option Int → Hp → Prop} {lo hi : Option Int} {i : Int} {v : V}
theorem c_for (h : wi σ H fun J H1 => ∃ W : Nat → Nat → L2.St → Hp → Prop, (∃ m, W 0 m σ H1) ∧ ∀ i m σ H, W i m σ H →
  (J.stop i H ∧ D.nx σ H) ∨ (J.go i H ∧ ∃ N : L2.St → Hp → Prop, (∀ σ' H', N σ' H' → ∃ m', m' < m ∧ W (i + 1) m' σ' H') ∧ ∀ x H', J.yld i H x H' → g x σ H' fun σ2 H2 => ts { D with nx := N, ct := N, bk := D.nx } σ2 H2)) : tFor wi g ts D σ H := h
theorem c_lc (h : wi σ H fun J H1 => ∀ L, H1 L = none → ∃ W : Nat → Nat → Hp → Prop, (∃ m, W 0 m (upd H1 L (.lst []))) ∧ ∀ i m H, W i m H →
  (J.stop i H ∧ Q (.ref L) H) ∨ (J.go i H ∧ ∃ Nx : Hp → Prop, (∀ H', Nx H' → ∃ m', m' < m ∧ W (i + 1) m' H') ∧ ∀ x H', J.yld i H x H' → g x (wipe σ ws) H' fun σ2 H2 => wipe σ2 ws = wipe σ ws ∧ tt σ2 H2 fun b H3 =>
    if b = true then te σ2 H3 fun y H4 => ∃ acc, H4 L = some (.lst acc) ∧ acc.length < sizeLine ∧ Nx (upd H4 L (.lst (acc ++ [y]))) else Nx H3)) : tLc wi g tt te ws σ H Q := h
theorem c_iZip (h : tr σ H fun vs H1 => ∃ a b xs ys, vs = [.ref a, .ref b] ∧ ((SqL K H1 a xs ∧ SqL K H1 b ys ∧ R (Itz K a b) H1) ∨ (SqT K H1 a xs ∧ SqT K H1 b ys ∧ R (ItzT K a b) H1))) : iZipA K tr σ H R := h
theorem c_tupG {n : Nat} {t : TGs} {a : Addr} {xs : List V} {QS : L2.St → Hp → Prop} (h : H a = some (.tup xs)) (hn : xs.length = n) (q : t xs σ H QS) : gTup K n t (.ref a) σ H QS := ⟨a, xs, rfl, SqT.of h, hn, q⟩
theorem c_gcons {t : TG} {u : TGs} {xs : List V} {QS : L2.St → Hp → Prop} (q : t v σ H fun σ' H' => u xs σ' H' QS) : gCons t u (v :: xs) σ H QS := ⟨v, xs, rfl, q⟩
theorem c_gnil {QS : L2.St → Hp → Prop} (q : QS σ H) : gNil [] σ H QS := ⟨rfl, q⟩
theorem c_meth {C : Addr} {m : Str} {sp : Sp} {dvs : List V} {E : XK} (h : te σ H fun x H1 => ∃ a dx fs, x = .ref a ∧ H1 a = some (.ins C dx fs) ∧ fs.lookup m = none ∧ tr σ H1 fun vs H2 => sp (x :: (vs ++ dvs)) H2 Q E) : tMeth C m sp dvs E te tr σ H Q := h
theorem c_make {C : Addr} {sp : Sp} {dvs : List V} {E : XK} (h : tr σ H fun vs H1 => ∀ x dx, H1 x = none → H1 dx = none → dx ≠ x → sp (.ref x :: (vs ++ dvs)) (upd (upd H1 dx (.own x)) x (.ins C dx [])) (fun v H2 => v = .non ∧ Q (.ref x) H2) E) : tMake C sp dvs E tr σ H Q := h
theorem c_m0 {r : V → List V → Hp → VK → Prop} (h : te σ H fun x H1 => (∃ a, x = .str a) ∧ r x [] H1 Q) : tM0 r te σ H Q := h
theorem c_m1 {r : V → List V → Hp → VK → Prop} (h : te σ H fun x H1 => (∃ a, x = .str a) ∧ tl σ H1 fun y H2 => r x [y] H2 Q) : tM1 r te tl σ H Q := h
theorem c_asc {a : Str} (q : Q (.bl (Txt.isascii a)) H) : (∃ b, V.str a = .str b) ∧ rIsascii (.str a) [] H Q := ⟨⟨_, rfl⟩, a, rfl, rfl, trivial, q⟩
theorem c_dig {a : Str} (q : Q (.bl (Txt.isdigit a)) H) : (∃ b, V.str a = .str b) ∧ rIsdigit (.str a) [] H Q := ⟨⟨_, rfl⟩, a, rfl, rfl, trivial, q⟩
theorem c_sx {x : Str} {p : Prop} (h : p) : (∃ a, V.str x = .str a) ∧ p := ⟨⟨x, rfl⟩, h⟩
theorem c_sta {a b : Str} (q : Q (.bl (Txt.startswith a b)) H) : rStarts (.str a) [.str b] H Q := ⟨a, b, rfl, rfl, q⟩
theorem c_lenS {z : Str} (h : z.length ≤ sizeLine) (q : Q (.int z.length) H) : uLen K [.str z] H Q := .inr ⟨z, rfl, h, q⟩
theorem c_intS {a : Str} {n : Int} (h : PySem.intText? a = some n) (hl : a.length ≤ 640) (q : Q (.int n) H) : uInt [.str a] H Q := .inr ⟨a, n, rfl, h, hl, q⟩
theorem c_sFld {ta tv : TE} {f : Str} (h : tv σ H fun y H1 => ta σ H1 fun x H2 => ∃ a C dx fs, x = .ref a ∧ H2 a = some (.ins C dx fs) ∧ Cls K C ∧ NoAttr K C f ∧ fs.length < 1000 ∧ D.nx σ (upd H2 a (.ins C dx (putF f y fs)))) : sFld K ta tv f D σ H := h
theorem c_yes {QT : Bool → Hp → Prop} (h : QT true H) : tYes σ H QT := h
theorem c_iList (h : tl σ H fun x H1 => ∃ a, x = .ref a ∧ (∃ xs, SqL K H1 a xs) ∧ R (Itl K a) H1) : iList K tl σ H R := h
theorem c_iTup (h : tl σ H fun x H1 => ∃ a, x = .ref a ∧ (∃ xs, SqT K H1 a xs) ∧ R (Itt K a) H1) : iTup K tl σ H R := h
theorem c_iSeq (h : tl σ H fun x H1 => ∃ a, x = .ref a ∧ (((∃ xs, SqL K H1 a xs) ∧ R (Itl K a) H1) ∨ ((∃ xs, SqT K H1 a xs) ∧ R (Itt K a) H1))) : iSeq K tl σ H R := h
theorem c_iR1 (h : tr σ H fun vs H1 => ∃ j : Int, vs = [.int j] ∧ -(2 ^ 62) ≤ j ∧ j < 2 ^ 62 ∧ R (Itr 0 j.toNat) H1) : iRng1 tr σ H R := h
theorem c_iR2 (h : tr σ H fun vs H1 => ∃ i j : Int, vs = [.int i, .int j] ∧ (-(2 ^ 62) ≤ i ∧ i < 2 ^ 62 ∧ -(2 ^ 62) ≤ j ∧ j < 2 ^ 62) ∧ R (Itr i (j - i).toNat) H1) : iRng2 tr σ H R := h
theorem c_sl {r : V → Option Int → Option Int → Hp → VK → Prop} (h : te σ H fun x H1 => to σ H1 fun l H2 => th σ H2 fun u H3 => r x l u H3 Q) : tSl r te to th σ H Q := h
theorem c_part (h : te σ H fun x H1 => ∃ i, x = .int i ∧ QO (some i) H1) : tPart te σ H QO := h
theorem c_noPart (h : QO none H) : tNoPart σ H QO := h
theorem c_i1 {p : Int → Prop} (h : p i) : ∃ j, V.int i = .int j ∧ p j := ⟨i, rfl, h⟩
theorem c_slL {p : Addr} {xs : List V} (h : SqL K H p xs) (q : ∀ l, H l = none → Q (.ref l) (upd H l (.lst (cutV xs lo hi)))) : uSl K (.ref p) lo hi H Q := .inl ⟨p, xs, rfl, h, q⟩
theorem c_slT {p : Addr} {xs : List V} (h : H p = some (.tup xs)) (q : ∀ t H', Ex H H' → H' t = some (.tup (cutV xs lo hi)) → (t = p ∨ H t = none) → Q (.ref t) H') : uSl K (.ref p) lo hi H Q := by
  refine .inr (.inl ⟨p, xs, rfl, SqT.of h, fun e => ?_, fun _ t ht => q t _ (Ex.new ht) upd_same (.inr ht)⟩)
  refine q p H (Ex.refl H) ?_ (.inl rfl)
  have e2 : cutV xs lo hi = xs := by
    unfold cutV
    rw [e.1, e.2, List.drop_zero, Nat.sub_zero, List.take_length]
  rw [e2]
  exact h
theorem c_slS {z : Str} (h : z.length ≤ sizeLine) (q : Q (.str (cutS z lo hi)) H) : uSl K (.str z) lo hi H Q := .inr (.inr ⟨z, rfl, h, q⟩)
theorem c_listL {p : Addr} {xs : List V} (h : SqL K H p xs) (q : ∀ l, H l = none → Q (.ref l) (upd H l (.lst xs))) : uList K [.ref p] H Q := ⟨p, xs, rfl, .inl h, q⟩
theorem c_listT {p : Addr} {xs : List V} (h : SqT K H p xs) (q : ∀ l, H l = none → Q (.ref l) (upd H l (.lst xs))) : uList K [.ref p] H Q := ⟨p, xs, rfl, .inr h, q⟩
theorem c_tupleL {p : Addr} {xs : List V} (h : SqL K H p xs) (q : ∀ l, H l = none → Q (.ref l) (upd H l (.tup xs))) : uTuple K [.ref p] H Q := ⟨p, xs, rfl, .inl ⟨h, q⟩⟩
theorem c_app {p : Addr} {xs : List V} (h : H p = some (.lst xs)) (hz : xs.length < sizeLine) (q : Q .non (upd H p (.lst (xs ++ [v])))) : rAppend (.ref p) [v] H Q := ⟨p, xs, v, rfl, rfl, h, hz, q⟩
theorem c_rev {p : Addr} {xs : List V} (h : H p = some (.lst xs)) (q : Q .non (upd H p (.lst xs.reverse))) : rReverse (.ref p) [] H Q := ⟨p, xs, rfl, rfl, h, q⟩
theorem c_bm {T : String} {r : V → List V → Hp → VK → Prop} (h : te σ H fun x H1 => tyV K T x H1 ∧ tr σ H1 fun xs H2 => r x xs H2 Q) : tBM K T r te tr σ H Q := h
theorem c_bm0 {T : String} {r : V → List V → Hp → VK → Prop} (h : te σ H fun x H1 => tyV K T x H1 ∧ r x [] H1 Q) : tBM0 K T r te σ H Q := h
theorem c_tyL {p : Addr} {xs : List V} (h : H p = some (.lst xs)) : tyV K "list" (.ref p) H := .inl ⟨rfl, xs, SqL.of h⟩
theorem c_aug {n : Nat} {f : Int → Int → Int} {a : Int} (hx : σ[n]? = some (some (.int a))) (h : te σ H fun y H1 => ∃ j, y = .int j ∧ D.nx (σ.set n (some (.int (f a j)))) H1) (mono : ∀ (Q Q' : VK), (∀ v H1, Q v H1 → Q' v H1) → te σ H Q → te σ H Q') : tAug n te (ipI f) D σ H :=
  ⟨.int a, hx, mono _ _ (fun y H1 q => by obtain ⟨j, rfl, q⟩ := q; exact ⟨a, j, rfl, rfl, q⟩) h⟩
end
/-- what stands behind an if, told once -/
theorem c_cut {ts tu : TS} {D : Ends} {σ : L2.St} {H : Hp} (Mid : L2.St → Hp → Prop) (h : ts { D with nx := Mid } σ H) (k : ∀ σ' H', Mid σ' H' → tu D σ' H') : tCut ts tu D σ H := ⟨Mid, h, k⟩
/-- a while by a word W that speaks of a number that falls -/
theorem c_while {c : TT} {tb : TS} {D : Ends} {σ : L2.St} {H : Hp} (W : Nat → L2.St → Hp → Prop) (m0 : Nat) (h0 : W m0 σ H)
    (hs : ∀ m σ H, W m σ H → c σ H fun b H1 => if b = true then tb { D with nx := fun σ' H' => ∃ m', m' < m ∧ W m' σ' H', ct := fun σ' H' => ∃ m', m' < m ∧ W m' σ' H', bk := D.nx } σ H1 else D.nx σ H1)
    (mono : ∀ s0 h0 Q1 Q2, (∀ b h1, Q1 b h1 → Q2 b h1) → c s0 h0 Q1 → c s0 h0 Q2) : tWhile c tb D σ H := by
  refine ⟨W, ⟨m0, h0⟩, fun m σ1 H1 hw => ?_⟩
  refine mono σ1 H1 _ _ (fun b H2 q => ?_) (hs m σ1 H1 hw)
  cases b with
  | true => rw [if_pos rfl] at q ⊢; exact ⟨_, fun _ _ z => z, q⟩
  | false => rw [if_neg Bool.false_ne_true] at q ⊢; exact q
end Tw
/-! Own layer, part Q: an own error raised, caught, looked at by a def that the except suite calls. -/
namespace Tw
open PySem PySem.Spec PyProof.Rows L2 Evl RZ L2H HotX

/-! ### raise of an own error, its context None -/
theorem passN {X : Cx} : Passes (L2N.CX X.prog X.w) X E0 := fun _ _ _ _ _ _ _ h => by
  obtain ⟨_, _, _, _, _, _, _, _, _, _, _, _, z⟩ := (h)
  exact z.elim
theorem pmk_ownN {X : Cx} {nm : Str} {a0 : Expr} {as : List Expr} {tr : TA} {p pos : Pos} {C fi : Addr} {k : Nat} {fd : FuncData} {pars : List Str} {sp : Sp} (oc : OexC X.K C) (iC : PySem.W.findIn X.K (.ref C) "__init__" = some (some (.ref fi)))
    (tI : PySem.W.typeIn X.K (.ref fi) = some (.type "function")) (fo : FnOk X.prog X.w X.K X.mg X.base (L2N.CX X.prog X.w) k fi fd pars sp) (room : Room (k + 1) X.A) (bd : Binds X.K fd pars []) (gl : Gl X nm) (mgx : X.mg nm = some (.ref C))
    (dA : PA X (a0 :: as) tr) (hdb : (nm == ("__debug__" : Str)) = false := by decide) (he : starEach (a0 :: as) X.env = (false, eval a0 X.env) :: starEach as X.env := by rfl) (hpl : (backTo pos (starEach as X.env)).any (·.1) = false := by rfl) :
    L2N.PMk X (.Call (.Name nm p) (a0 :: as) [] pos) (tMkO C sp [] tr) := by
  intro pns st sg G Qx iv hw
  obtain ⟨n1, n2, n3, n4, mro, n5, n6, n7, n8, n9, j0, j1, j2, j3, j5, atC, refs⟩ := oc.cls
  refine wpAny_Call_Name_kw (ld_glob iv gl mgx ?_ hdb)
  refine PySem.W.callWith_K (h₀ := X.base) iv.ok.mod.kin oc.kC (thn (dA.run pos pns st sg G _ iv hw) fun us st1 hh => ?_) he hpl
  obtain ⟨vs, G1, iv1, rel, small, want⟩ := hh
  refine ⟨iv1.kIn, ?_⟩
  show (wpAny _ _ (call (.ref C) us) _ _ _)
  obtain ⟨heap, gens, drw, tok, osx⟩ := st1
  have up1 : heap.objs.size ≤ heap.objs.size + 1 := Nat.le_succ _
  have w1 := want (heap.objs.size + 1) (iv1.hok.fresh up1)
  rw [List.append_nil] at w1
  have stays : ∀ b o, heap.get? b = some o → ((heap.push (PySem.W.kdv_tup us)).push (PySem.HandSPX.excO C heap.objs.size)).get? b = some o := fun b o e => Heap.get?_push_of_some _ (Heap.get?_push_of_some _ e)
  have there : ((heap.push (PySem.W.kdv_tup us)).push (PySem.HandSPX.excO C heap.objs.size)).get? (heap.objs.size + 1) = some (PySem.HandSPX.excO C heap.objs.size) := by heap_get
  have iv2 : Inv X pns sg (upd G1 (heap.objs.size + 1) (exo (heap.objs.size + 1) C none)) ⟨(heap.push (PySem.W.kdv_tup us)).push (PySem.HandSPX.excO C heap.objs.size), gens, drw, tok, osx⟩ :=
    iv1.laid (t' := tok) (a := heap.objs.size + 1) (o := exo (heap.objs.size + 1) C none) (h' := (heap.push (PySem.W.kdv_tup us)).push (PySem.HandSPX.excO C heap.objs.size)) stays up1 (exo_ok there)
  have relS : Vals (V.ref (heap.objs.size + 1) :: vs) (Value.ref (heap.objs.size + 1) :: us) := .cons rfl rel
  have lenS : (Value.ref (heap.objs.size + 1) :: us ++ []).length = pars.length := by
    rw [List.append_nil, ← relS.length]
    exact fo.len _ _ _ _ w1
  have lenU : us.length ≤ sizeLine := by
    rw [← Paired.length rel, sizeLine_eq]
    omega
  have bound := bd _ (Value.ref (heap.objs.size + 1) :: us) iv2.kIn lenS
  rw [List.append_nil] at bound
  refine wpAny_call (PySem.HandSPX.call_own F.excBase_ValueError (fun Y => PySem.HandSPX.refsVE_contains Y mro refs) (iv1.kIn _ _ atC) (PySem.W.looks_findIn iv1.kIn iC) (fun self => PySem.W.bind_fn iv1.kIn self tI) lenU
    (codeAny_mono (fo.run _ X.stack _ _ ⟨Value.ref (heap.objs.size + 1) :: us, []⟩ (Value.ref (heap.objs.size + 1) :: us) _ _ (fun _ _ _ => False) (room.make C us []) (iv2.env0.make C us []) bound relS w1) fun r st' told => ?_))
  cases r with
  | error er => exact passN pns sg _ _ er st' iv2 told
  | ok fl =>
    cases fl with
    | ret u =>
      obtain ⟨v, G2, os2, bare2, un2, hok2, rv, ev, d, fs, ea, ed, hd1, q2⟩ := told
      cases ev
      obtain ⟨heap2, gens2, drw2, tok2, osy⟩ := st'
      obtain ⟨t0, R, J, kR, gone, put, nA⟩ := mk_end0 (d2 := drw2) (t2 := tok2) iv1 up1 stays un2 hok2 os2 bare2 ea ed hd1
      refine ⟨rv, heap.objs.size + 1, _, _, ⟨R, gens2, drw2, tok2, osy⟩, _, .ref C, some d, rfl, J, kR, gone, put, ⟨rfl, rfl, fun ws hv => ?_⟩, rfl, rfl, nA, rfl, bare2, raises_own oc.exC oc.tyC, q2⟩
      cases hv
      rfl
    | next => exact told.elim
    | brk => exact told.elim
    | cont => exact told.elim

/-! ### a call with keywords inside a try -/
def tCallKS (sp : Sp) (gV : List V → List V → List V) (E : L2.St → XK) (t tk : TA) : TE := fun σ H Q => t σ H fun vs H1 => tk σ H1 fun zs H2 => sp (gV vs zs) H2 Q (E σ)
section
variable {X : Cx} {CX : CXT} {k : Nat} {f : Addr} {fd : FuncData} {ps ks : List Str} {sp : Sp} {E : L2.St → XK} {x : Str} {p pos : Pos} {e : Expr} {es : List Expr} {kws : List Keyword} {t tk : TA} {g : List Value → List Value → List Value} {gV : List V → List V → List V}
theorem pe_callKS (fo : FnOk X.prog X.w X.K X.mg X.base CX k f fd ps sp) (room : Room k X.A) (gl : Gl X x) (mgx : X.mg x = some (.ref f)) (kp : PySem.W.keepIn X.K (.ref f) = true) (bd : KBinds X.K fd ps ks g gV) (pass : ∀ σ, PassesAt CX X σ (E σ))
    (dA : PA X (e :: es) t) (dK : PK X kws tk) (hall : (backToKw pos (keywordEach kws X.env)).all (·.1.isSome) = true := by rfl) (hks : (backToKw pos (keywordEach kws X.env)).filterMap (·.1) = ks := by rfl)
    (hdb : (x == ("__debug__" : Str)) = false := by decide) (hst : starEach (e :: es) X.env = (false, eval e X.env) :: starEach es X.env := by rfl)
    (hpl : ((backTo pos (starEach (e :: es) X.env)).any (·.1) || (backToKw pos (keywordEach kws X.env)).any (·.1.isNone)) = false := by exact rfl) :
    PE X (.Call (.Name x p) (e :: es) kws pos) (tCallKS sp gV E t tk) := by
  refine ⟨fun pns st sg G Qv iv hw => wpAny_Call_Name_kw (ld_glob iv gl mgx ?_ hdb)⟩
  refine PySem.W.callWith_KW (h₀ := X.base) iv.ok.mod.kin kp hall (thn (dA.run pos pns st sg G _ iv hw) fun us st1 h1 => ?_) hpl hst
  obtain ⟨vs, G1, iv1, r1, w1⟩ := h1
  refine thn (dK.run pos pns st1 sg G1 _ iv1 w1) fun ws st2 h2 => ?_
  obtain ⟨zs, G2, iv2, r2, w2⟩ := h2
  refine ⟨iv2.kIn, ?_⟩
  rw [hks]
  have rel := bd.rel r1 r2
  have len : (g us ws).length = ps.length := rel.length.symm.trans (fo.len _ _ _ _ w2)
  refine wpAny_call (codeAny_mono (fo.run X.A X.stack st2 G2 ⟨us, ks.zip ws⟩ (g us ws) (gV vs zs) Qv (E sg) room iv2.env0 (bd.to st2 us ws iv2.kIn len) rel w2) fun r st3 told => ?_)
  cases r with
  | error er => exact pass sg pns G2 st2 er st3 iv2 told
  | ok fl =>
    cases fl with
    | ret u => exact iv2.after told
    | next => exact told.elim
    | brk => exact told.elim
    | cont => exact told.elim
end

/-! ### a def that is called while e is handled: what it promises speaks of e's object, class and dict -/
abbrev SpH := Addr → Value → Option Addr → Sp
structure FnP (P : Program) (w : World) (K : PySem.W.Frag) (mg : Str → Option Value) (base : Heap) (CX : CXT) (k : Nat) (f : Addr) (fd : FuncData) (ps : List Str) (sp : SpH) : Prop where
  len : ∀ a c d vs H Q E, sp a c d vs H Q E → vs.length = ps.length
  run : ∀ (A : Around) (outer : List Env) (s : Shared) (H : Hp) (args : Args) (us : List Value) (vs : List V) (Q : VK) (E : XK) (p : Addr × Obj) (c : Value) (d : Option Addr), RoomH k A → Hot1 A p → L2N.Zn c d p.2 → PinOk outer H s p → Env0 P w K mg base A outer s H →
    BindsTo s fd args (ps.zip us) → Vals vs us → sp p.1 c d vs H Q E → codeAny (model P w) A (.call (.ref f) args) (CR CX outer P w H s Q E) s
/-- where e is handled: p is e's object, its class c, its dict d -/
structure HotE (X : Cx) (p : Addr × Obj) (c : Value) (d : Option Addr) : Prop where
  hot : Hot1 X.A p
  mem : p ∈ X.pn
  zn : L2N.Zn c d p.2
def tCallP (a : Addr) (c : Value) (d : Option Addr) (sp : SpH) (t : TA) : TE := fun σ H Q => t σ H fun vs H1 => sp a c d vs H1 Q E0
theorem pe_callP {X : Cx} {k : Nat} {f : Addr} {fd : FuncData} {ps : List Str} {sp : SpH} {x : Str} {q pos : Pos} {e : Expr} {es : List Expr} {t : TA} {p : Addr × Obj} {c : Value} {d : Option Addr} (fo : FnP X.prog X.w X.K X.mg X.base (L2N.CX X.prog X.w) k f fd ps sp) (room : RoomH k X.A) (hh : HotE X p c d)
    (gl : Gl X x) (mgx : X.mg x = some (.ref f)) (kp : PySem.W.keepIn X.K (.ref f) = true) (bd : Binds X.K fd ps []) (dA : PA X (e :: es) t)
    (hdb : (x == ("__debug__" : Str)) = false := by decide) (hst : starEach (e :: es) X.env = (false, eval e X.env) :: starEach es X.env := by rfl) (hpl : (backTo pos (starEach es X.env)).any (·.1) = false := by rfl) :
    PE X (.Call (.Name x q) (e :: es) [] pos) (tCallP p.1 c d sp t) := by
  refine ⟨fun pns st sg G Qv iv hw => wpAny_Call_Name_kw (ld_glob iv gl mgx ?_ hdb)⟩
  refine PySem.W.callWith_K (h₀ := X.base) iv.ok.mod.kin kp (thn (dA.run pos pns st sg G _ iv hw) fun us st1 h1 => ?_) hst hpl
  obtain ⟨vs, G1, iv1, rel, w1⟩ := h1
  refine ⟨iv1.kIn, ?_⟩
  have len : us.length = ps.length := rel.length.symm.trans (fo.len _ _ _ _ _ _ _ w1)
  have bound := bd st1 us iv1.kIn (by rw [List.append_nil]; exact len)
  rw [List.append_nil] at bound
  obtain ⟨g1, g2, g3, g4, g5⟩ := iv1.pin p (List.mem_append_left _ hh.mem)
  have pin : PinOk X.stack G1 st1 p := ⟨g1, g2, fun inF => (List.mem_cons.mp (iv1.stkSub p.1 inF)).elim g3 g4, g5⟩
  refine wpAny_call (codeAny_mono (fo.run X.A X.stack st1 G1 ⟨us, []⟩ us vs Qv E0 p c d room hh.hot hh.zn pin iv1.env0 bound rel w1) fun r st2 told => ?_)
  cases r with
  | error er => exact passN pns sg G1 st1 er st2 iv1 told
  | ok fl =>
    cases fl with
    | ret u => exact iv1.after told
    | next => exact told.elim
    | brk => exact told.elim
    | cont => exact told.elim
/-- its body -/
theorem fn_ofP {CX : CXT} {P : Program} {w : World} {K : PySem.W.Frag} {mg : Str → Option Value} {base : Heap} {k : Nat} {f : Addr} {name qual : Str} {params : Arguments} {body : List Stmt} {scope : Scope} {dV kV doc pm cdv ct oc : Value} {an od : Option Addr}
    {osl : Array (Option Value)} {N ps : List Str} {sp : SpH} (lk : K.lookup f = some ⟨oc, od, .func (PySem.W.fnOf name qual params body scope dV kV doc pm an cdv ct), osl⟩) (hcd : PySem.W.codeIn K cdv qual = true) (S : FnScope N ps scope)
    (len : ∀ a c d vs H Q E, sp a c d vs H Q E → vs.length = ps.length)
    (hbody : ∀ (A : Around) (outer : List Env) (s : Shared) (H : Hp) (vs : List V) (Q : VK) (E : XK) (p : Addr × Obj) (c : Value) (d : Option Addr), Hot1 A p → L2N.Zn c d p.2 → RoomH k (A.deeper (envOfC qual scope s.heap.objs.size f cdv)) → sp p.1 c d vs H Q E →
      ∃ tb, PSs (cxH CX P w K mg base N qual scope f cdv A outer s H E p) body tb ∧ tb { nx := fun _ H' => Q .non H', rt := Q } (L2.start N vs) H) :
    FnP P w K mg base CX (k + 1) f (PySem.W.fnOf name qual params body scope dV kV doc pm an cdv ct) ps sp := by
  refine ⟨len, fun A outer s H args us vs Q E p c d room hot zn pin e0 bound rel hw => ?_⟩
  have lenV := len _ _ _ _ _ _ _ hw
  have inK : K.In s.heap := e0.mod.kin.keeps fun b o e => (e0.bs b o e).1
  have free : s.heap.NoLimit := e0.mod.nolimit.keeps fun b o e => (e0.bs b o e).1
  have kinds : ∀ y ∈ ps.zip us, scope.names.lookup y.1 = some .local ∨ (scope.names.lookup y.1 = some .cell ∧ ((cellsFrom (s.heap.objs.size + 1) scope.names []).lookup y.1).isSome = true) := fun ⟨nm, v⟩ inZ =>
    (S.par nm (List.of_mem_zip inZ).1).imp id fun isC => ⟨isC, PySem.W.cellsFrom_some _ _ _ (.inl isC)⟩
  refine codeAny_call_function room.depth (inK _ _ lk) rfl S.co S.gen rfl (PySem.W.codeRec_of inK hcd) (bound _ _ _ _ (wpAny_newFunctionEnv_cells S.kind kinds fun env eEnv s1 inC => ?_))
  cases eEnv
  refine ⟨free.keeps inC.toInCall.keep, codeAny_func ?_⟩
  obtain ⟨t, dB, tB⟩ := hbody A outer s H vs Q E p c d hot zn (room.deeper _) hw
  have iv0 : Inv (cxH CX P w K mg base N qual scope f cdv A outer s H E p) [] (L2.start N vs) H s1 := inv_startH S pin e0 lenV rel inC
  refine wpAny_mono (dB.run [] s1 _ H _ iv0 tB) (fun fl s2 told => ?_) fun _ _ told => told
  cases fl with
  | ret u =>
    obtain ⟨v, _, G, iv2, rv, q⟩ := told
    exact ⟨v, G, iv2.os, iv2.bare, iv2.base, iv2.hok, rv, q⟩
  | next =>
    obtain ⟨_, G, iv2, q⟩ := told
    exact ⟨V.non, G, iv2.os, iv2.bare, iv2.base, iv2.hok, rfl, q⟩
  | brk =>
    obtain ⟨_, _, _, q⟩ := told
    exact q.elim
  | cont =>
    obtain ⟨_, _, _, q⟩ := told
    exact q.elim

/-! ### isinstance and fields of the handled error -/
theorem find_classD {K : PySem.W.Frag} {C : Addr} {od : Option Obj} {a g : Value} {name : Str} (hc : (PySem.W.clsIn K C).isSome = true) (ha : PySem.W.findIn K (.ref C) name = some (some a)) (hg : PySem.W.specialIn K a "__get__" = some (some g)) (ht : PySem.W.takesIn K a = some true) :
    PySem.W.findObj K C od name = some (.bind g a) := by
  cases e : PySem.W.clsIn K C with
  | none => rw [e] at hc; cases hc
  | some cd =>
    unfold PySem.W.findObj
    rw [e, Option.bind_some, ha, Option.bind_some]
    simp [hg, ht]
/-- e.__class__, e with its dict -/
theorem class_ofE {prog : Program} {w : World} {A : Around} {E : Value → Shared → Prop} {s : Shared} {K : PySem.W.Frag} {x D : Addr} {ox : Obj} {od : Option Obj} {Q : Option Value → Shared → Prop} (T : ExcC K D) (inK : K.In s.heap) (at_ : PySem.W.InstAt s.heap x ox D od)
    (h : Q (some (.ref D)) { s with toks := s.toks + 1 }) : wpAny (model prog w) A (getAttr? (.ref x) "__class__") Q E s := by
  obtain ⟨tGa, tGt, tSub, tD, tCl, tGet, tTk, tMro⟩ := T
  have hcls : (PySem.W.clsIn K D).isSome = true := by
    obtain ⟨cd, e, _⟩ := PySem.W.any_some tD
    rw [e]
    rfl
  have bnd := find_classD (od := od) hcls tCl tGet tTk
  obtain ⟨heap, gens, drw, tok, osx⟩ := s
  have lkT := at_.type (M := model prog w)
  have lkGa := PySem.W.looks_findIn (M := model prog w) inK tGa
  have lkGt := PySem.W.looks_findIn (M := model prog w) inK tGt
  have lkF := PySem.W.looks_find (M := model prog w) inK at_ bnd
  have isE : PySem.W.Looks (model prog w) heap (isInstance (.ref x) (.type "BaseException")) true := lkT.andThen (PySem.W.looks_subIn inK tSub)
  have noObj : (Value.builtin "BaseException.__getattribute__" == Value.builtin "object.__getattribute__") = false := by decide +kernel
  unfold getAttr?
  unfold getAttrBy? getAttrBy
  refine wpAny_bind (wpAny_mkText (wpAny_bind (wpAny_attempt (wpAny_holding (wpAny_bind (lkT.at (wpAny_bind (lkGa.at ?_))))))))
  show (wpAny _ _ (if (onTheHeap (Value.ref D) && Value.builtin "BaseException.__getattribute__" == Value.builtin "object.__getattribute__") = true then _ else _) _ _ _)
  rw [show (onTheHeap (Value.ref D) && Value.builtin "BaseException.__getattribute__" == Value.builtin "object.__getattribute__") = false by rw [noObj]; rfl, if_neg Bool.false_ne_true]
  unfold getAttrByItsOwn
  unfold hookBefore
  refine wpAny_bind ?_
  (rw [if_pos (show onTheHeap (Value.ref D) = true from rfl)])
  refine lkGt.at (wpAny_bind (wpAny_attempt (wpAny_holding ?_)))
  unfold callGetattribute
  rw [show (false && onTheHeap (Value.builtin "BaseException.__getattribute__")) = false from rfl, if_neg Bool.false_ne_true]
  unfold boundAndCalled
  (rw [PySem.F.excAttr_ValueError.ga.bind (.ref x)])
  refine (wpAny_bind (wpAny_pure ?_))
  show wpAny _ _ (call (.builtin "BaseException.__getattribute__") [.ref x, .str "__class__" tok]) _ _ _
  refine (wpAny_call (codeAny_call_builtin PySem.F.excAttr_ValueError.ga.plain PySem.F.entry_bexc_ga ?_))
  refine @PySem.W.check_slot (model prog w) _ _ ⟨heap, gens, drw, tok + 1, osx⟩ "BaseException.__getattribute__" "BaseException" "__getattribute__" (.ref x) [.str "__class__" tok] [] _ (by decide +kernel) (by decide +kernel) isE (PySem.F.args_bexc_ga (.ref x) (.str "__class__" tok)) ?_
  (unfold Builtin.«object.__getattribute__»)
  refine wpAny_bind (wpAny_of_eq (a := ((Value.ref x : Value), [Value.str "__class__" tok])) (by first | rfl | (simp only [slotArgs]; rfl)) ?_)
  refine wpAny_bind (wpAny_pure (wpAny_bind (lkT.at (wpAny_bind (lkF.at ?_)))))
  show (wpAny _ _ (holding [Value.builtin "object.__class__"] (call (.builtin "getset_descriptor.__get__") [.builtin "object.__class__", .ref x, .ref D]) >>= ret) _ _ _)
  refine wpAny_bind (wpAny_holding (wpAny_call (PySem.W.class_get (s := ⟨heap, gens, drw, tok + 1, osx⟩) (ox := ox) (od := od) inK at_ tMro ?_)))
  refine wpAny_pure ?_
  show (wpAny _ _ (handedOut (.ref D)) _ _ _)
  rw [PySem.W.handedOut_of (v := .ref D) rfl]
  first
    | exact (wpAny_pure (wpAny_pure h))
    | exact wpAny_pure h
    | exact (wpAny_pure (wpAny_bind (wpAny_pure (wpAny_pure h))))
theorem kitx_excD {K : PySem.W.Frag} {x D : Addr} {ox : Obj} {od : Option Obj} (T : ExcC K D) : PySem.W.KitX K (.ref x) (.ref D) (fun h => PySem.W.InstAt h x ox D od) := by
  have some_ : ∃ c' d' cd' sl', K.lookup D = some ⟨c', d', .cls cd', sl'⟩ := by
    obtain ⟨cd, e, _⟩ := PySem.W.any_some T.hd
    unfold PySem.W.clsIn at e
    split at e
    · rename_i c' d' cd' sl' ho
      exact ⟨c', d', cd', sl', ho⟩
    · cases e
  obtain ⟨c', d', cd', sl', atD⟩ := some_
  refine ⟨fun _ _ _ i => i.type, fun _ _ inK _ A' Q' E' s' kp q => ?_, fun h tp dd its n sl inK htp => ?_, fun inK i k => class_ofE T inK i k⟩
  · unfold isType loadHead
    exact wpAny_bind (wpAny_loadPart (kp _ _ (inK _ _ atD)) (wpAny_pure q))
  · cases b : (Value.ref D == Value.ref tp) with
    | false => rfl
    | true =>
      cases Value.ref.inj (beq_iff_eq.mp b)
      have z := (inK _ _ atD).symm.trans htp
      cases z
/-- isinstance(e, c) -/
def rIsP (K : PySem.W.Frag) (a : Addr) (cls : Value) (d : Option Addr) : List V → Hp → VK → Prop := fun xs H Q => ∃ (c : V) (cv : Value) (b : Bool) (D dd : Addr) (fs : List (Str × V)), xs = [.ref a, c] ∧ cls = .ref D ∧ d = some dd ∧ H dd = some (.xd fs) ∧ ExcC K D ∧ (∀ u, RelV c u → u = cv) ∧ PySem.W.kitOne K (.ref D) cv = some b ∧ Q (.bl b) H
theorem call_isP {X : Cx} {p : Addr × Obj} {cls : Value} {d : Option Addr} (hh : HotE X p cls d) : CallR X (.builtin "isinstance") (rIsP X.K p.1 cls d) := by
  intro pns st sg G xs us Qv iv rel hw
  obtain ⟨c, cv, b, D, dd, fs, rfl, rfl, rfl, atD, T, only, e, q⟩ := hw
  cases rel with
  | cons rx rr =>
    cases rr with
    | cons rt rr2 =>
      cases rr2
      cases rx
      cases only _ rt
      obtain ⟨zc, zd, zx⟩ := hh.zn
      obtain ⟨_, vs, isF, _⟩ := hh.hot
      obtain ⟨here, _⟩ := iv.pin p (List.mem_append_left _ hh.mem)
      have okD : ObjOk X.prog X.w G st.heap dd (.xd fs) := iv.hok dd _ atD
      obtain ⟨mA, hns, hr⟩ := okD
      obtain ⟨od, ho, hl⟩ := (lookIn_ns hns)
      have J : PySem.W.InstAt st.heap p.1 p.2 D (some od) := ⟨here, zc, by unfold PySem.W.notCls; rw [isF] <;> rfl, by rw [zd]; exact ho⟩
      exact PySem.W.kia_one (kitx_excD T) iv.kIn J e (fun z => nomatch z) fun tk => ⟨.bl b, G, iv.kept (t' := tk) fun _ _ z => z, rfl, q⟩
/-- e.f -/
theorem pe_xfP {X : Cx} {p : Addr × Obj} {C : Addr} {cls : Value} {d : Option Addr} {e : Expr} {te : TE} {pos : Pos} {n : Str} (hh : HotE X p cls d) (T : XfC X.K C) (no : PySem.W.findIn X.K (.ref C) n = some none) (de : PE X e te) (base : attributeBase e n X.env (eval e X.env) = eval e X.env := by rfl) :
    PE X (.Attribute e n pos) (tXf p.1 cls d C n te) := by
  refine ⟨fun pns st sg G Qv iv hw => attr_of base (thn (de.run pns st sg G _ iv hw) fun u st1 told => ?_)⟩
  obtain ⟨x, G1, iv1, rx, rfl, rfl, dd, fs, v, rfl, atD, l, q⟩ := told
  cases (show u = Value.ref p.1 from rx)
  obtain ⟨zc, zd, zx⟩ := hh.zn
  obtain ⟨_, vs, isF, _⟩ := hh.hot
  obtain ⟨here, _⟩ := iv1.pin p (List.mem_append_left _ hh.mem)
  have okD : ObjOk X.prog X.w G1 st1.heap dd (.xd fs) := iv1.hok dd _ atD
  obtain ⟨mA, hns, hr⟩ := okD
  obtain ⟨od, ho, hl⟩ := (lookIn_ns hns)
  obtain ⟨u, hu, ru⟩ := (RelO.some_of (v := v) (o := mA n) (by rw [← l]; exact hr n))
  have J : PySem.W.InstAt st1.heap p.1 p.2 C (some od) := ⟨here, zc, by unfold PySem.W.notCls; rw [isF] <;> rfl, by rw [zd]; exact ho⟩
  exact HandSPX.exc_get iv1.kIn J T.ga T.gg T.exC (PySem.W.findObj_own T.hdC no rfl (by rw [hl, hu])) (handed_of ru) ⟨v, G1, iv1.tok _, ru, q⟩

/-! ### a comprehension over a list there -/
theorem list_end_hot {prog : Program} {w : World} {A : Around} {E : Value → Shared → Prop} {s : Shared} {it l x1 : Addr} {i : Nat} {items : Array Value} {Q : Option Value → Shared → Prop} (hot : HotAt A x1 s.heap) (atI : s.heap.IsListIter it l i) (atL : s.heap.IsList l items) (none_ : items[i]? = none)
    (nx : x1 ≠ it) (q : ∀ h', Heap.ExtBut it s.heap h' → Q none { s with heap := h' }) : wpAny (model prog w) A (pyNext (.ref it)) Q E s := by
  obtain ⟨o, ho, hc, hd⟩ := id atI
  obtain ⟨ol, hol, _, nl, hdl⟩ := atL
  obtain ⟨hh, o1, vs1, g1, d1, c1⟩ := hot
  unfold pyNext
  refine wpAny_bind (wpAny_attempt (wpAny_callSpecial?_slot (name := Str.ofString "__next__") atI.typeIs slot_listiter_next (wpAny_call_entry slot_listiter_next atI.typeIs entry_listiter_next ?_ (args_listiter_next _))))
  refine wpAny_bind (m := field (.ref it) 0) (wpAny_field ho hd (x := .ref l) rfl ?_)
  show (wpAny _ _ (if (Value.ref l == Value.none) = true then _ else _) _ _ s)
  rw [if_neg (fun z : (Value.ref l == Value.none) = true => Bool.false_ne_true z)]
  refine wpAny_bind (m := field (.ref it) 1) (wpAny_field ho hd (x := .int i 0) rfl ?_)
  refine wpAny_bind (m := seqItems? (.ref l)) (wpAny_seqItems hol hdl ?_)
  simp only [Int.toNat_natCast, none_]
  refine (wpAny_bind (wpAny_rule (wpAny_bind (wpAny_setField ho hd (by simp) ?_))))
  refine wpAny_bind (m := newExc (.type "StopIteration") []) ?_
  simp only [newExc, newTuple]
  refine wpAny_bind (wpAny_newObj_type (wpAny_bind (m := firstArgMember _ _) (wpAny_of_eq (a := Value.none) (by first | rfl | (simp only [firstArgMember]; rfl)) ?_)) (by size_fits))
  refine (wpAny_newObj_type ?_ (by size_fits))
  have g2 := (Heap.get?_update_other s.heap (Obj.mapFields (·.setIfInBounds 0 .none)) (Ne.symm nx)).trans g1
  refine raiseNew_hot ⟨hh, o1, vs1, Heap.get?_push_of_some _ (Heap.get?_push_of_some _ g2), d1, c1⟩ (Nat.ne_of_lt (Heap.lt_size (Heap.get?_push_of_some _ g2))) (Heap.get?_push_size _ rfl) rfl (by first | (simp; done) | (simp; omega)) ?_
  refine wpAny_bind (wpAny_isInstance (T := "StopIteration") (b := true) ⟨_, Heap.get?_update_self _ (Heap.get?_push_size _ rfl) rfl, rfl⟩ isSubtype_stop (wpAny_pure (q _ fun b o nb e => ?_)))
  have e2 := (Heap.get?_update_other s.heap (Obj.mapFields (·.setIfInBounds 0 .none)) (Ne.symm nb)).trans e
  rw [Heap.get?_update_other _ _ (Nat.ne_of_gt (Heap.lt_size (Heap.get?_push_of_some _ e2)))]
  exact Heap.get?_push_of_some _ (Heap.get?_push_of_some _ e2)
theorem turn_listH {P : Program} {w : World} {K : PySem.W.Frag} {tg : Expr} (a r : Addr) : TurnH P w K tg (Itl K a) [r] r (fun i h => h.IsListIter r a i) where
  mem := List.mem_singleton_self r
  obj := fun i h st b inB => by
    cases List.mem_singleton.mp inB
    obtain ⟨o, e, _, d⟩ := st
    exact (⟨o, e, fun v z => by rw [d] at z; cases z⟩)
  keep := fun i h h2 st kp => st.at fun o e => kp r (List.mem_singleton_self r) o e
  item := by
    intro X eP eW eK hot i pns st sg G E iv fo at_ goes
    subst eP eW eK
    obtain ⟨xs, x, isL, hx⟩ := goes
    obtain ⟨its, rel, pl, _⟩ := iv.list isL
    obtain ⟨u, hu, ru⟩ := rel.get hx
    obtain ⟨k0, k1, k2, k3, k4, k5⟩ := fo r (List.mem_singleton_self r)
    refine wpAny_pyNext_list_item at_ pl.isList (x := u) (by simpa using hu) fun h2 at2 same => ?_
    have iv1 : Inv X pns sg G { st with heap := h2 } := iv.turned (t' := st.toks) (fun b o nb e => (same.2 b nb).trans e) k0 k1 k3 k4 k5
    obtain ⟨o, e, c, d⟩ := id at2
    exact ⟨u, rfl, go_of (s := { st with heap := h2 }) e c d (by decide) ⟨x, G, iv1, ru, ⟨rfl, fun ys isY => by rw [iv.list_inj isY isL]; exact hx⟩, at2, fun b inB => (fo b inB).1⟩⟩
  done := by
    intro X eP eW eK hot i pns st sg G E iv fo at_ stops
    subst eP eW eK
    obtain ⟨xs, isL, hx⟩ := stops
    obtain ⟨its, rel, pl, _⟩ := iv.list isL
    obtain ⟨k0, k1, k2, k3, k4, k5⟩ := fo r (List.mem_singleton_self r)
    have len := rel.length
    obtain ⟨p, ⟨hh, v1, e1, c1⟩, inP⟩ := hot
    have hotA : HotAt X.A p.1 st.heap := ⟨hh, p.2, v1, (iv.pin p (List.mem_append_left _ inP)).1, e1, c1⟩
    exact list_end_hot hotA at_ pl.isList (by simp; omega) (k5 p (List.mem_append_left _ inP)) fun h2 kp => ⟨rfl, iv.turned (t' := st.toks) (fun b o nb e => kp b o nb e) k0 k1 k3 k4 k5⟩
  self := fun _ _ _ _ _ at_ q => wpAny_pyIter_listiter at_ q
theorem pi_listH {X : Cx} {tg l : Expr} {tl : TE} (dl : PE X l tl) : PIH X tg l (iList X.K tl) := by
  refine ⟨fun pns st sg G R iv hw => thn (dl.run pns st sg G _ iv hw) fun v st1 told => ?_⟩
  obtain ⟨x, G1, iv1, rel, a, rfl, ⟨xs, isL⟩, q⟩ := told
  cases rel
  obtain ⟨its, _, pl, _⟩ := iv1.list isL
  have iv2 : Inv X pns sg G1 { st1 with heap := st1.heap.push { cls := .type "list_iterator", data := .fields #[.ref a, .int 0 0] } } := iv1.kept (t' := st1.toks) fun b o e => Heap.get?_push_of_some _ e
  refine wpAny_pyIter_list pl.isList ⟨st1.heap.objs.size, [st1.heap.objs.size], _, _, G1, rfl, iv2, turn_listH a _, ⟨_, Heap.get?_push_size _ rfl, rfl, rfl⟩, fun b inB => ?_, q⟩
  cases List.mem_singleton.mp inB
  exact iv1.fpOk (Nat.le_refl _) (iv1.hok.fresh (Nat.le_refl _))
/-- the context of a block in there: the handled error stays pinned -/
abbrev blkH (X : Cx) (q : Addr × Obj) (s : Shared) (H : Hp) (scope : Scope) (cenv : Env) (fp : List Addr) : Cx := (X.blk s H scope cenv fp).tr [q] (fun _ _ => False)
theorem blockH {X : Cx} {pns : List (Addr × Obj)} {q : Addr × Obj} {sg : L2.St} {G : Hp} {st : Shared} {blk : Scope} {ow : List (Str × Nat)} {fpl : List Addr} (hq : q ∈ X.pn) (iv : Inv X pns sg G st) (bok : BlkOk X.N X.env.scope blk ow) (nod : X.N.Nodup) (fo : ∀ b ∈ fpl, FpOk X pns G b ∧ b < st.heap.objs.size) :
    Inv (blkH X q st G blk (compEnvC blk (cellsFrom (st.heap.objs.size + 1) blk.names (cloFrom X.env.cells blk.names [])) st.heap.objs.size X.env) fpl) [] (wipe sg (ow.map (·.2))) G { st with heap := pushCells (st.heap.push { cls := .type "dict", data := .dict #[] }) blk.names } := by
  have J := block_start iv bok nod fo
  obtain ⟨k1, k2, k3, k4, k5⟩ := iv.pin q (List.mem_append_left _ hq)
  refine ⟨J.ok.toTry _ _, J.os, J.bare, J.base, J.loc, J.cell, J.free, J.freeC, fun p inP => ?_, J.hok, J.len⟩
  cases (show p = q from by simpa using (show p ∈ [q] ++ ([] : List (Addr × Obj)) from inP))
  refine ⟨pushCells_keeps _ _ _ _ (Heap.get?_push_of_some _ k1), k2, Nat.ne_of_lt (Heap.lt_size k1), fun inF => ?_, k5⟩
  exact (List.mem_cons.mp (iv.stkSub q.1 inF)).elim k3 k4
theorem lc_coreH {X : Cx} {q : Addr × Obj} {pns : List (Addr × Obj)} {st : Shared} {sg : L2.St} {G : Hp} {Qv : VK} {el tgt itr : Expr} {cs : List Expr} {blk : Scope} {ow : List (Str × Nat)} {pos pos' : Pos} {ti : TI} {gg : TG} {tc : TT} {tl : TE} {us : Option (Value → Sem Unit)} {Qg : Value → Shared → Prop}
    (hot : Hot1 X.A q) (hq : q ∈ X.pn) (nod : X.N.Nodup) (iv : Inv X pns sg G st) (dI : PIH X tgt itr ti) (bok : BlkOk X.N X.env.scope blk ow)
    (dG : ∀ (st : Shared) (G : Hp) (cA : Addr) (cls : List (Str × Addr)) (fpl : List Addr), PG (blkH X q st G blk (compEnvC blk cls cA X.env) fpl) tgt gg) (dT : ∀ (st : Shared) (G : Hp) (cA : Addr) (cls : List (Str × Addr)) (fpl : List Addr), PTs (blkH X q st G blk (compEnvC blk cls cA X.env) fpl) cs tc)
    (dE : ∀ (st : Shared) (G : Hp) (cA : Addr) (cls : List (Str × Addr)) (fpl : List Addr), PE (blkH X q st G blk (compEnvC blk cls cA X.env) fpl) el tl) (fold : ∀ x, foldedSetIterable itr X.env x = pure x)
    (hw : tLc ti gg tc tl (ow.map (·.2)) sg G Qv)
    (back : ∀ L cA s' m H', Inv X pns sg H' s' → Qv (.ref L) H' → s'.heap.Ns cA m → FpOk X pns H' cA → compPost (model X.prog X.w) X.A X.xe us Qg (.ref L) cA (.ok .next) s') :
    wpAny (model X.prog X.w) X.A (comprehension (.ListComp el [⟨tgt, itr, cs, 0⟩] blk pos) blk X.env pos' (newList []) false (eval itr X.env) us) Qg X.xe st := by
  have frees : ∀ y ∈ blk.names, y.2 = .free → ∃ c, X.env.cells.lookup y.1 = some c := fun y hy e => by
    rcases bok.free y hy e with k | k
    · exact iv.ok.has _ (.inl k)
    · exact iv.ok.has _ (.inr k)
  refine wpAny_comprehension_free (use := us) rfl fold (closure_ok frees) bok.kind (fun y hy e => (bok.uniq y hy).trans (by rw [e]))
    (thn (dI.run pns st sg G _ iv hw) fun xv s1 hx => thn hx fun itv st2 h2 => ?_)
  obtain ⟨itr1, fpl, tnn, Jt, G2, e, iv2, Tn, tn2, fo2, qd⟩ := h2
  cases e
  refine (wpAny_newObj_type (newEnv_comp ?_) (by show 0 ≤ sizeLine; decide))
  generalize eL : st2.heap.objs.size = L
  have nL : G2 L = none := iv2.hok.fresh (Nat.le_of_eq eL)
  obtain ⟨Wt, ⟨mz, wz⟩, trn⟩ := qd L nL
  -- the new list
  generalize e3 : ({ st2 with heap := st2.heap.push { cls := .type "list", data := .seq ([] : List Value).toArray } } : Shared) = st3
  have iv3 : Inv X pns sg (upd G2 L (.lst [])) st3 := by
    rw [← e3]
    refine iv2.laid (t' := st2.toks) (fun b o e => Heap.get?_push_of_some _ e) (Nat.le_of_eq eL) ⟨Nat.zero_le _, [], 0, .nil, ?_⟩
    rw [← eL]
    exact (Heap.get?_push_size _ rfl)
  have hh3 : st3.heap = st2.heap.push { cls := .type "list", data := .seq ([] : List Value).toArray } := by rw [← e3]
  have below : ∀ b ∈ fpl, b < st2.heap.objs.size := fun b hb => by
    obtain ⟨o, e, _⟩ := Tn.obj _ _ tn2 b hb
    exact Heap.lt_size e
  have fo3 : ∀ b ∈ fpl, FpOk X pns (upd G2 L (.lst [])) b ∧ b < st3.heap.objs.size := fun b hb => by
    have hlt := below b hb
    refine ⟨⟨?_, (fo2 b hb).2⟩, by rw [hh3, Heap.size_push]; exact Nat.lt_succ_of_lt hlt⟩
    rw [upd_ne (by rw [← eL]; exact Nat.ne_of_lt hlt)]
    exact (fo2 b hb).1
  have tn3 : tnn 0 st3.heap := Tn.keep _ _ _ tn2 fun b _ o e => by rw [hh3]; exact Heap.get?_push_of_some _ e
  have iv4 := blockH (q := q) hq iv3 bok nod fo3
  have hcB : ∀ {ev : Env}, HotC (blkH X q st3 (upd G2 L (.lst [])) blk ev fpl) := fun {_} => ⟨q, hot, List.mem_singleton_self _⟩
  have pg := dG st3 (upd G2 L (.lst [])) st3.heap.objs.size (cellsFrom (st3.heap.objs.size + 1) blk.names (cloFrom X.env.cells blk.names [])) fpl
  have pt := dT st3 (upd G2 L (.lst [])) st3.heap.objs.size (cellsFrom (st3.heap.objs.size + 1) blk.names (cloFrom X.env.cells blk.names [])) fpl
  have pe := dE st3 (upd G2 L (.lst [])) st3.heap.objs.size (cellsFrom (st3.heap.objs.size + 1) blk.names (cloFrom X.env.cells blk.names [])) fpl
  show codeAny _ _ (.compStart (.ListComp el [⟨tgt, itr, cs, 0⟩] blk pos) 0 (.ref itr1) (.ref L) (compEnvC blk (cellsFrom (st3.heap.objs.size + 1) blk.names (cloFrom X.env.cells blk.names [])) st3.heap.objs.size X.env)) (compPost (model X.prog X.w) X.A X.xe us Qg (.ref L) st3.heap.objs.size) { st3 with heap := pushCells (st3.heap.push { cls := .type "dict", data := .dict #[] }) blk.names }
  have nofp : ∀ b ∈ fpl, (upd G2 L (.lst [])) b = none := fun b hb => (fo3 b hb).1.1
  generalize ece : compEnvC blk (cellsFrom (st3.heap.objs.size + 1) blk.names (cloFrom X.env.cells blk.names [])) st3.heap.objs.size X.env = ev at iv4 pg pt pe ⊢
  have evL : ev.locals = st3.heap.objs.size := by subst ece; rfl
  generalize eG3 : upd G2 L (.lst []) = G3 at iv3 iv4 pg pt pe wz nofp fo3 hcB
  generalize e4 : ({ st3 with heap := pushCells (st3.heap.push { cls := .type "dict", data := .dict #[] }) blk.names } : Shared) = st4 at iv4 ⊢
  have tn4 : tnn 0 st4.heap := Tn.keep _ _ _ tn3 fun b _ o e => by rw [← e4]; exact pushCells_keeps _ _ _ _ (Heap.get?_push_of_some _ e)
  have stay : ∀ {σ' : L2.St} {H' : Hp} {s' : Shared}, Inv (blkH X q st3 G3 blk ev fpl) [] σ' H' s' → (∀ b ∈ fpl, H' b = none) → ∀ b ∈ fpl, FpOk (blkH X q st3 G3 blk ev fpl) [] H' b := fun {σ' H' s'} I' hn b hb =>
    ⟨hn b hb, (I'.ok.exf b hb).1, I'.ok.exfs b hb, .inl hb, fun x c e => (I'.ok.exf b hb).2 x c e, fun p hp => by rw [show p = q from by simpa using (show p ∈ [q] ++ ([] : List (Addr × Obj)) from hp)]; exact (fo3 b hb).1.2.2.2.2.2 q (List.mem_append_left _ hq)⟩
  have lp : codeAny (model X.prog X.w) X.A (.compLoop (.ListComp el [⟨tgt, itr, cs, 0⟩] blk pos) 0 (.ref itr1) (.ref L) ev) (compPost (model X.prog X.w) X.A X.xe us Qg (.ref L) st3.heap.objs.size) st4 := by
    refine compLoop_any (fun n s' => ∃ i H', Inv (blkH X q st3 G3 blk ev fpl) [] (wipe sg (ow.map (·.2))) H' s' ∧ tnn i s'.heap ∧ (∀ b ∈ fpl, H' b = none) ∧ Wt i n H') ?_ mz ⟨0, G3, iv4, tn4, nofp, wz⟩
    rintro n st5 ⟨i, G5, iv5, tn5, nn5, wt5⟩
    rcases trn i n G5 wt5 with ⟨stp0, qq⟩ | ⟨goo, Nxt, hNxt, stp⟩
    · have tdn := Tn.done (blkH X q st3 G3 blk ev fpl) rfl rfl rfl hcB i [] st5 _ G5 (fun _ _ => False) iv5 (stay iv5 nn5) tn5 stp0
      refine thnF tdn fun r st6 ⟨hr, iv6⟩ => ?_
      subst hr
      -- back in the def's context
      have iv7 : Inv X pns sg G5 st6 := iv3.call' (ch := fpl) iv6.os iv6.base iv6.hok iv6.bare fun b hb => ⟨(fo3 b hb).1.2.2.2.1, (fo3 b hb).1.2.1, (fo3 b hb).1.2.2.2.2.1, (fo3 b hb).1.2.2.2.2.2⟩
      have nC : G5 st3.heap.objs.size = none := by
        have z : G5 ev.locals = none := iv6.free
        rw [evL] at z
        exact z
      obtain ⟨m, hn, _⟩ := iv6.loc
      have hn : st6.heap.Ns ev.locals m := hn
      rw [evL] at hn
      exact back L st3.heap.objs.size st6 m G5 iv7 qq hn (iv3.fpOk (Nat.le_refl _) nC)
    · have tit := Tn.item (blkH X q st3 G3 blk ev fpl) rfl rfl rfl hcB i [] st5 _ G5 (fun _ _ => False) iv5 (stay iv5 nn5) tn5 goo
      refine thnF tit fun r st6 ⟨u, hr, h6⟩ => ?_
      subst hr
      refine thnF h6 fun _ st7 ⟨x, G7, iv7, r7, y7, tn7, nn7⟩ => ?_
      have iv7p := iv7.pinned (stay iv7 nn7) (Tn.obj _ _ tn7)
      refine thnF (pg.run _ st7 _ G7 x u _ iv7p r7 (stp x G7 y7)) fun _ st8 ⟨σ8, G8, iv8, hw8, q8⟩ => ?_
      refine thnF (pt.run _ st8 σ8 G8 _ iv8 q8) fun b st9 ⟨G9, iv9, q9⟩ => ?_
      -- the turn's end
      have fine : ∀ {s' : Shared} {H' : Hp}, Inv (blkH X q st3 G3 blk ev fpl) ([] ++ pinsAt fpl st7.heap) σ8 H' s' → Nxt H' → ∃ m, m < n ∧ ∃ i H', Inv (blkH X q st3 G3 blk ev fpl) [] (wipe sg (ow.map (·.2))) H' s' ∧ tnn i s'.heap ∧ (∀ b ∈ fpl, H' b = none) ∧ Wt i m H' := fun {s' H'} I' nx => by
        obtain ⟨m', hm, wn⟩ := hNxt H' nx
        have pinq : ∀ b ∈ fpl, ∀ o, st7.heap.get? b = some o → s'.heap.get? b = some o ∧ H' b = none := fun b hb o e =>
          let z := (I'.pin (b, o) (List.mem_append_right _ (List.mem_append_right _ (mem_pinsAt hb e))))
          ⟨z.1, z.2.1⟩
        have hl : (wipe sg (ow.map (·.2))).length = σ8.length := by rw [← hw8, wipe_length]
        refine ⟨m', hm, i + 1, H', (I'.unpinned (pins := [])).weak hl (fun j v e => ?_), Tn.keep _ _ _ tn7 fun b hb o e => (pinq b hb o e).1, fun b hb => ?_, wn⟩
        · rw [← hw8] at e
          exact (wipe_some e).1
        · obtain ⟨o, e, _⟩ := Tn.obj _ _ tn7 b hb
          exact (pinq b hb o e).2
      cases b with
      | false =>
        (simp only [Bool.false_eq_true, if_false] at q9 ⊢)
        exact fine iv9 q9
      | true =>
        simp only [if_true] at q9 ⊢
        refine thnF (pe.run _ st9 σ8 G9 _ iv9 q9) fun z st10 ⟨yv, G10, iv10, r10, acc, hD10, hz10, nx⟩ => ?_
        exact app_ok (X := blkH X q st3 G3 blk ev fpl) iv10 hD10 hz10 r10 fun st11 iv11 => fine iv11 nx
  exact codeAny_compStart_list lp (Tn.self X.A 0 _ _ _ tn4 lp)
theorem ps_setLcH {X : Cx} {q : Addr × Obj} {i : Nat} {y : Str} {py : Pos} {el tgt itr : Expr} {cs : List Expr} {blk : Scope} {ow : List (Str × Nat)} {pos spos : Pos} {ti : TI} {gg : TG} {tc : TT} {tl : TE} (hot : Hot1 X.A q) (hq : q ∈ X.pn) (nod : X.N.Nodup) (iy : X.N[i]? = some y)
    (loc : X.env.scope.names.lookup y = some .local) (hsw : swapsWith (.ListComp el [⟨tgt, itr, cs, 0⟩] blk pos) (some (.Name y py)) spos.line X.env = pure true) (dI : PIH X tgt itr ti) (bok : BlkOk X.N X.env.scope blk ow)
    (dG : ∀ (st : Shared) (G : Hp) (cA : Addr) (cls : List (Str × Addr)) (fpl : List Addr), PG (blkH X q st G blk (compEnvC blk cls cA X.env) fpl) tgt gg) (dT : ∀ (st : Shared) (G : Hp) (cA : Addr) (cls : List (Str × Addr)) (fpl : List Addr), PTs (blkH X q st G blk (compEnvC blk cls cA X.env) fpl) cs tc)
    (dE : ∀ (st : Shared) (G : Hp) (cA : Addr) (cls : List (Str × Addr)) (fpl : List Addr), PE (blkH X q st G blk (compEnvC blk cls cA X.env) fpl) el tl) (fold : ∀ x, foldedSetIterable itr X.env x = pure x := by intro _; rfl) :
    PS X (.Assign [.Name y py] (.ListComp el [⟨tgt, itr, cs, 0⟩] blk pos) spos) (tAsg (tLc ti gg tc tl (ow.map (·.2))) (gName i)) := by
  refine ⟨fun pns st sg G D iv hw => ?_⟩
  (rw [exec_Assign_Name_used _ _ _ _ hsw])
  refine (wpAny_bind (wpAny_standAt (wpAny_bind ?_)))
  show wpAny _ X.A (do let _ ← comprehension (.ListComp el [⟨tgt, itr, cs, 0⟩] blk pos) blk X.env (firstIterPos [⟨tgt, itr, cs, 0⟩] pos) (newList []) false (eval itr X.env) (some (assign (.Name y py) X.env))) _ _ st
  refine wpAny_bind (thn (lc_coreH (Qg := fun _ s' => SP X pns D .next s') hot hq nod iv dI bok dG dT dE fold (Qv := fun x H1 => gName i x sg H1 D.nx) hw fun L cA st1 m G1 iv1 want hn fo => ?_) fun _ st2 told => wpAny_pure (wpAny_pure told))
  show (wpAny _ _ (assign (.Name y py) X.env (.ref L)) _ _ _)
  refine wpAny_assign_Name (store_ok2 (v := V.ref L) iv1 nod iy (.inl loc) rfl (fun st2 iv2 told => ?_) (.inr loc))
  obtain ⟨b, same, isB⟩ := told
  obtain ⟨k0, k1, k2, k3, k4, k5⟩ := fo
  have nb : cA ≠ b := isB.elim (fun z => by rw [z]; exact k1) fun z e => k4 y b z e.symm
  exact ⟨m, hn.sameBut same nb, fun h3 same3 => ⟨_, G1, iv2.turned (t' := st2.toks) (fun b o nb e => (same3.2 b nb).trans e) k0 k1 k3 k4 k5, want⟩⟩
/-! ### what the printed derivations lean on -/
theorem takes0 {X : Cx} : L2N.Takes X (fun _ _ _ _ => False) := fun _ _ ⟨_, _, _, _, _, _, _, _, _, _, _, _, _, _, _, _, w⟩ => w.elim
theorem passE {X : Cx} {E : XK} (tk : L2N.Takes X (fun c d _ H => E c d H)) : Passes (L2N.CX X.prog X.w) X E := L2N.passes_call tk fun _ _ _ _ h => h
theorem hotE_suite {X : Cx} {a : Addr} {oe : Obj} {c : Value} {d : Option Addr} {pn : List (Addr × Obj)} (zn : L2N.Zn c d oe) (hf : ∃ vs, oe.data = .fields vs) : HotE (X.suite a ((a, oe) :: pn)) (a, oe) c d := by
  obtain ⟨vs, e⟩ := hf
  exact ⟨⟨rfl, vs, e, zn.2.2 vs e⟩, List.mem_cons_self, zn⟩
def tTry (K : PySem.W.Frag) (c : Value) (i : Nat) (tb : WX → TS) (ts : Addr → Value → Option Addr → TS) : TS := fun D σ H => tb (wAs K c i ts (fun _ _ _ _ => False) D) D σ H
/-- raise C(..) -/
def tRz (C : Addr) (sp : Sp) (E : XK) (ta : TA) : TS := fun _ σ H => tMkO C sp [] ta σ H fun cls d H' => E cls d H'
/-- a def that calls nothing but by name, a keyword's value behind the others -/
def kwG {α : Type} (n m : Nat) (vs zs : List α) : List α := if vs.length = n ∧ zs.length = m then vs ++ zs else []
theorem kwG_rel {n m : Nat} {vs : List V} {us : List Value} {zs : List V} {ws : List Value} (r : Vals vs us) (r2 : Vals zs ws) : Vals (kwG n m vs zs) (kwG n m us ws) := by
  unfold kwG
  rw [r.length, r2.length]
  split
  · exact r.append r2
  · exact .nil
theorem kbinds_of {K : PySem.W.Frag} {x qual : Str} {params : Arguments} {body : List Stmt} {scope : Scope} {f : Addr} {fd : FuncData} {ps ks : List Str} {n : Nat} (F : FunD K x qual params body scope [] [] f fd) (hp : ps ≠ [])
    (h : ∀ (kV doc pm : Value) (an : Option Addr) (cdv ct : Value) (us ws : List Value), us.length = n → ws.length = ks.length → bindArgs (PySem.W.fnOf x qual params body scope .none kV doc pm an cdv ct) ⟨us, ks.zip ws⟩ = pure (ps.zip (us ++ ws))) :
    KBinds K fd ps ks (kwG n ks.length) (kwG n ks.length) := by
  obtain ⟨oc, od, dV, kV, doc, pm, an, cdv, ct, osl, rfl, lk, hcd, hD, hK⟩ := (F.ex)
  refine ⟨fun s us ws inK len => ?_, fun r r2 => kwG_rel r r2⟩
  (rcases hD with ⟨_, rfl⟩ | ⟨e, _⟩)
  · unfold kwG at len ⊢
    split at len
    · rename_i hh
      rw [if_pos hh]
      exact .of_eq (h kV doc pm an cdv ct us ws hh.1 hh.2)
    · cases ps with
      | nil => exact absurd rfl hp
      | cons a r => cases len
  · exact absurd rfl e
structure OkKw (P : Program) (w : World) (K : PySem.W.Frag) (mg : Str → Option Value) (base : Heap) (k : Nat) (x : Str) (fd : FuncData) (ps ks : List Str) (sp : Sp) : Prop where
  fn : FnOk P w K mg base (L2N.CX P w) k (He.ga K x) fd ps sp
  kb : KBinds K fd ps ks (kwG (ps.length - ks.length) ks.length) (kwG (ps.length - ks.length) ks.length)
  kp : PySem.W.keepIn K (.ref (He.ga K x)) = true
structure OkH (P : Program) (w : World) (K : PySem.W.Frag) (mg : Str → Option Value) (base : Heap) (k : Nat) (x : Str) (fd : FuncData) (ps : List Str) (sp : SpH) : Prop where
  fn : FnP P w K mg base (L2N.CX P w) k (He.ga K x) fd ps sp
  bd : Binds K fd ps []
  kp : PySem.W.keepIn K (.ref (He.ga K x)) = true
/-- __init__ of the class x: what it promises, with its defaults left out -/
structure OkI (P : Program) (w : World) (K : PySem.W.Frag) (mg : Str → Option Value) (base : Heap) (k : Nat) (x : Str) (ps : List Str) (sp : Sp) : Prop where
  ex : ∃ fd, FnOk P w K mg base (L2N.CX P w) k (He.ma K (He.ga K x) "__init__") fd ps sp ∧ Binds K fd ps []
section
variable {X : Cx} {k : Nat} {x m : Str} {ps : List Str} {sp : Sp} {E : XK} {q pos apos pos2 : Pos} {e o : Expr} {es : List Expr} {t : TA} {ta : TE}
theorem pe_mk (G : OkI X.prog X.w X.K X.mg X.base k x ps sp) (M : Mk X.K (He.ga X.K x) (He.ma X.K (He.ga X.K x) "__init__")) (hr : Room (k + 1) X.A) (hg : Gl X x) (hm : X.mg x = some (.ref (He.ga X.K x))) (hx : Passes (L2N.CX X.prog X.w) X E) (ha : PA X (e :: es) t)
    (hd : (x == ("__debug__" : Str)) = false := by decide) (he : starEach (e :: es) X.env = (false, eval e X.env) :: starEach es X.env := by rfl) (hpl : (backTo pos (starEach es X.env)).any (·.1) = false := by rfl) :
    PE X (.Call (.Name x q) (e :: es) [] pos) (tMake (He.ga X.K x) sp [] E t) := by
  obtain ⟨fd, fo, b⟩ := G.ex
  exact pe_make M fo hr hg hm b .nil hx ha hd he hpl
theorem ps_rz (tk : L2N.Takes X (fun c d _ H => E c d H)) (hc : X.calm = true) (T : OexC X.K (He.ga X.K x) ∧ PySem.W.findIn X.K (.ref (He.ga X.K x)) "__init__" = some (some (.ref (He.ma X.K (He.ga X.K x) "__init__"))) ∧ PySem.W.typeIn X.K (.ref (He.ma X.K (He.ga X.K x) "__init__")) = some (.type "function") ∧ X.mg x = some (.ref (He.ga X.K x)))
    (G : OkI X.prog X.w X.K X.mg X.base k x ps sp) (hr : Room (k + 1) X.A) (ha : PA X (e :: es) t) (hg : Gl X x := by rfl)
    (hd : (x == ("__debug__" : Str)) = false := by decide) (he : starEach (e :: es) X.env = (false, eval e X.env) :: starEach es X.env := by rfl) (hpl : (backTo pos (starEach es X.env)).any (·.1) = false := by rfl) :
    PS X (.Raise (some (.Call (.Name x q) (e :: es) [] pos)) none pos2) (tRz (He.ga X.K x) sp E t) := by
  obtain ⟨fd, fo, b⟩ := G.ex
  exact L2N.ps_raise hc tk (pmk_ownN T.1 T.2.1 T.2.2.1 fo hr b hg T.2.2.2 ha hd he hpl)
/-- a method of the class x -/
structure OkM (P : Program) (w : World) (K : PySem.W.Frag) (mg : Str → Option Value) (base : Heap) (k : Nat) (x m : Str) (ps : List Str) (sp : Sp) (dvs : List V) : Prop where
  ex : ∃ fd ds, FnOk P w K mg base (L2N.CX P w) k (He.ma K (He.ga K x) m) fd ps sp ∧ Vals dvs ds ∧ Binds K fd ps ds
theorem pe_omt {dvs : List V} {pl : Sem Bool} (G : OkM X.prog X.w X.K X.mg X.base k x m ps sp dvs) (c : Cls X.K (He.ga X.K x)) (M : Meth X.K (He.ga X.K x) m (He.ma X.K (He.ga X.K x) m)) (hr : Room k X.A) (hx : Passes (L2N.CX X.prog X.w) X E) (he : PE X o ta) (ha : PA X (e :: es) t)
    (hst : starEach (e :: es) X.env = (false, eval e X.env) :: starEach es X.env := by exact rfl) (hpl : (backTo pos (starEach es X.env)).any (·.1) = false := by exact rfl)
    (ht : eval (.Call (.Attribute o m apos) (e :: es) ([]) pos) X.env = (do
      let v0 ← eval o X.env
      standAt apos.atName
      let (fn, fst) ← holding [v0] (getMethod v0 m pl)
      callWith pos fn fst (backTo pos (starEach (e :: es) X.env)) (backToKw pos (keywordEach [] X.env))) := by rfl) :
    PE X (.Call (.Attribute o m apos) (e :: es) [] pos) (tMeth (He.ga X.K x) m sp dvs E ta t) := by
  obtain ⟨fd, ds, fo, vd, b⟩ := G.ex
  exact pe_meth (pl := pl) he c M fo hr b vd hx ha hst hpl ht
/-- a def with defaults left out -/
structure OkD (P : Program) (w : World) (K : PySem.W.Frag) (mg : Str → Option Value) (base : Heap) (k : Nat) (x : Str) (ps : List Str) (sp : Sp) (dvs : List V) : Prop where
  ex : ∃ fd ds, FnOk P w K mg base (L2N.CX P w) k (He.ga K x) fd ps sp ∧ Vals dvs ds ∧ Binds K fd ps ds
  kp : PySem.W.keepIn K (.ref (He.ga K x)) = true
theorem pe_ownD {dvs : List V} (G : OkD X.prog X.w X.K X.mg X.base k x ps sp dvs) (hr : Room k X.A) (hg : Gl X x) (hm : X.mg x = some (.ref (He.ga X.K x))) (hx : Passes (L2N.CX X.prog X.w) X E) (ha : PA X (e :: es) t)
    (hd : (x == ("__debug__" : Str)) = false := by decide) (he : starEach (e :: es) X.env = (false, eval e X.env) :: starEach es X.env := by rfl) (hpl : (backTo pos (starEach es X.env)).any (·.1) = false := by rfl) :
    PE X (.Call (.Name x q) (e :: es) [] pos) (tCall sp dvs E t) := by
  obtain ⟨fd, ds, fo, vd, b⟩ := G.ex
  exact pe_call fo hr hg hm G.kp b vd hx ha hd he hpl
end
theorem pe_constI {X : Cx} {x : Str} {i : Int} {pos : Pos} (hg : Gl X x) (h : ∃ t, X.mg x = some (.int i t)) (hd : (x == ("__debug__" : Str)) = false := by decide) : PE X (.Name x pos) (tC (.int i)) := by
  obtain ⟨t, e⟩ := h
  exact (pe_glob hg e ⟨t, rfl⟩ hd)
theorem un64 {k : Nat} {A : Around} (r : Room k A) : A.units + 64 < cLine := by have := r.un; omega
theorem un64H {k : Nat} {A : Around} (r : RoomH k A) : A.units + 64 < cLine := by have := r.un; omega
/-- the rule for a def of the hot kind -/
theorem okH_of {P : Program} {w : World} {K : PySem.W.Frag} {mg : Str → Option Value} {base : Heap} {k : Nat} {x : Str} {params : Arguments} {body : List Stmt} {scope : Scope} {N ps : List Str} {sp : SpH} {fd : FuncData} (F : FunD K x x params body scope [] [] (He.ga K x) fd) (S : FnScope N ps scope)
    (len : ∀ a c d vs H Q E, sp a c d vs H Q E → vs.length = ps.length) (bd : Binds K fd ps [])
    (hbody : ∀ (cdv : Value) (A : Around) (outer : List Env) (s : Shared) (H : Hp) (vs : List V) (Q : VK) (E : XK) (p : Addr × Obj) (c : Value) (d : Option Addr), HotE (cxH (L2N.CX P w) P w K mg base N x scope (He.ga K x) cdv A outer s H E p) p c d → RoomH k (A.deeper (envOfC x scope s.heap.objs.size (He.ga K x) cdv)) → sp p.1 c d vs H Q E →
      ∃ t, PSs (cxH (L2N.CX P w) P w K mg base N x scope (He.ga K x) cdv A outer s H E p) body t ∧ t { nx := fun _ H' => Q .non H', rt := Q } (L2.start N vs) H) : OkH P w K mg base (k + 1) x fd ps sp := by
  refine ⟨?_, bd, F.kp⟩
  obtain ⟨oc, od, dV, kV, doc, pm, an, cdv, ct, osl, rfl, lk, hcd, _, _⟩ := (F.ex)
  exact fn_ofP lk hcd S len fun A outer s H vs Q E p c d hot zn room hw => hbody cdv A outer s H vs Q E p c d ⟨hot, List.mem_singleton_self p, zn⟩ room hw
theorem ps_tryN {X : Cx} {x n : Str} {c : Value} {i : Nat} {body suite : List Stmt} {b₀ : Stmt} {np pos pos' : Pos} {tb : WX → TS} {ts : Addr → Value → Option Addr → TS} (hs : X.stack = X.env :: X.outer) (hf : X.env.frame = some X.env.locals) (nod : X.N.Nodup) (hi : X.N[i]? = some n) (loc : X.env.kindOf n = some .local)
    (hc : Names X x c) (dB : ∀ (W : WX) (pn : List (Addr × Obj)) (xe : Value → Shared → Prop), L2N.Takes (X.tr pn xe) W → PassesOwn (model X.prog X.w) X.A X.env xe → PSs (X.tr pn xe) body (tb W))
    (dS : ∀ (a : Addr) (oe : Obj) (cls : Value) (d : Option Addr) (pn : List (Addr × Obj)), L2N.Zn cls d oe → (∃ vs, oe.data = .fields vs) → PSs (X.suite a ((a, oe) :: pn)) (b₀ :: suite) (ts a cls d)) :
    PS X (.Try body [.ExceptHandler (some (.Name x np)) (some n) (b₀ :: suite) pos'] [] [] pos) (tTry X.K c i tb ts) := L2N.ps_try_as hs hf nod hi loc hc takes0 dB dS
/-! ### facts of the written part by one Bool -/
def oexB (K : PySem.W.Frag) (C : Addr) : Bool := (match K.lookup C with
  | some ⟨.type "type", _, .cls cdat, sl⟩ => (match cdat.mro, sl.toList with
    | .ref D :: bm, [_, _, _, _, some (.builtin n), _] => decide (D = C) && (decide (n = "ValueError.__new__") && (cdat.hasDict && (!cdat.hasDel && HandSPX.refsVE bm)))
    | _, _ => false)
  | _ => false) && (decide (PySem.W.findIn K (.ref C) "__setattr__" = some (some (.builtin "object.__setattr__"))) && (decide (PySem.W.subIn K (.ref C) (.type "BaseException") = some true) && (decide (PySem.W.typeIn K (.ref C) = some (.type "type")) && PySem.W.keepIn K (.ref C))))
theorem oexB_ok {K : PySem.W.Frag} {C : Addr} (h : oexB K C = true) : OexC K C := by
  obtain ⟨h0, h⟩ := He.ba h
  obtain ⟨h1, h⟩ := He.ba h
  obtain ⟨h2, h⟩ := He.ba h
  obtain ⟨h3, h4⟩ := He.ba h
  refine ⟨?_, of_decide_eq_true h1, of_decide_eq_true h2, of_decide_eq_true h3, h4⟩
  split at h0
  · rename_i dd cd sl ho
    split at h0
    · rename_i D bm k0 k1 k2 k3 n k5 hm hs
      obtain ⟨g1, h0⟩ := He.ba h0
      obtain ⟨g2, h0⟩ := He.ba h0
      obtain ⟨g3, h0⟩ := He.ba h0
      obtain ⟨g4, g5⟩ := He.ba h0
      cases of_decide_eq_true g1
      cases of_decide_eq_true g2
      obtain ⟨nm, bs, mro, ns, qn, hd, sn, sub, ab, col, del⟩ := (cd)
      dsimp only at hm g3 g4
      subst hm
      subst g3
      cases del with
      | true => cases g4
      | false =>
        have e : sl = #[k0, k1, k2, k3, some (.builtin "ValueError.__new__"), k5] := by
          obtain ⟨l⟩ := sl
          simp only at hs
          rw [hs]
        subst e
        exact ⟨nm, qn, ns, bs, bm, sn, sub, ab, col, dd, k0, k1, k2, k3, k5, ho, g5⟩
    · cases h0
  · cases h0
def excB (K : PySem.W.Frag) (C : Addr) : Bool := xfB K C && (decide (PySem.W.findIn K (.ref C) "__class__" = some (some (.builtin "object.__class__"))) && (decide (PySem.W.specialIn K (.builtin "object.__class__") "__get__" = some (some (.builtin "getset_descriptor.__get__"))) &&
  (decide (PySem.W.takesIn K (.builtin "object.__class__") = some true) && decide (PySem.W.mroIn K C (.type "object") = some true))))
theorem excB_ok {K : PySem.W.Frag} {C : Addr} (h : excB K C = true) : XfC K C ∧ ExcC K C := by
  obtain ⟨h0, h⟩ := He.ba h
  obtain ⟨h1, h⟩ := He.ba h
  obtain ⟨h2, h⟩ := He.ba h
  obtain ⟨h3, h4⟩ := He.ba h
  have x := xfB_ok h0
  exact ⟨x, ⟨x.ga, x.gg, x.exC, x.hdC, of_decide_eq_true h1, of_decide_eq_true h2, of_decide_eq_true h3, of_decide_eq_true h4⟩⟩
end Tw
/-! Own layer: the names of the error classes that the laws' fault looks at. -/
namespace Tw
open PySem
def err1 : List Str := ["BadGround", "BadNumber", "BadTable", "BadName"]
def err2 : List Str := ["BadProgram", "BadFormula", "BadScript", "Broken"]
def err3 : List Str := ["Unlike", "NotRight", "NotLeast", "NotLow"]
def err4 : List Str := ["BadPoints", "TooMany", "NoSuch", "Stops"]
def err5 : List Str := ["Enough", "Endless", "NothingLeft"]
def errL : List Str := (((err1 ++ err2) ++ err3) ++ err4) ++ err5
end Tw
/-! Own layer, part R: the head's run told part by part (each part a declaration of its own: the kernel's memory), its places found by a number's bits. -/
noncomputable section
namespace Tw
open PySem PySem.Spec PyProof.Rows L2 HandSHeadRun
/-! ### the places that the top's names lead to -/
/-- those of the list that the number does not hold yet -/
def freshA : List Addr → Nat → List Addr → List Addr × Nat
  | [], m, acc => (acc, m)
  | a :: r, m, acc => match Nat.beq (Nat.land (Nat.shiftRight m a) 1) 1 with
    | true => freshA r m acc
    | false => freshA r (Nat.lor m (Nat.shiftLeft 1 a)) (a :: acc)
def levelA (g : Addr → Option Obj) : List Addr → Nat → List Addr → List Addr × Nat
  | [], m, acc => (acc, m)
  | a :: r, m, acc => match g a with
    | some o => (match freshA (He.refsD o) m acc with
      | (acc', m') => levelA g r m' acc')
    | none => levelA g r m acc
def leadA (g : Addr → Option Obj) : Nat → List Addr → Nat → List Addr
  | 0, front, _ => front
  | n + 1, front, m => match levelA g front m [] with
    | (nxt, m') => front ++ leadA g n nxt m'
def plcA (g : Addr → Option Obj) (n : Nat) : List Addr := leadA g n [mainGlobals] (Nat.shiftLeft 1 mainGlobals)
def frP (g : Addr → Option Obj) (n : Nat) : PySem.W.Frag := He.frT g (plcA g n)
/-! ### the Hook -/
def tabsP (g : Addr → Option Obj) (tf : List He.Defn) (K : PySem.W.Frag) : Bool := tf.all fun p => PySem.W.codeHdIn K (He.cT K p).1 (He.cT K p).2 && (match g (He.cT K p).2 with
  | none => false
  | some o => He.emptyTab o)
def obP (n : Nat) (fa : List He.Fa) (fn : List He.DefD) (tf : List He.Defn) (ex : PySem.W.Frag → Bool) (g : Addr → Option Obj) : He.AlX := (((fa.all (fun f => f.ok (frP g n)) && fn.all (fun d => d.ok (frP g n)), fn.map fun d => He.fnW (frP g n) d.at_), []), ex (frP g n) && tabsP g tf (frP g n))
theorem says_of {n : Nat} {fa : List He.Fa} {fn : List He.DefD} {tf : List He.Defn} {ex : PySem.W.Frag → Bool} {w : World} {h : Heap} (e : obP n fa fn tf ex h.get? = He.valX fn [] w) : He.SaysX fa fn [] tf ex w h (frP h.get? n) := by
  have a1 : ((fa.all (fun f => f.ok (frP h.get? n)) && fn.all (fun d => d.ok (frP h.get? n)), fn.map fun d => He.fnW (frP h.get? n) d.at_), []) = (((true, fn.map He.DefD.val), []) : He.AlT) := congrArg Prod.fst e
  have a2 : (ex (frP h.get? n) && tabsP h.get? tf (frP h.get? n)) = true := congrArg Prod.snd e
  obtain ⟨b1, b2⟩ := He.ba a2
  generalize hK : frP h.get? n = K at a1 b1 b2
  have tab : ∀ p ∈ tf, PySem.W.codeHdIn K (He.cT K p).1 (He.cT K p).2 = true ∧ ∃ o, h.get? (He.cT K p).2 = some o ∧ He.emptyTab o = true := fun p hp => by
    obtain ⟨c1, c2⟩ := He.ba (List.all_eq_true.mp b2 p hp)
    cases q : h.get? (He.cT K p).2 with
    | some o => rw [q] at c2; exact ⟨c1, o, rfl, c2⟩
    | none => rw [q] at c2; cases c2
  refine ⟨a1, b1, fun p hp => (tab p hp).1, fun p hp => ?_, fun p hp => ?_⟩
  · obtain ⟨_, o, q, z⟩ := tab p hp
    have fr := He.frT_none (as := plcA h.get? n) q z
    rw [← hK] at fr ⊢
    exact fr
  · obtain ⟨_, o, q, z⟩ := tab p hp
    rw [q, He.emptyTab_eq z]
def hkP (n : Nat) (fa : List He.Fa) (fn : List He.DefD) (tf : List He.Defn) (ex : PySem.W.Frag → Bool) : PySem.W.Hook where
  α := He.AlX
  obs := fun s => obP n fa fn tf ex s.heap.get?
  val := fun w => He.valX fn [] w
  says := fun w h => ∃ K : PySem.W.Frag, K.In h ∧ He.SaysX fa fn [] tf ex w h K
  of := fun _ s e => ⟨frP s.heap.get? n, He.frT_in, says_of e⟩
  keeps := fun _ _ _ ⟨K, inK, c⟩ k => ⟨K, inK.keeps k, ⟨c.t, c.more, c.hd, c.out, fun p hp => k _ _ (c.empty p hp)⟩⟩
theorem obP_eq {n : Nat} {fa : List He.Fa} {fn : List He.DefD} {tf : List He.Defn} {ex : PySem.W.Frag → Bool} (s : PySem.W.SharedT) : obP n fa fn tf ex (getT s) = (hkP n fa fn tf ex).obs s.abs := by
  have e : getT s = s.abs.heap.get? := funext (getT_eq s)
  rw [e]
  rfl
/-! ### the run, part by part -/
abbrev RunW (r : PySem.W.OpenRow) (M : Nat) (w : World) : Option (Shared × PySem.W.SharedT) := wholeF (fun p => stepQ (denQ tabQ) p w) fenceQ M r.prog
theorem run_split {r : PySem.W.OpenRow} {q : Program} {H : PySem.W.Hook} {ob : PySem.W.SharedT → H.α} {M : Nat} {loose : List Str} {w : World}
    (a : (RunW r M w).map (fun x => looksF r.prog x.1.heap x.2.abs) = some true)
    (b : (RunW r M w).map (fun x => HandSHeadRun.seenQ q loose (PySem.importedModules r.prog.main.body) (fun s => PySem.W.xlAt q [] s && PySem.W.recOk r.toRowW.records s) x.2.abs) = some (PySem.W.openGood q loose))
    (c : (RunW r M w).map (fun x => ob x.2) = some (H.val w)) : RunEqI r q H ob M loose w := by
  unfold RunEqI
  obtain ⟨x, ex, ax⟩ := Option.map_eq_some_iff.mp a
  obtain ⟨y, ey, by'⟩ := Option.map_eq_some_iff.mp b
  obtain ⟨z, ez, cz⟩ := Option.map_eq_some_iff.mp c
  rw [ex] at ey ez
  cases ey
  cases ez
  show (RunW r M w).map _ = _
  rw [ex]
  exact congrArg some (Prod.ext ax (Prod.ext by' cz))
end Tw
end
set_option maxHeartbeats 0
namespace TwW
open Tw PySem PySem.Spec PyProof.Rows L2 Evl RZ L2H
def top (i : Nat) : Stmt := PySem.Challenge.pw_twiceless_k82_windows.main.body.getD i (.Pass ⟨0, 0, 0, 0⟩)
abbrev s_f_law_gcd : Stmt := top 82
abbrev s_f_law_num : Stmt := top 83
abbrev s_f_law_int : Stmt := top 84
abbrev s_f_law_add : Stmt := top 85
abbrev s_f_law_mul : Stmt := top 86
abbrev s_f_law_neg : Stmt := top 87
abbrev s_f_law_inv : Stmt := top 88
abbrev s_f_law_draw : Stmt := top 77
abbrev s_f_law_pick : Stmt := top 78
abbrev s_f_law_small : Stmt := top 95
abbrev s_f_law_row : Stmt := top 97
abbrev s_f_law_bag : Stmt := top 76
abbrev s_f_law_line : Stmt := top 94
abbrev s_f_law_copied : Stmt := top 81
abbrev s_f_law_same : Stmt := top 80
abbrev s_f_law_due : Stmt := top 103
abbrev s_f_law_zeros : Stmt := top 89
abbrev s_f_law_base : Stmt := top 90
abbrev s_f_law_times : Stmt := top 91
abbrev s_f_law_dot : Stmt := top 92
abbrev s_f_law_combined : Stmt := top 93
abbrev s_f_law_powers : Stmt := top 99
abbrev s_f_law_unit : Stmt := top 96
abbrev s_f_law_mixed : Stmt := top 79
abbrev s_f_law_points : Stmt := top 98
abbrev s_f_law_lagrange : Stmt := top 100
abbrev s_f_law_dressed : Stmt := top 101
abbrev s_f_law_default : Stmt := top 104
abbrev s_f_law_first : Stmt := top 106
abbrev s_f_law_bent : Stmt := top 107
abbrev s_f_inverse_modulo : Stmt := top 27
abbrev s_m_Ground_number : Stmt := inClass (top 36) 2
abbrev s_f_lowest : Stmt := top 53
abbrev s_m_Ground_sub : Stmt := inClass (top 36) 4
abbrev s_m_Ground_mul : Stmt := inClass (top 36) 5
abbrev s_m_Ground_div : Stmt := inClass (top 36) 6
abbrev s_f_zero_of : Stmt := top 50
abbrev s_f_one_of : Stmt := top 51
abbrev s_f_unit_row : Stmt := top 52
abbrev s_f_dot : Stmt := top 54
abbrev s_f_blend : Stmt := top 55
abbrev s_f_scaled : Stmt := top 56
abbrev s_m_LeftRight_init : Stmt := inClass (top 60) 0
abbrev s_m_LeftRight_sizes : Stmt := inClass (top 60) 1
abbrev s_m_LeftRight_triples : Stmt := inClass (top 60) 2
abbrev s_m_LeftRight_tells : Stmt := inClass (top 60) 3
abbrev s_f_value_rows : Stmt := top 63
abbrev s_m_TooMany_init : Stmt := inClass (top 19) 0
abbrev s_m_BadPoints_init : Stmt := inClass (top 18) 0
abbrev s_m_Unlike_init : Stmt := inClass (top 14) 0
abbrev s_f_check_lengths : Stmt := top 69
abbrev s_f_default_points : Stmt := top 66
abbrev s_f_checked_points : Stmt := top 70
abbrev s_f_powers_at : Stmt := top 71
abbrev s_f_rectangle : Stmt := top 67
abbrev s_f_turn : Stmt := top 65
abbrev s_f_window : Stmt := top 68
abbrev s_f_first_unlike : Stmt := top 73
abbrev s_f_errs_window : Stmt := top 74
abbrev s_f_unsigned : Stmt := top 30
abbrev s_f_is_odd_prime : Stmt := top 26
abbrev s_f_prime_of_line : Stmt := top 35
abbrev s_m_Ground_init : Stmt := inClass (top 36) 0
abbrev s_f_law_fault : Stmt := top 102
abbrev s_f_law_asked : Stmt := top 105
abbrev s_f_law_judged : Stmt := top 108
abbrev s_f_law_refused : Stmt := top 109
abbrev s_f_law_made : Stmt := top 110
abbrev s_f_law : Stmt := top 111
def d_f_law_gcd : He.DefD := ⟨("_law_gcd", none), "_law_gcd", "_law_gcd", defArgs s_f_law_gcd, defBody s_f_law_gcd, defScope s_f_law_gcd, [], []⟩
def d_f_law_num : He.DefD := ⟨("_law_num", none), "_law_num", "_law_num", defArgs s_f_law_num, defBody s_f_law_num, defScope s_f_law_num, [], []⟩
def d_f_law_int : He.DefD := ⟨("_law_int", none), "_law_int", "_law_int", defArgs s_f_law_int, defBody s_f_law_int, defScope s_f_law_int, [], []⟩
def d_f_law_add : He.DefD := ⟨("_law_add", none), "_law_add", "_law_add", defArgs s_f_law_add, defBody s_f_law_add, defScope s_f_law_add, [], []⟩
def d_f_law_mul : He.DefD := ⟨("_law_mul", none), "_law_mul", "_law_mul", defArgs s_f_law_mul, defBody s_f_law_mul, defScope s_f_law_mul, [], []⟩
def d_f_law_neg : He.DefD := ⟨("_law_neg", none), "_law_neg", "_law_neg", defArgs s_f_law_neg, defBody s_f_law_neg, defScope s_f_law_neg, [], []⟩
def d_f_law_inv : He.DefD := ⟨("_law_inv", none), "_law_inv", "_law_inv", defArgs s_f_law_inv, defBody s_f_law_inv, defScope s_f_law_inv, [], []⟩
def d_f_law_draw : He.DefD := ⟨("_law_draw", none), "_law_draw", "_law_draw", defArgs s_f_law_draw, defBody s_f_law_draw, defScope s_f_law_draw, [], []⟩
def d_f_law_pick : He.DefD := ⟨("_law_pick", none), "_law_pick", "_law_pick", defArgs s_f_law_pick, defBody s_f_law_pick, defScope s_f_law_pick, [], []⟩
def d_f_law_small : He.DefD := ⟨("_law_small", none), "_law_small", "_law_small", defArgs s_f_law_small, defBody s_f_law_small, defScope s_f_law_small, [], []⟩
def d_f_law_row : He.DefD := ⟨("_law_row", none), "_law_row", "_law_row", defArgs s_f_law_row, defBody s_f_law_row, defScope s_f_law_row, [], []⟩
def d_f_law_bag : He.DefD := ⟨("_law_bag", none), "_law_bag", "_law_bag", defArgs s_f_law_bag, defBody s_f_law_bag, defScope s_f_law_bag, [], []⟩
def d_f_law_line : He.DefD := ⟨("_law_line", none), "_law_line", "_law_line", defArgs s_f_law_line, defBody s_f_law_line, defScope s_f_law_line, [], []⟩
def d_f_law_copied : He.DefD := ⟨("_law_copied", none), "_law_copied", "_law_copied", defArgs s_f_law_copied, defBody s_f_law_copied, defScope s_f_law_copied, [], []⟩
def d_f_law_same : He.DefD := ⟨("_law_same", none), "_law_same", "_law_same", defArgs s_f_law_same, defBody s_f_law_same, defScope s_f_law_same, [], []⟩
def d_f_law_due : He.DefD := ⟨("_law_due", none), "_law_due", "_law_due", defArgs s_f_law_due, defBody s_f_law_due, defScope s_f_law_due, [], []⟩
def d_f_law_zeros : He.DefD := ⟨("_law_zeros", none), "_law_zeros", "_law_zeros", defArgs s_f_law_zeros, defBody s_f_law_zeros, defScope s_f_law_zeros, [], []⟩
def d_f_law_base : He.DefD := ⟨("_law_base", none), "_law_base", "_law_base", defArgs s_f_law_base, defBody s_f_law_base, defScope s_f_law_base, [], []⟩
def d_f_law_times : He.DefD := ⟨("_law_times", none), "_law_times", "_law_times", defArgs s_f_law_times, defBody s_f_law_times, defScope s_f_law_times, [], []⟩
def d_f_law_dot : He.DefD := ⟨("_law_dot", none), "_law_dot", "_law_dot", defArgs s_f_law_dot, defBody s_f_law_dot, defScope s_f_law_dot, [], []⟩
def d_f_law_combined : He.DefD := ⟨("_law_combined", none), "_law_combined", "_law_combined", defArgs s_f_law_combined, defBody s_f_law_combined, defScope s_f_law_combined, [], []⟩
def d_f_law_powers : He.DefD := ⟨("_law_powers", none), "_law_powers", "_law_powers", defArgs s_f_law_powers, defBody s_f_law_powers, defScope s_f_law_powers, [], []⟩
def d_f_law_unit : He.DefD := ⟨("_law_unit", none), "_law_unit", "_law_unit", defArgs s_f_law_unit, defBody s_f_law_unit, defScope s_f_law_unit, [], []⟩
def d_f_law_mixed : He.DefD := ⟨("_law_mixed", none), "_law_mixed", "_law_mixed", defArgs s_f_law_mixed, defBody s_f_law_mixed, defScope s_f_law_mixed, [], []⟩
def d_f_law_points : He.DefD := ⟨("_law_points", none), "_law_points", "_law_points", defArgs s_f_law_points, defBody s_f_law_points, defScope s_f_law_points, [], []⟩
def d_f_law_lagrange : He.DefD := ⟨("_law_lagrange", none), "_law_lagrange", "_law_lagrange", defArgs s_f_law_lagrange, defBody s_f_law_lagrange, defScope s_f_law_lagrange, [], []⟩
def d_f_law_dressed : He.DefD := ⟨("_law_dressed", none), "_law_dressed", "_law_dressed", defArgs s_f_law_dressed, defBody s_f_law_dressed, defScope s_f_law_dressed, [], []⟩
def d_f_law_default : He.DefD := ⟨("_law_default", none), "_law_default", "_law_default", defArgs s_f_law_default, defBody s_f_law_default, defScope s_f_law_default, [], []⟩
def d_f_law_first : He.DefD := ⟨("_law_first", none), "_law_first", "_law_first", defArgs s_f_law_first, defBody s_f_law_first, defScope s_f_law_first, [], []⟩
def d_f_law_bent : He.DefD := ⟨("_law_bent", none), "_law_bent", "_law_bent", defArgs s_f_law_bent, defBody s_f_law_bent, defScope s_f_law_bent, [], []⟩
def d_f_inverse_modulo : He.DefD := ⟨("inverse_modulo", none), "inverse_modulo", "inverse_modulo", defArgs s_f_inverse_modulo, defBody s_f_inverse_modulo, defScope s_f_inverse_modulo, [], []⟩
def d_m_Ground_number : He.DefD := ⟨("Ground", some "number"), "number", "Ground.number", defArgs s_m_Ground_number, defBody s_m_Ground_number, defScope s_m_Ground_number, [.int 1], []⟩
def d_f_lowest : He.DefD := ⟨("lowest", none), "lowest", "lowest", defArgs s_f_lowest, defBody s_f_lowest, defScope s_f_lowest, [], []⟩
def d_m_Ground_sub : He.DefD := ⟨("Ground", some "sub"), "sub", "Ground.sub", defArgs s_m_Ground_sub, defBody s_m_Ground_sub, defScope s_m_Ground_sub, [], []⟩
def d_m_Ground_mul : He.DefD := ⟨("Ground", some "mul"), "mul", "Ground.mul", defArgs s_m_Ground_mul, defBody s_m_Ground_mul, defScope s_m_Ground_mul, [], []⟩
def d_m_Ground_div : He.DefD := ⟨("Ground", some "div"), "div", "Ground.div", defArgs s_m_Ground_div, defBody s_m_Ground_div, defScope s_m_Ground_div, [], []⟩
def d_f_zero_of : He.DefD := ⟨("zero_of", none), "zero_of", "zero_of", defArgs s_f_zero_of, defBody s_f_zero_of, defScope s_f_zero_of, [], []⟩
def d_f_one_of : He.DefD := ⟨("one_of", none), "one_of", "one_of", defArgs s_f_one_of, defBody s_f_one_of, defScope s_f_one_of, [], []⟩
def d_f_unit_row : He.DefD := ⟨("unit_row", none), "unit_row", "unit_row", defArgs s_f_unit_row, defBody s_f_unit_row, defScope s_f_unit_row, [], []⟩
def d_f_dot : He.DefD := ⟨("dot", none), "dot", "dot", defArgs s_f_dot, defBody s_f_dot, defScope s_f_dot, [], []⟩
def d_f_blend : He.DefD := ⟨("blend", none), "blend", "blend", defArgs s_f_blend, defBody s_f_blend, defScope s_f_blend, [], []⟩
def d_f_scaled : He.DefD := ⟨("scaled", none), "scaled", "scaled", defArgs s_f_scaled, defBody s_f_scaled, defScope s_f_scaled, [], []⟩
def d_m_LeftRight_init : He.DefD := ⟨("LeftRight", some "__init__"), "__init__", "LeftRight.__init__", defArgs s_m_LeftRight_init, defBody s_m_LeftRight_init, defScope s_m_LeftRight_init, [], []⟩
def d_m_LeftRight_sizes : He.DefD := ⟨("LeftRight", some "sizes"), "sizes", "LeftRight.sizes", defArgs s_m_LeftRight_sizes, defBody s_m_LeftRight_sizes, defScope s_m_LeftRight_sizes, [], []⟩
def d_m_LeftRight_triples : He.DefD := ⟨("LeftRight", some "triples"), "triples", "LeftRight.triples", defArgs s_m_LeftRight_triples, defBody s_m_LeftRight_triples, defScope s_m_LeftRight_triples, [], []⟩
def d_m_LeftRight_tells : He.DefD := ⟨("LeftRight", some "tells"), "tells", "LeftRight.tells", defArgs s_m_LeftRight_tells, defBody s_m_LeftRight_tells, defScope s_m_LeftRight_tells, [], []⟩
def d_f_value_rows : He.DefD := ⟨("value_rows", none), "value_rows", "value_rows", defArgs s_f_value_rows, defBody s_f_value_rows, defScope s_f_value_rows, [], []⟩
def d_m_TooMany_init : He.DefD := ⟨("TooMany", some "__init__"), "__init__", "TooMany.__init__", defArgs s_m_TooMany_init, defBody s_m_TooMany_init, defScope s_m_TooMany_init, [], []⟩
def d_m_BadPoints_init : He.DefD := ⟨("BadPoints", some "__init__"), "__init__", "BadPoints.__init__", defArgs s_m_BadPoints_init, defBody s_m_BadPoints_init, defScope s_m_BadPoints_init, [], []⟩
def d_m_Unlike_init : He.DefD := ⟨("Unlike", some "__init__"), "__init__", "Unlike.__init__", defArgs s_m_Unlike_init, defBody s_m_Unlike_init, defScope s_m_Unlike_init, [], []⟩
def d_f_check_lengths : He.DefD := ⟨("check_lengths", none), "check_lengths", "check_lengths", defArgs s_f_check_lengths, defBody s_f_check_lengths, defScope s_f_check_lengths, [], []⟩
def d_f_default_points : He.DefD := ⟨("default_points", none), "default_points", "default_points", defArgs s_f_default_points, defBody s_f_default_points, defScope s_f_default_points, [], []⟩
def d_f_checked_points : He.DefD := ⟨("checked_points", none), "checked_points", "checked_points", defArgs s_f_checked_points, defBody s_f_checked_points, defScope s_f_checked_points, [], []⟩
def d_f_powers_at : He.DefD := ⟨("powers_at", none), "powers_at", "powers_at", defArgs s_f_powers_at, defBody s_f_powers_at, defScope s_f_powers_at, [], []⟩
def d_f_rectangle : He.DefD := ⟨("rectangle", none), "rectangle", "rectangle", defArgs s_f_rectangle, defBody s_f_rectangle, defScope s_f_rectangle, [], [("points", .non)]⟩
def d_f_turn : He.DefD := ⟨("turn", none), "turn", "turn", defArgs s_f_turn, defBody s_f_turn, defScope s_f_turn, [], []⟩
def d_f_window : He.DefD := ⟨("window", none), "window", "window", defArgs s_f_window, defBody s_f_window, defScope s_f_window, [], [("points", .non)]⟩
def d_f_first_unlike : He.DefD := ⟨("_first_unlike", none), "_first_unlike", "_first_unlike", defArgs s_f_first_unlike, defBody s_f_first_unlike, defScope s_f_first_unlike, [], []⟩
def d_f_errs_window : He.DefD := ⟨("errs_window", none), "errs_window", "errs_window", defArgs s_f_errs_window, defBody s_f_errs_window, defScope s_f_errs_window, [], []⟩
def d_f_unsigned : He.DefD := ⟨("unsigned", none), "unsigned", "unsigned", defArgs s_f_unsigned, defBody s_f_unsigned, defScope s_f_unsigned, [.int 60], []⟩
def d_f_is_odd_prime : He.DefD := ⟨("is_odd_prime", none), "is_odd_prime", "is_odd_prime", defArgs s_f_is_odd_prime, defBody s_f_is_odd_prime, defScope s_f_is_odd_prime, [], []⟩
def d_f_prime_of_line : He.DefD := ⟨("prime_of_line", none), "prime_of_line", "prime_of_line", defArgs s_f_prime_of_line, defBody s_f_prime_of_line, defScope s_f_prime_of_line, [], []⟩
def d_m_Ground_init : He.DefD := ⟨("Ground", some "__init__"), "__init__", "Ground.__init__", defArgs s_m_Ground_init, defBody s_m_Ground_init, defScope s_m_Ground_init, [], []⟩
def d_f_law_fault : He.DefD := ⟨("_law_fault", none), "_law_fault", "_law_fault", defArgs s_f_law_fault, defBody s_f_law_fault, defScope s_f_law_fault, [], []⟩
def d_f_law_asked : He.DefD := ⟨("_law_asked", none), "_law_asked", "_law_asked", defArgs s_f_law_asked, defBody s_f_law_asked, defScope s_f_law_asked, [], []⟩
def d_f_law_judged : He.DefD := ⟨("_law_judged", none), "_law_judged", "_law_judged", defArgs s_f_law_judged, defBody s_f_law_judged, defScope s_f_law_judged, [], []⟩
def d_f_law_refused : He.DefD := ⟨("_law_refused", none), "_law_refused", "_law_refused", defArgs s_f_law_refused, defBody s_f_law_refused, defScope s_f_law_refused, [], []⟩
def d_f_law_made : He.DefD := ⟨("_law_made", none), "_law_made", "_law_made", defArgs s_f_law_made, defBody s_f_law_made, defScope s_f_law_made, [], []⟩
def d_f_law : He.DefD := ⟨("law", none), "law", "law", defArgs s_f_law, defBody s_f_law, defScope s_f_law, [], []⟩
def fnL0 : List He.DefD := [d_f_law_gcd, d_f_law_num, d_f_law_int, d_f_law_add, d_f_law_mul, d_f_law_neg, d_f_law_inv, d_f_law_draw, d_f_law_pick, d_f_law_small]
def fnL1 : List He.DefD := [d_f_law_row, d_f_law_bag, d_f_law_line, d_f_law_copied, d_f_law_same, d_f_law_due, d_f_law_zeros, d_f_law_base, d_f_law_times, d_f_law_dot]
def fnL2 : List He.DefD := [d_f_law_combined, d_f_law_powers, d_f_law_unit, d_f_law_mixed, d_f_law_points, d_f_law_lagrange, d_f_law_dressed, d_f_law_default, d_f_law_first, d_f_law_bent]
def fnL3 : List He.DefD := [d_f_inverse_modulo, d_m_Ground_number, d_f_lowest, d_m_Ground_sub, d_m_Ground_mul, d_m_Ground_div, d_f_zero_of, d_f_one_of, d_f_unit_row, d_f_dot]
def fnL4 : List He.DefD := [d_f_blend, d_f_scaled, d_m_LeftRight_init, d_m_LeftRight_sizes, d_m_LeftRight_triples, d_m_LeftRight_tells, d_f_value_rows, d_m_TooMany_init, d_m_BadPoints_init, d_m_Unlike_init]
def fnL5 : List He.DefD := [d_f_check_lengths, d_f_default_points, d_f_checked_points, d_f_powers_at, d_f_rectangle, d_f_turn, d_f_window, d_f_first_unlike, d_f_errs_window, d_f_unsigned]
def fnL6 : List He.DefD := [d_f_is_odd_prime, d_f_prime_of_line, d_m_Ground_init, d_f_law_fault, d_f_law_asked, d_f_law_judged, d_f_law_refused, d_f_law_made, d_f_law]
def fnL : List He.DefD := fnL0 ++ (fnL1 ++ (fnL2 ++ (fnL3 ++ (fnL4 ++ (fnL5 ++ (fnL6))))))
def faL0 : List He.Fa := [.free "abs", .free "any", .free "bool", .free "int", .free "isinstance", .free "len", .free "list", .free "max", .free "min", .free "range", .free "str", .free "sum"]
def faL1 : List He.Fa := [.free "tuple", .free "zip", .str "FAR" "far", .int "GREATEST_PRIME" 10007, .int "MOST_PRODUCTS" 60, .int "MOST_SIZE" 12, .cls "Ground", .cls "LeftRight", .glo "BadPoints", .glo "TooMany", .glo "Unlike", .glo "BadFormula"]
def faL2 : List He.Fa := [.glo "BadGround", .glo "BadName", .glo "BadNumber", .glo "BadProgram", .glo "BadScript", .glo "BadTable", .glo "Broken", .glo "Endless", .glo "Enough", .glo "Ground", .glo "LeftRight", .glo "NoSuch"]
def faL3 : List He.Fa := [.glo "NotLeast", .glo "NotLow", .glo "NotRight", .glo "NothingLeft", .glo "Refused", .glo "Stops", .glo "_first_unlike", .glo "_law_add", .glo "_law_asked", .glo "_law_bag", .glo "_law_base", .glo "_law_bent"]
def faL4 : List He.Fa := [.glo "_law_combined", .glo "_law_copied", .glo "_law_default", .glo "_law_dot", .glo "_law_draw", .glo "_law_dressed", .glo "_law_due", .glo "_law_fault", .glo "_law_first", .glo "_law_gcd", .glo "_law_int", .glo "_law_inv"]
def faL5 : List He.Fa := [.glo "_law_judged", .glo "_law_lagrange", .glo "_law_line", .glo "_law_made", .glo "_law_mixed", .glo "_law_mul", .glo "_law_neg", .glo "_law_num", .glo "_law_pick", .glo "_law_points", .glo "_law_powers", .glo "_law_refused"]
def faL6 : List He.Fa := [.glo "_law_row", .glo "_law_same", .glo "_law_small", .glo "_law_times", .glo "_law_unit", .glo "_law_zeros", .glo "blend", .glo "check_lengths", .glo "checked_points", .glo "default_points", .glo "dot", .glo "errs_window"]
def faL7 : List He.Fa := [.glo "inverse_modulo", .glo "is_odd_prime", .glo "lowest", .glo "one_of", .glo "powers_at", .glo "prime_of_line", .glo "rectangle", .glo "scaled", .glo "turn", .glo "unit_row", .glo "unsigned", .glo "value_rows"]
def faL8 : List He.Fa := [.glo "window", .glo "zero_of", .meth "Ground" "div", .meth "Ground" "mul", .meth "Ground" "number", .meth "Ground" "sub", .meth "LeftRight" "sizes", .meth "LeftRight" "tells", .meth "LeftRight" "triples", .mkr "Ground", .mkr "LeftRight", .noat "TooMany" "at"]
def faL9 : List He.Fa := [.noat "BadPoints" "at", .noat "Unlike" "at", .noat "TooMany" "code", .noat "BadPoints" "code", .noat "Unlike" "code", .noat "TooMany" "condition", .noat "BadPoints" "condition", .noat "Unlike" "condition", .noat "TooMany" "cost", .noat "BadPoints" "cost", .noat "Unlike" "cost", .noat "TooMany" "count"]
def faL10 : List He.Fa := [.noat "BadPoints" "count", .noat "Unlike" "count", .noat "TooMany" "line", .noat "BadPoints" "line", .noat "Unlike" "line", .noat "TooMany" "name", .noat "BadPoints" "name", .noat "Unlike" "name", .noat "TooMany" "place", .noat "BadPoints" "place", .noat "Unlike" "place", .noat "TooMany" "what"]
def faL11 : List He.Fa := [.noat "BadPoints" "what", .noat "Unlike" "what", .noat "TooMany" "where", .noat "BadPoints" "where", .noat "Unlike" "where", .noat "TooMany" "why", .noat "BadPoints" "why", .noat "Unlike" "why", .noat "Ground" "prime", .noat "Ground" "line", .noat "LeftRight" "ground", .noat "LeftRight" "_sizes"]
def faL12 : List He.Fa := [.noat "LeftRight" "_triples", .exm "TooMany" "Refused" true, .exm "BadPoints" "Refused" true, .exm "Unlike" "Refused" true, .glo "law"]
def faL : List He.Fa := faL0 ++ (faL1 ++ (faL2 ++ (faL3 ++ (faL4 ++ (faL5 ++ (faL6 ++ (faL7 ++ (faL8 ++ (faL9 ++ (faL10 ++ (faL11 ++ (faL12))))))))))))
def looseL0 : List Str := ["_wall", "Refused", "Missing", "Halted", "BadGround", "BadNumber", "BadTable", "BadProgram", "BadName", "BadFormula", "BadScript", "Broken"]
def looseL1 : List Str := ["Unlike", "NotRight", "NotLeast", "NotLow", "BadPoints", "TooMany", "NoSuch", "Stops", "Enough", "Endless", "NothingLeft", "is_odd_prime"]
def looseL2 : List Str := ["inverse_modulo", "MOST_DIGITS", "unsigned", "signed", "fraction", "GREATEST_PRIME", "prime_of_line", "Ground", "MOST_CHARACTERS", "DIGITS", "pieces_of", "line_at"]
def looseL3 : List Str := ["no_more", "small_number", "read_left_right", "_sizes_of", "_ground_of", "_triple_of", "zero_of", "one_of", "unit_row", "lowest", "dot", "blend"]
def looseL4 : List Str := ["scaled", "MOST_PRODUCTS", "MOST_SIZE", "LeftRight", "FAR", "value_rows", "turn", "default_points", "rectangle", "window", "check_lengths", "checked_points"]
def looseL5 : List Str := ["powers_at", "_first_unlike", "errs_window", "_law_bag", "_law_draw", "_law_pick", "_law_mixed", "_law_same", "_law_copied", "_law_gcd", "_law_num", "_law_int"]
def looseL6 : List Str := ["_law_add", "_law_mul", "_law_neg", "_law_inv", "_law_zeros", "_law_base", "_law_times", "_law_dot", "_law_combined", "_law_line", "_law_small", "_law_unit"]
def looseL7 : List Str := ["_law_row", "_law_points", "_law_powers", "_law_lagrange", "_law_dressed", "_law_fault", "_law_due", "_law_default", "_law_asked", "_law_first", "_law_bent", "_law_judged"]
def looseL8 : List Str := ["_law_refused", "_law_made"]
def looseL : List Str := looseL0 ++ (looseL1 ++ (looseL2 ++ (looseL3 ++ (looseL4 ++ (looseL5 ++ (looseL6 ++ (looseL7 ++ (looseL8))))))))
def exL (K : PySem.W.Frag) : Bool := 
  (oexB K (He.ga K "BadPoints")) && (
  (He.eqO (PySem.W.findIn K (.ref (He.ga K "BadPoints")) "__init__") (some (some (.ref (He.ma K (He.ga K "BadPoints") "__init__"))))) && (
  (decide (PySem.W.typeIn K (.ref (He.ma K (He.ga K "BadPoints") "__init__")) = some (.type "function"))) && (
  (oexB K (He.ga K "TooMany")) && (
  (He.eqO (PySem.W.findIn K (.ref (He.ga K "TooMany")) "__init__") (some (some (.ref (He.ma K (He.ga K "TooMany") "__init__"))))) && (
  (decide (PySem.W.typeIn K (.ref (He.ma K (He.ga K "TooMany") "__init__")) = some (.type "function"))) && (
  (oexB K (He.ga K "Unlike")) && (
  (He.eqO (PySem.W.findIn K (.ref (He.ga K "Unlike")) "__init__") (some (some (.ref (He.ma K (He.ga K "Unlike") "__init__"))))) && (
  (decide (PySem.W.typeIn K (.ref (He.ma K (He.ga K "Unlike") "__init__")) = some (.type "function"))) && (
  (He.eqO (PySem.W.nsIn K mainGlobals "gcd") (some (some (.builtin "math.gcd")))) && (
  (excB K (He.ga K "TooMany")) && (
  (excB K (He.ga K "BadPoints")) && (
  (excB K (He.ga K "Unlike")) && (
  (errL.all fun x => decide (PySem.W.kitOne K (.ref (He.ga K "TooMany")) (.ref (He.ga K x)) = some (decide (x = "TooMany")))) && (
  (errL.all fun x => decide (PySem.W.kitOne K (.ref (He.ga K "BadPoints")) (.ref (He.ga K x)) = some (decide (x = "BadPoints")))) && (
  (errL.all fun x => decide (PySem.W.kitOne K (.ref (He.ga K "Unlike")) (.ref (He.ga K x)) = some (decide (x = "Unlike")))) && (
  (decide (PySem.W.findIn K (.ref (He.ga K "LeftRight")) "__class__" = some (some (.builtin "object.__class__")))) && (
  (decide (PySem.W.specialIn K (.builtin "object.__class__") "__get__" = some (some (.builtin "getset_descriptor.__get__")))) && (
  (decide (PySem.W.takesIn K (.builtin "object.__class__") = some true)) && (
  (decide (PySem.W.mroIn K (He.ga K "LeftRight") (.type "object") = some true)) && (
  (decide (PySem.W.kitOne K (.ref (He.ga K "LeftRight")) (.ref (He.ga K "LeftRight")) = some true))))))))))))))))))))))
abbrev RL : PySem.W.OpenRow := PySem.W.OpenLaw.row PySem.Challenge.rw_twiceless_k82_windows
abbrev qL : Program := PySem.W.view RL.prog [0, 111]
abbrev hkL : PySem.W.Hook := hkP 4 faL fnL [("errs_window", none)] exL
def obL (s : PySem.W.SharedT) : He.AlX := obP 4 faL fnL [("errs_window", none)] exL (HandSHeadRun.getT s)
theorem obL_eq (s : PySem.W.SharedT) : obL s = hkL.obs s.abs := obP_eq s
theorem runA (w : World) : (RunW RL 20000 w).map (fun x => HandSHeadRun.looksF RL.prog x.1.heap x.2.abs) = some true := by
  kernel_rfl
theorem runB (w : World) : (RunW RL 20000 w).map (fun x => HandSHeadRun.seenQ qL looseL (PySem.importedModules RL.prog.main.body) (fun s => PySem.W.xlAt qL [] s && PySem.W.recOk RL.toRowW.records s) x.2.abs) = some (PySem.W.openGood qL looseL) := by
  kernel_rfl
theorem runC (w : World) : (RunW RL 20000 w).map (fun x => obL x.2) = some (hkL.val w) := by
  kernel_rfl
theorem runL (w : World) : HandSHeadRun.RunEqI RL qL hkL obL 20000 looseL w := run_split (runA w) (runB w) (runC w)
end TwW

set_option maxHeartbeats 4400000
/-! Plain: polynomials as lists over a commutative ring without divisors of nought; a polynomial of degree below n that is nought at n points is nought; interpolation. -/
namespace La
open Lean.Grind
section
variable {F : Type} [CommRing F]
def ev (x : F) : List F → F
  | [] => 0
  | a :: c => a + x * ev x c
/-- times (t - o), the coefficient ahead told -/
def linA (o : F) : F → List F → List F
  | v, [] => [v]
  | v, a :: c => (v + -o * a) :: linA o a c
def lin (o : F) (c : List F) : List F := linA o 0 c
theorem linA_length (o : F) : ∀ (c : List F) (v : F), (linA o v c).length = c.length + 1
  | [], v => rfl
  | a :: c, v => by
    show (linA o a c).length + 1 = _
    rw [linA_length o c a]; rfl
theorem ev_linA (x o : F) : ∀ (c : List F) (v : F), ev x (linA o v c) = v + (x - o) * ev x c
  | [], v => by
    show v + x * 0 = v + (x - o) * 0
    grind
  | a :: c, v => by
    show (v + -o * a) + x * ev x (linA o a c) = v + (x - o) * (a + x * ev x c)
    rw [ev_linA x o c a]
    grind
theorem ev_lin (x o : F) (c : List F) : ev x (lin o c) = (x - o) * ev x c := by
  unfold lin
  rw [ev_linA]
  grind
/-- what is left when (t - x) is divided out -/
def quo (x : F) : List F → List F
  | [] => []
  | _ :: [] => []
  | _ :: b :: c => ev x (b :: c) :: quo x (b :: c)
theorem quo_length (x : F) : ∀ (c : List F), (quo x c).length = c.length - 1
  | [] => rfl
  | [_] => rfl
  | _ :: b :: c => by
    show (quo x (b :: c)).length + 1 = _
    rw [quo_length x (b :: c)]
    simp
theorem ev_quo (x t : F) : ∀ (c : List F), ev t c = (t - x) * ev t (quo x c) + ev x c
  | [] => by
    show (0 : F) = (t - x) * 0 + 0
    grind
  | [a] => by
    show a + t * 0 = (t - x) * 0 + (a + x * 0)
    grind
  | a :: b :: c => by
    have ih := ev_quo x t (b :: c)
    show a + t * ev t (b :: c) = (t - x) * (ev x (b :: c) + t * ev t (quo x (b :: c))) + (a + x * ev x (b :: c))
    rw [ih]
    grind
theorem zero_of_quo (x : F) : ∀ (c : List F), (∀ a ∈ quo x c, a = 0) → ev x c = 0 → ∀ a ∈ c, a = 0
  | [], _, _, a, h => by cases h
  | [b], _, h, a, m => by
    have e : b + x * 0 = 0 := h
    rw [List.mem_singleton.mp m]
    grind
  | d :: b :: c, hq, h, a, m => by
    have h1 : ev x (b :: c) = 0 := hq _ List.mem_cons_self
    have ih := zero_of_quo x (b :: c) (fun y hy => hq y (List.mem_cons_of_mem _ hy)) h1
    have e : d + x * ev x (b :: c) = 0 := h
    rcases List.mem_cons.mp m with z | z
    · rw [z]
      rw [h1] at e
      grind
    · exact ih a z
/-- no divisors of nought -/
def NZ (F : Type) [CommRing F] : Prop := ∀ a b : F, a * b = 0 → a = 0 ∨ b = 0
theorem zero_of_roots (nz : NZ F) : ∀ (xs c : List F), xs.Nodup → (∀ x ∈ xs, ev x c = 0) → c.length ≤ xs.length → ∀ a ∈ c, a = 0
  | [], c, _, _, hl, a, m => by
    cases c with
    | nil => cases m
    | cons _ _ => simp at hl
  | x :: xs, c, nd, hr, hl, a, m => by
    have hx := hr x List.mem_cons_self
    have nd2 := List.nodup_cons.mp nd
    refine zero_of_quo x c (zero_of_roots nz xs (quo x c) nd2.2 (fun y hy => ?_) ?_) hx a m
    · have hy0 := hr y (List.mem_cons_of_mem _ hy)
      rw [ev_quo x y c, hx] at hy0
      have e : (y - x) * ev y (quo x c) = 0 := by grind
      rcases nz _ _ e with z | z
      · have : y = x := by grind
        exact absurd (this ▸ hy) nd2.1
      · exact z
    · rw [quo_length]
      simp only [List.length_cons] at hl
      omega
/-! ### sums of rows -/
def vadd (a b : List F) : List F := List.zipWith (· + ·) a b
def smul (s : F) (c : List F) : List F := c.map (s * ·)
theorem ev_vadd (x : F) : ∀ (a b : List F), a.length = b.length → ev x (vadd a b) = ev x a + ev x b
  | [], [], _ => by show (0 : F) = 0 + 0; grind
  | a :: as, b :: bs, h => by
    show (a + b) + x * ev x (vadd as bs) = (a + x * ev x as) + (b + x * ev x bs)
    rw [ev_vadd x as bs (by simpa using h)]
    grind
theorem ev_smul (x s : F) : ∀ (c : List F), ev x (smul s c) = s * ev x c
  | [] => by show (0 : F) = s * 0; grind
  | a :: c => by
    show s * a + x * ev x (smul s c) = s * (a + x * ev x c)
    rw [ev_smul x s c]
    grind
def zeros (z : Nat) : List F := List.replicate z 0
theorem ev_zeros (x : F) : ∀ z : Nat, ev x (zeros z) = 0
  | 0 => rfl
  | z + 1 => by
    show 0 + x * ev x (zeros z) = 0
    rw [ev_zeros x z]
    grind
theorem ev_append (x : F) : ∀ (a b : List F), (∀ y ∈ b, y = 0) → ev x (a ++ b) = ev x a
  | [], [], _ => rfl
  | [], b :: bs, h => by
    show b + x * ev x bs = 0
    rw [h b List.mem_cons_self]
    have ih := ev_append x [] bs fun y hy => h y (List.mem_cons_of_mem _ hy)
    have e : ev x bs = 0 := ih
    rw [e]
    grind
  | a :: as, b, h => by
    show a + x * ev x (as ++ b) = a + x * ev x as
    rw [ev_append x as b h]
/-- the rows' sum, each with its factor -/
def comb (z : Nat) : List (F × List F) → List F
  | [] => zeros z
  | (s, w) :: r => vadd (smul s w) (comb z r)
theorem comb_length (z : Nat) : ∀ (l : List (F × List F)), (∀ q ∈ l, q.2.length = z) → (comb z l).length = z
  | [], _ => List.length_replicate
  | (s, w) :: r, h => by
    show (vadd (smul s w) (comb z r)).length = z
    have h1 : w.length = z := h _ List.mem_cons_self
    unfold vadd smul
    rw [List.length_zipWith, List.length_map, h1, comb_length z r fun q hq => h q (List.mem_cons_of_mem _ hq)]
    simp
def sumF : List F → F
  | [] => 0
  | a :: r => a + sumF r
theorem ev_comb (x : F) (z : Nat) : ∀ (l : List (F × List F)), (∀ q ∈ l, q.2.length = z) → ev x (comb z l) = sumF (l.map fun q => q.1 * ev x q.2)
  | [], _ => ev_zeros x z
  | (s, w) :: r, h => by
    have h1 : w.length = z := h _ List.mem_cons_self
    have h2 := comb_length z r fun q hq => h q (List.mem_cons_of_mem _ hq)
    show ev x (vadd (smul s w) (comb z r)) = s * ev x w + sumF (r.map fun q => q.1 * ev x q.2)
    rw [ev_vadd x _ _ (by unfold smul; rw [List.length_map, h1, h2]), ev_smul, ev_comb x z r fun q hq => h q (List.mem_cons_of_mem _ hq)]
end
end La
/-! Plain: interpolation over points, one of which may be far. -/
namespace La
open Lean.Grind
section
variable {F : Type} [CommRing F] [DecidableEq F]
def polyA (c : List F) (os : List F) : List F := os.foldl (fun c o => lin o c) c
def polyOf (os : List F) : List F := polyA [1] os
def prodA (v x : F) (os : List F) : F := os.foldl (fun v o => v * (x - o)) v
theorem ev_polyA (x : F) : ∀ (os c : List F) (v : F), ev x c = v → ev x (polyA c os) = prodA v x os
  | [], c, v, h => h
  | o :: os, c, v, h => by
    show ev x (polyA (lin o c) os) = prodA (v * (x - o)) x os
    refine ev_polyA x os _ _ ?_
    rw [ev_lin, h]
    grind
theorem ev_polyOf (x : F) (os : List F) : ev x (polyOf os) = prodA 1 x os := ev_polyA x os [1] 1 (by show 1 + x * 0 = 1; grind)
theorem polyA_length : ∀ (os c : List F), (polyA c os).length = c.length + os.length
  | [], c => rfl
  | o :: os, c => by
    show (polyA (lin o c) os).length = _
    rw [polyA_length os]
    unfold lin
    rw [linA_length, List.length_cons]
    omega
theorem prodA_zero (x : F) : ∀ (os : List F) (v : F), (v = 0 ∨ x ∈ os) → prodA v x os = 0
  | [], v, h => by
    rcases h with h | h
    · exact h
    · cases h
  | o :: os, v, h => by
    show prodA (v * (x - o)) x os = 0
    refine prodA_zero x os _ ?_
    rcases h with h | h
    · left; rw [h]; grind
    · rcases List.mem_cons.mp h with z | z
      · left; rw [z]; grind
      · exact .inr z
theorem prodA_ne (nz : NZ F) (x : F) : ∀ (os : List F) (v : F), v ≠ 0 → x ∉ os → prodA v x os ≠ 0
  | [], v, h, _ => h
  | o :: os, v, h, n => by
    show prodA (v * (x - o)) x os ≠ 0
    refine prodA_ne nz x os _ (fun z => ?_) fun z => n (List.mem_cons_of_mem _ z)
    rcases nz _ _ z with z | z
    · exact h z
    · refine n ?_
      have : x = o := by grind
      rw [this]
      exact List.mem_cons_self
/-- the last coefficient -/
theorem last_linA (o : F) : ∀ (c : List F) (v d : F), (linA o v (c ++ [d])).getLast? = some d
  | [], v, d => by
    show ([v + -o * d, d] : List F).getLast? = some d
    rfl
  | a :: c, v, d => by
    show ((v + -o * a) :: linA o a (c ++ [d])).getLast? = some d
    rw [List.getLast?_cons, last_linA o c a d]
    rfl
theorem last_polyA : ∀ (os c : List F), c.getLast? = some 1 → (polyA c os).getLast? = some 1
  | [], c, h => h
  | o :: os, c, h => by
    refine last_polyA os (lin o c) ?_
    obtain ⟨c', rfl⟩ := List.getLast?_eq_some_iff.mp h
    exact last_linA o c' 0 1
def pad (z : Nat) (c : List F) : List F := c ++ zeros (z - c.length)
theorem pad_length {z : Nat} {c : List F} (h : c.length ≤ z) : (pad z c).length = z := by
  unfold pad zeros
  (rw [List.length_append, List.length_replicate])
  omega
theorem ev_pad (x : F) (z : Nat) (c : List F) : ev x (pad z c) = ev x c := ev_append x c _ fun y hy => (List.mem_replicate.mp hy).2
def base (z e : Nat) : List F := zeros e ++ 1 :: zeros (z - e - 1)
theorem base_length {z e : Nat} (h : e < z) : (base z e : List F).length = z := by
  unfold base zeros
  rw [List.length_append, List.length_cons, List.length_replicate, List.length_replicate]
  omega
theorem ev_base (x : F) (z : Nat) : ∀ e : Nat, ev x (zeros e ++ 1 :: zeros z) = x ^ e
  | 0 => by
    show 1 + x * ev x (zeros z) = x ^ 0
    rw [ev_zeros]
    grind
  | e + 1 => by
    show 0 + x * ev x (zeros e ++ 1 :: zeros z) = x ^ (e + 1)
    rw [ev_base x z e]
    grind
/-- a point's powers, none: the far one -/
def pw (z e : Nat) : Option F → F
  | some x => x ^ e
  | none => if e + 1 = z then 1 else 0
def fin (pts : List (Option F)) : List F := pts.filterMap id
def othersOf (x : F) (pts : List (Option F)) : List F := (fin pts).filter fun o => decide (o ≠ x)
/-- a point's row -/
def rowL (inv : F → F) (z : Nat) (pts : List (Option F)) : Option F → List F
  | some x => pad z (smul (inv (prodA 1 x (othersOf x pts))) (polyOf (othersOf x pts)))
  | none => pad z (smul (inv 1) (polyOf (fin pts)))
theorem sumF_one {α : Type} [DecidableEq α] (f : α → F) (q0 : α) : ∀ (l : List α), l.Nodup → q0 ∈ l → (∀ q ∈ l, q ≠ q0 → f q = 0) → sumF (l.map f) = f q0
  | q :: l, nd, m, h => by
    have nd2 := List.nodup_cons.mp nd
    have zero : ∀ (l : List α), (∀ q ∈ l, f q = 0) → sumF (l.map f) = 0 := fun l => by
      induction l with
      | nil => intro _; rfl
      | cons a l ih =>
        intro h
        show f a + sumF (l.map f) = 0
        rw [h a List.mem_cons_self, ih fun q hq => h q (List.mem_cons_of_mem _ hq)]
        grind
    show f q + sumF (l.map f) = f q0
    by_cases e : q = q0
    · rw [zero l fun y hy => h y (List.mem_cons_of_mem _ hy) fun z => nd2.1 (by rw [e, ← z]; exact hy), e]
      grind
    · rw [h q List.mem_cons_self e, sumF_one f q0 l nd2.2 ((List.mem_cons.mp m).resolve_left fun z => e z.symm) fun y hy => h y (List.mem_cons_of_mem _ hy)]
      grind
theorem get_comb (z i : Nat) (hi : i < z) : ∀ (l : List (F × List F)), (∀ q ∈ l, q.2.length = z) → (comb z l)[i]? = some (sumF (l.map fun q => q.1 * q.2.getD i 0))
  | [], _ => by
    show (List.replicate z (0 : F))[i]? = some 0
    rw [List.getElem?_replicate, if_pos hi]
  | (s, w) :: r, h => by
    have h1 : w.length = z := h _ List.mem_cons_self
    have ih := get_comb z i hi r fun q hq => h q (List.mem_cons_of_mem _ hq)
    show (List.zipWith (· + ·) (w.map (s * ·)) (comb z r))[i]? = some (s * w.getD i 0 + sumF (r.map fun q => q.1 * q.2.getD i 0))
    have hw : w[i]? = some (w.getD i 0) := by
      rw [List.getElem?_eq_getElem (by omega), List.getD_eq_getElem?_getD, List.getElem?_eq_getElem (by omega)]
      rfl
    rw [List.getElem?_zipWith, List.getElem?_map, hw, ih]
    rfl
end
end La
/-! Plain: the interpolation itself. -/
namespace La
open Lean.Grind
section
variable {F : Type} [CommRing F] [DecidableEq F]
theorem mem_fin {pts : List (Option F)} {x : F} : x ∈ fin pts ↔ some x ∈ pts := by
  unfold fin
  rw [List.mem_filterMap]
  constructor
  · rintro ⟨a, h, e⟩
    have e2 : a = some x := e
    rw [← e2]; exact h
  · exact fun h => ⟨_, h, rfl⟩
theorem fin_nodup : ∀ {pts : List (Option F)}, pts.Nodup → (fin pts).Nodup
  | [], _ => List.nodup_nil
  | none :: pts, nd => fin_nodup (pts := pts) (List.nodup_cons.mp nd).2
  | some x :: pts, nd => List.nodup_cons.mpr ⟨fun h => (List.nodup_cons.mp nd).1 (mem_fin.mp h), fin_nodup (pts := pts) (List.nodup_cons.mp nd).2⟩
theorem fin_length0 : ∀ {pts : List (Option F)}, none ∉ pts → (fin pts).length = pts.length
  | [], _ => rfl
  | none :: pts, h => absurd List.mem_cons_self h
  | some x :: pts, h => by
    show (fin pts).length + 1 = pts.length + 1
    rw [fin_length0 (pts := pts) fun z => h (List.mem_cons_of_mem _ z)]
theorem fin_length1 : ∀ {pts : List (Option F)}, pts.Nodup → none ∈ pts → (fin pts).length + 1 = pts.length
  | none :: pts, nd, _ => by
    show (fin pts).length + 1 = pts.length + 1
    rw [fin_length0 (pts := pts) (List.nodup_cons.mp nd).1]
  | some x :: pts, nd, h => by
    have h2 : none ∈ pts := (List.mem_cons.mp h).resolve_left fun z => nomatch z
    show (fin pts).length + 1 + 1 = pts.length + 1
    rw [fin_length1 (pts := pts) (List.nodup_cons.mp nd).2 h2]
theorem filter_ne_length (x : F) : ∀ {xs : List F}, xs.Nodup → x ∈ xs → (xs.filter fun o => decide (o ≠ x)).length + 1 = xs.length
  | a :: xs, nd, h => by
    have nd2 := List.nodup_cons.mp nd
    by_cases e : a = x
    · subst e
      rw [List.filter_cons_of_neg (by simp)]
      have all : ∀ y ∈ xs, (fun o => decide (o ≠ a)) y = true := fun y hy => decide_eq_true fun z => nd2.1 (z ▸ hy)
      rw [List.filter_eq_self.mpr all]
      rfl
    · rw [List.filter_cons_of_pos (by simpa using e), List.length_cons, filter_ne_length x nd2.2 ((List.mem_cons.mp h).resolve_left fun z => e z.symm)]
      rfl
theorem eq_of_sub : ∀ (a b : List F), a.length = b.length → (∀ y ∈ vadd a (smul (-1) b), y = 0) → a = b
  | [], [], _, _ => rfl
  | x :: a, y :: b, h, k => by
    have h1 : x + -1 * y = 0 := k _ List.mem_cons_self
    have e : x = y := by grind
    rw [e, eq_of_sub a b (by simpa using h) fun w hw => k w (List.mem_cons_of_mem _ hw)]
variable {inv : F → F} {pts : List (Option F)} {z e : Nat}
theorem othersOf_length (nd : pts.Nodup) {x : F} (h : some x ∈ pts) : (othersOf x pts).length + 1 = (fin pts).length := filter_ne_length x (fin_nodup nd) (mem_fin.mpr h)
theorem polyOf_length (os : List F) : (polyOf os).length = os.length + 1 := by
  unfold polyOf
  rw [polyA_length]
  show 1 + os.length = _
  omega
theorem fin_le (nd : pts.Nodup) : (fin pts).length ≤ pts.length := by
  by_cases h : none ∈ pts
  · have := fin_length1 nd h; omega
  · rw [fin_length0 h]; exact Nat.le_refl _
theorem rowL_length (nd : pts.Nodup) (hz : pts.length = z) : ∀ q ∈ pts, (rowL inv z pts q).length = z
  | some x, h => by
    refine pad_length ?_
    unfold smul
    have := othersOf_length nd h
    have := fin_le nd
    rw [List.length_map, polyOf_length]
    omega
  | none, h => by
    refine pad_length ?_
    unfold smul
    have := fin_length1 nd h
    rw [List.length_map, polyOf_length]
    omega
theorem ev_rowL (nz : NZ F) (one0 : (1 : F) ≠ 0) (hinv : ∀ a, a ≠ 0 → a * inv a = 1) {y : F} (hy : some y ∈ pts) : ∀ q ∈ pts, ev y (rowL inv z pts q) = if q = some y then 1 else 0
  | some x, h => by
    show ev y (pad z (smul (inv (prodA 1 x (othersOf x pts))) (polyOf (othersOf x pts)))) = _
    rw [ev_pad, ev_smul, ev_polyOf]
    have no : x ∉ othersOf x pts := fun m => of_decide_eq_true (List.mem_filter.mp m).2 rfl
    by_cases e : x = y
    · subst e
      rw [if_pos rfl]
      have := hinv _ (prodA_ne nz x (othersOf x pts) 1 one0 no)
      grind
    · rw [if_neg fun z => e (Option.some.inj z)]
      have m : y ∈ othersOf x pts := List.mem_filter.mpr ⟨mem_fin.mpr hy, decide_eq_true fun z => e z.symm⟩
      rw [prodA_zero y (othersOf x pts) 1 (.inr m)]
      grind
  | none, h => by
    show ev y (pad z (smul (inv 1) (polyOf (fin pts)))) = _
    rw [ev_pad, ev_smul, ev_polyOf, prodA_zero y (fin pts) 1 (.inr (mem_fin.mpr hy)), if_neg fun z => nomatch z]
    grind
theorem interp (nz : NZ F) (one0 : (1 : F) ≠ 0) (hinv : ∀ a, a ≠ 0 → a * inv a = 1) (nd : pts.Nodup) (hz : pts.length = z) (he : e < z) :
    comb z (pts.map fun q => (pw z e q, rowL inv z pts q)) = base z e := by
  have hl : ∀ q ∈ pts.map (fun q => (pw z e q, rowL inv z pts q)), q.2.length = z := fun q hq => by
    obtain ⟨a, ha, rfl⟩ := List.mem_map.mp hq
    exact rowL_length nd hz a ha
  have lc := comb_length z _ hl
  have lb : (base z e : List F).length = z := base_length he
  refine eq_of_sub _ _ (lc.trans lb.symm) ?_
  have ls : (smul (-1) (base z e) : List F).length = z := by unfold smul; rw [List.length_map, lb]
  have ld : (vadd (comb z (pts.map fun q => (pw z e q, rowL inv z pts q))) (smul (-1) (base z e))).length = z := by
    unfold vadd
    rw [List.length_zipWith, lc, ls]
    omega
  have hev : ∀ y ∈ fin pts, ev y (vadd (comb z (pts.map fun q => (pw z e q, rowL inv z pts q))) (smul (-1) (base z e))) = 0 := fun y hy => by
    have hy2 := mem_fin.mp hy
    rw [ev_vadd y _ _ (lc.trans ls.symm), ev_smul, ev_comb y z _ hl, List.map_map]
    have e1 : sumF (pts.map ((fun q : F × List F => q.1 * ev y q.2) ∘ fun q => (pw z e q, rowL inv z pts q))) = y ^ e := by
      rw [sumF_one _ (some y) pts nd hy2 fun q hq ne => ?_]
      · show pw z e (some y) * ev y (rowL inv z pts (some y)) = y ^ e
        rw [ev_rowL nz one0 hinv hy2 _ hy2, if_pos rfl]
        show y ^ e * 1 = y ^ e
        grind
      · show pw z e q * ev y (rowL inv z pts q) = 0
        rw [ev_rowL nz one0 hinv hy2 _ hq, if_neg ne]
        grind
    have e2 : ev y (base z e) = y ^ e := ev_base y (z - e - 1) e
    rw [e1, e2]
    grind
  generalize hD : vadd (comb z (pts.map fun q => (pw z e q, rowL inv z pts q))) (smul (-1) (base z e)) = D at ld hev
  by_cases far : none ∈ pts
  · have lf := fin_length1 nd far
    have inv1 : inv 1 = 1 := by
      have := hinv 1 one0
      grind
    have hz1 : z - 1 < z := by omega
    -- the last entry
    have last : D[z - 1]? = some 0 := by
      rw [← hD]
      unfold vadd
      rw [List.getElem?_zipWith, get_comb z (z - 1) hz1 _ hl, List.map_map]
      have e1 : sumF (pts.map ((fun q : F × List F => q.1 * q.2.getD (z - 1) 0) ∘ fun q => (pw z e q, rowL inv z pts q))) = pw z e none := by
        rw [sumF_one _ none pts nd far fun q hq ne => ?_]
        · show pw z e none * (pad z (smul (inv 1) (polyOf (fin pts)))).getD (z - 1) 0 = pw z e none
          have l1 : (smul (inv 1) (polyOf (fin pts))).length = z := by unfold smul; rw [List.length_map, polyOf_length]; omega
          have g : (polyOf (fin pts)).getLast? = some 1 := last_polyA (fin pts) [1] rfl
          rw [List.getLast?_eq_getElem?, polyOf_length] at g
          have hz2 : (fin pts).length + 1 - 1 = z - 1 := by omega
          rw [hz2] at g
          have g2 : (smul (inv 1) (polyOf (fin pts)))[z - 1]? = some (inv 1 * 1) := by
            unfold smul
            rw [List.getElem?_map, g]
            rfl
          have g3 : (pad z (smul (inv 1) (polyOf (fin pts)))).getD (z - 1) 0 = inv 1 * 1 := by
            unfold pad
            rw [List.getD_eq_getElem?_getD, List.getElem?_append_left (by omega), g2]
            rfl
          rw [g3, inv1]
          grind
        · cases q with
          | none => exact absurd rfl ne
          | some x =>
            show pw z e (some x) * (pad z (smul (inv (prodA 1 x (othersOf x pts))) (polyOf (othersOf x pts)))).getD (z - 1) 0 = 0
            have l1 : (smul (inv (prodA 1 x (othersOf x pts))) (polyOf (othersOf x pts))).length = z - 1 := by
              have := othersOf_length nd hq
              unfold smul
              rw [List.length_map, polyOf_length]
              omega
            have g3 : (pad z (smul (inv (prodA 1 x (othersOf x pts))) (polyOf (othersOf x pts)))).getD (z - 1) 0 = 0 := by
              unfold pad zeros
              rw [List.getD_eq_getElem?_getD, List.getElem?_append_right (by omega), List.getElem?_replicate]
              split <;> rfl
            rw [g3]
            grind
      have e2 : (smul (-1) (base z e : List F))[z - 1]? = some (-1 * pw z e (none : Option F)) := by
        unfold smul base zeros
        rw [List.getElem?_map]
        by_cases h : e + 1 = z
        · rw [List.getElem?_append_right (by rw [List.length_replicate]; omega), List.length_replicate]
          have : z - 1 - e = 0 := by omega
          rw [this]
          show some (-1 * (1 : F)) = some (-1 * (if e + 1 = z then 1 else 0))
          rw [if_pos h]
        · rw [List.getElem?_append_right (by rw [List.length_replicate]; omega), List.length_replicate]
          have h1 : z - 1 - e = (z - e - 2) + 1 := by omega
          rw [h1, List.getElem?_cons_succ, List.getElem?_replicate, if_pos (by omega)]
          show some (-1 * (0 : F)) = some (-1 * (if e + 1 = z then 1 else 0))
          rw [if_neg h]
      rw [e1, e2]
      show some (pw z e none + -1 * pw z e none) = some 0
      congr 1
      grind
    have hlast : D.getLast? = some 0 := by rw [List.getLast?_eq_getElem?, ld]; exact last
    obtain ⟨D', rfl⟩ := List.getLast?_eq_some_iff.mp hlast
    have ld2 : D'.length + 1 = z := by rw [List.length_append] at ld; exact ld
    have zero := zero_of_roots nz (fin pts) D' (fin_nodup nd) (fun y hy => by
      have := hev y hy
      rw [ev_append y D' [0] (fun w hw => List.mem_singleton.mp hw)] at this
      exact this) (by omega)
    intro y hy
    rcases List.mem_append.mp hy with h | h
    · exact zero y h
    · exact List.mem_singleton.mp h
  · have lf := fin_length0 far
    exact zero_of_roots nz (fin pts) D (fin_nodup nd) hev (by omega)
end
end La
namespace Tw
open PySem
/-! ## Plain numbers: rests and fractions -/
inductive Nu where
  | r (i : Int)
  | f (q : Rat)
/-- the data of a plain number -/
def Nu.d : Nu → PyData
  | .r i => .int i
  | .f q => .tuple [.int q.num, .int (q.den : Int)]
/-- it is one over the ground p (0: fractions) -/
def Nu.ok (p : Int) : Nu → Prop
  | .r i => 0 < p ∧ 0 ≤ i ∧ i < p
  | .f _ => p = 0
/-- its size: at most n bits, top and bottom -/
def Nu.le (n : Nat) : Nu → Prop
  | .r i => i.natAbs < 2 ^ n
  | .f q => q.num.natAbs < 2 ^ n ∧ q.den < 2 ^ n
def Nu.add (p : Int) : Nu → Nu → Nu
  | .r i, .r j => .r ((i + j) % p)
  | .f a, .f b => .f (a + b)
  | x, _ => x
def Nu.mul (p : Int) : Nu → Nu → Nu
  | .r i, .r j => .r (i * j % p)
  | .f a, .f b => .f (a * b)
  | x, _ => x
def ofInt (p k : Int) : Nu := if 0 < p then .r (k % p) else .f (k : Rat)
theorem Nu.le_mono {n m : Nat} (h : n ≤ m) : ∀ {x : Nu}, x.le n → x.le m
  | .r _, k => Nat.lt_of_lt_of_le k (Nat.pow_le_pow_right (by decide) h)
  | .f _, k => ⟨Nat.lt_of_lt_of_le k.1 (Nat.pow_le_pow_right (by decide) h), Nat.lt_of_lt_of_le k.2 (Nat.pow_le_pow_right (by decide) h)⟩
theorem pow2_pos (n : Nat) : 0 < 2 ^ n := Nat.pow_pos (by decide)
theorem lt_pow_mul {a b n m : Nat} (ha : a < 2 ^ n) (hb : b < 2 ^ m) : a * b < 2 ^ (n + m) := by
  rw [Nat.pow_add]
  exact Nat.mul_lt_mul'' ha hb
theorem lt_pow_add {a b n : Nat} (ha : a < 2 ^ n) (hb : b < 2 ^ n) : a + b < 2 ^ (n + 1) := by
  rw [Nat.pow_succ]
  omega
/-- the lowest terms of t / b, for a positive bottom -/
theorem frac_num (t b : Int) (hb : 0 < b) : (Rat.divInt t b).num = t / ((Nat.gcd t.natAbs b.natAbs : Nat) : Int) := by
  rw [Rat.num_divInt, Int.sign_eq_one_of_pos hb, Int.one_mul, Int.gcd, Nat.gcd_comm]
theorem frac_den (t b : Int) (hb : 0 < b) : ((Rat.divInt t b).den : Int) = b / ((Nat.gcd t.natAbs b.natAbs : Nat) : Int) := by
  rw [Rat.den_divInt, if_neg (by omega), Int.gcd, Nat.gcd_comm b.natAbs, Int.natCast_ediv, Int.natAbs_of_nonneg (by omega)]
theorem frac_num_le (t b : Int) (hb : 0 < b) : (Rat.divInt t b).num.natAbs ≤ t.natAbs := by
  rw [frac_num t b hb]
  exact Int.natAbs_ediv_le_natAbs _ _
theorem frac_den_le (t b : Int) (hb : 0 < b) : (Rat.divInt t b).den ≤ b.natAbs := by
  have h := frac_den t b hb
  have e : ((Rat.divInt t b).den : Int) = ((b.natAbs / Nat.gcd t.natAbs b.natAbs : Nat) : Int) := by
    rw [h, Int.natCast_ediv, Int.natAbs_of_nonneg (by omega)]
  rw [Int.ofNat.inj e]
  exact Nat.div_le_self _ _
theorem add_frac (a b : Rat) : a + b = Rat.divInt (a.num * (b.den : Int) + b.num * (a.den : Int)) ((a.den : Int) * (b.den : Int)) := by
  have ha : (a.den : Int) ≠ 0 := by have := a.den_pos; omega
  have hb : (b.den : Int) ≠ 0 := by have := b.den_pos; omega
  rw [← Rat.divInt_add_divInt _ _ ha hb, Rat.num_divInt_den, Rat.num_divInt_den]
theorem mul_frac (a b : Rat) : a * b = Rat.divInt (a.num * b.num) ((a.den : Int) * (b.den : Int)) := by
  rw [← Rat.divInt_mul_divInt, Rat.num_divInt_den, Rat.num_divInt_den]
theorem den_pos' (a : Rat) : 0 < (a.den : Int) := by have := a.den_pos; omega
theorem den_mul_pos (a b : Rat) : 0 < (a.den : Int) * (b.den : Int) := Int.mul_pos (den_pos' a) (den_pos' b)
theorem emod_le {a p : Int} (ha : 0 ≤ a) (hp : 0 < p) : a % p ≤ a := by
  have h := Int.mul_ediv_add_emod a p
  have h2 : 0 ≤ p * (a / p) := Int.mul_nonneg (by omega) (Int.ediv_nonneg ha (by omega))
  omega
theorem Nu.add_le {p : Int} {n m : Nat} : ∀ {x y : Nu}, x.ok p → y.ok p → x.le n → y.le m → (Nu.add p x y).le (n + m + 1)
  | .r i, .r j, hx, hy, kx, ky => by
    have h1 : i.natAbs < 2 ^ (n + m) := Nat.lt_of_lt_of_le kx (Nat.pow_le_pow_right (by decide) (by omega))
    have h2 : j.natAbs < 2 ^ (n + m) := Nat.lt_of_lt_of_le ky (Nat.pow_le_pow_right (by decide) (by omega))
    have h3 := lt_pow_add h1 h2
    obtain ⟨hp, i0, _⟩ := hx
    obtain ⟨_, j0, _⟩ := hy
    show ((i + j) % p).natAbs < _
    have h4 : (i + j) % p ≤ i + j := emod_le (by omega) hp
    have h5 : 0 ≤ (i + j) % p := Int.emod_nonneg _ (by omega)
    omega
  | .f a, .f b, _, _, ⟨k1, k2⟩, ⟨l1, l2⟩ => by
    show (a + b).num.natAbs < _ ∧ (a + b).den < _
    rw [add_frac]
    have h := den_mul_pos a b
    have e1 := frac_num_le (a.num * (b.den : Int) + b.num * (a.den : Int)) _ h
    have e2 := frac_den_le (a.num * (b.den : Int) + b.num * (a.den : Int)) _ h
    have z1 : (a.num * (b.den : Int)).natAbs < 2 ^ (n + m) := by rw [Int.natAbs_mul]; exact lt_pow_mul k1 l2
    have z2 : (b.num * (a.den : Int)).natAbs < 2 ^ (n + m) := by rw [Int.natAbs_mul, Nat.add_comm]; exact lt_pow_mul l1 k2
    have z3 : ((a.den : Int) * (b.den : Int)).natAbs < 2 ^ (n + m) := by rw [Int.natAbs_mul]; exact lt_pow_mul k2 l2
    have z4 := lt_pow_add z1 z2
    have z5 := pow2_pos (n + m)
    have z6 : 2 ^ (n + m + 1) = 2 ^ (n + m) * 2 := Nat.pow_succ ..
    omega
  | .r _, .f _, hx, hy, _, _ => by
    have h1 : 0 < p := hx.1
    have h2 : p = 0 := hy
    omega
  | .f _, .r _, hx, hy, _, _ => by
    have h1 : 0 < p := hy.1
    have h2 : p = 0 := hx
    omega
theorem Nu.mul_le {p : Int} {n m : Nat} : ∀ {x y : Nu}, x.ok p → y.ok p → x.le n → y.le m → (Nu.mul p x y).le (n + m)
  | .r i, .r j, hx, hy, kx, ky => by
    have h3 : (i * j).natAbs < 2 ^ (n + m) := by rw [Int.natAbs_mul]; exact lt_pow_mul kx ky
    obtain ⟨hp, i0, _⟩ := hx
    obtain ⟨_, j0, _⟩ := hy
    show (i * j % p).natAbs < _
    have h4 : i * j % p ≤ i * j := emod_le (Int.mul_nonneg i0 j0) hp
    have h5 : 0 ≤ i * j % p := Int.emod_nonneg _ (by omega)
    omega
  | .f a, .f b, _, _, ⟨k1, k2⟩, ⟨l1, l2⟩ => by
    show (a * b).num.natAbs < _ ∧ (a * b).den < _
    rw [mul_frac]
    have h := den_mul_pos a b
    have e1 := frac_num_le (a.num * b.num) _ h
    have e2 := frac_den_le (a.num * b.num) _ h
    have z1 : (a.num * b.num).natAbs < 2 ^ (n + m) := by rw [Int.natAbs_mul]; exact lt_pow_mul k1 l1
    have z3 : ((a.den : Int) * (b.den : Int)).natAbs < 2 ^ (n + m) := by rw [Int.natAbs_mul]; exact lt_pow_mul k2 l2
    omega
  | .r _, .f _, hx, hy, _, _ => by
    have h1 : 0 < p := hx.1
    have h2 : p = 0 := hy
    omega
  | .f _, .r _, hx, hy, _, _ => by
    have h1 : 0 < p := hy.1
    have h2 : p = 0 := hx
    omega
theorem Nu.add_ok {p : Int} : ∀ {x y : Nu}, x.ok p → y.ok p → (Nu.add p x y).ok p
  | .r i, .r j, hx, _ => ⟨hx.1, Int.emod_nonneg _ (by have := hx.1; omega), Int.emod_lt_of_pos _ hx.1⟩
  | .f _, .f _, hx, _ => hx
  | .r _, .f _, hx, _ => hx
  | .f _, .r _, hx, _ => hx
theorem Nu.mul_ok {p : Int} : ∀ {x y : Nu}, x.ok p → y.ok p → (Nu.mul p x y).ok p
  | .r i, .r j, hx, _ => ⟨hx.1, Int.emod_nonneg _ (by have := hx.1; omega), Int.emod_lt_of_pos _ hx.1⟩
  | .f _, .f _, hx, _ => hx
  | .r _, .f _, hx, _ => hx
  | .f _, .r _, hx, _ => hx
theorem ofInt_ok {p k : Int} (hp : 0 ≤ p) : (ofInt p k).ok p := by
  unfold ofInt
  by_cases h : 0 < p
  · rw [if_pos h]; exact ⟨h, Int.emod_nonneg _ (by omega), Int.emod_lt_of_pos _ h⟩
  · rw [if_neg h]; show p = 0; omega
theorem Nu.ok_r {p : Int} (hp : 0 < p) : ∀ {x : Nu}, x.ok p → ∃ i, x = .r i ∧ 0 ≤ i ∧ i < p
  | .r i, h => ⟨i, rfl, h.2⟩
  | .f _, h => by have : p = 0 := h; omega
theorem Nu.ok_f {p : Int} (hp : p = 0) : ∀ {x : Nu}, x.ok p → ∃ q, x = .f q
  | .r i, h => by have := h.1; omega
  | .f q, _ => ⟨q, rfl⟩
/-! ### gcd, by its loop -/
theorem gcd_step (a b : Nat) (hb : 0 < b) : Nat.gcd b (a % b) = Nat.gcd a b := by
  rw [Nat.gcd_comm, ← Nat.gcd_rec, Nat.gcd_comm]
end Tw
namespace Tw
open PySem PySem.Spec PyProof.Rows L2 Evl RZ
/-! ## Data in the heap -/
mutual
inductive Dx (H : Hp) : V → PyData → Prop
  | non : Dx H .non .none
  | bl (b : Bool) : Dx H (.bl b) (.bool b)
  | int (i : Int) : Dx H (.int i) (.int i)
  | str (x : Str) : Dx H (.str x) (.str x)
  | lst {a : Addr} {xs : List V} {ds : List PyData} : H a = some (.lst xs) → DxA H xs ds → Dx H (.ref a) (.list ds)
  | tup {a : Addr} {xs : List V} {ds : List PyData} : H a = some (.tup xs) → DxA H xs ds → Dx H (.ref a) (.tuple ds)
inductive DxA (H : Hp) : List V → List PyData → Prop
  | nil : DxA H [] []
  | cons {v : V} {vs : List V} {d : PyData} {ds : List PyData} : Dx H v d → DxA H vs ds → DxA H (v :: vs) (d :: ds)
end
mutual
theorem Dx.ex {H H' : Hp} (e : Ex H H') : ∀ (d : PyData) {v : V}, Dx H v d → Dx H' v d
  | .none, _, .non => .non
  | .bool _, _, .bl b => .bl b
  | .int _, _, .int i => .int i
  | .str _, _, .str x => .str x
  | .list ds, _, .lst h r => .lst (e _ _ h) (DxA.ex e ds r)
  | .tuple ds, _, .tup h r => .tup (e _ _ h) (DxA.ex e ds r)
theorem DxA.ex {H H' : Hp} (e : Ex H H') : ∀ (ds : List PyData) {vs : List V}, DxA H vs ds → DxA H' vs ds
  | [], _, .nil => .nil
  | d :: ds, _, .cons h r => .cons (Dx.ex e d h) (DxA.ex e ds r)
end
theorem Dx.mono {H H' : Hp} {d : PyData} {v : V} (h : Dx H v d) (e : Ex H H') : Dx H' v d := h.ex e d
theorem DxA.mono {H H' : Hp} {ds : List PyData} {vs : List V} (h : DxA H vs ds) (e : Ex H H') : DxA H' vs ds := h.ex e ds
theorem DxA.length {H : Hp} : ∀ {vs : List V} {ds : List PyData}, DxA H vs ds → vs.length = ds.length
  | _, _, .nil => rfl
  | _, _, .cons _ r => by rw [List.length_cons, List.length_cons, r.length]
theorem DxA.append {H : Hp} : ∀ {vs ws : List V} {ds es : List PyData}, DxA H vs ds → DxA H ws es → DxA H (vs ++ ws) (ds ++ es)
  | _, _, _, _, .nil, s => s
  | _, _, _, _, .cons h r, s => .cons h (r.append s)
theorem DxA.get {H : Hp} : ∀ {vs : List V} {ds : List PyData} {i : Nat} {v : V}, DxA H vs ds → vs[i]? = some v → ∃ d, ds[i]? = some d ∧ Dx H v d
  | _, _, 0, _, .cons h _, e => by
    have e' := Option.some.inj e
    subst e'
    exact ⟨_, rfl, h⟩
  | _, _, i + 1, _, .cons _ r, e => by
    obtain ⟨d, h1, h2⟩ := DxA.get (i := i) r (by simpa using e)
    exact ⟨d, by simpa using h1, h2⟩
theorem DxA.get' {H : Hp} {vs : List V} {ds : List PyData} {i : Nat} {d : PyData} (h : DxA H vs ds) (e : ds[i]? = some d) : ∃ v, vs[i]? = some v ∧ Dx H v d := by
  have hi : i < vs.length := by
    rw [h.length]
    exact ((List.getElem?_eq_some_iff.mp e).1)
  obtain ⟨d', e', hx⟩ := h.get (i := i) (v := vs[i]) (List.getElem?_eq_getElem hi)
  rw [e] at e'
  cases e'
  exact ⟨vs[i], List.getElem?_eq_getElem hi, hx⟩
theorem DxA.take {H : Hp} (n : Nat) : ∀ {vs : List V} {ds : List PyData}, DxA H vs ds → DxA H (vs.take n) (ds.take n) := by
  induction n with
  | zero => intro vs ds h; exact .nil
  | succ n ih =>
    intro vs ds h
    cases h with
    | nil => exact .nil
    | cons h1 r1 => exact .cons h1 (ih r1)
theorem DxA.drop {H : Hp} (n : Nat) : ∀ {vs : List V} {ds : List PyData}, DxA H vs ds → DxA H (vs.drop n) (ds.drop n) := by
  induction n with
  | zero => intro vs ds h; exact h
  | succ n ih =>
    intro vs ds h
    cases h with
    | nil => exact .nil
    | cons h r => exact ih r
mutual
theorem Dx.dp {K : PySem.W.Frag} {H : Hp} : ∀ (d : PyData) {v : V}, Dx H v d → Dp K H v d
  | .none, _, .non => .non
  | .bool _, _, .bl b => .bl b
  | .int _, _, .int i => .int i
  | .str _, _, .str x => .str x
  | .list ds, _, .lst h r => .lst (SqL.of h) (DxA.dp ds r)
  | .tuple ds, _, .tup h r => .tup (SqT.of h) (DxA.dp ds r)
theorem DxA.dp {K : PySem.W.Frag} {H : Hp} : ∀ (ds : List PyData) {vs : List V}, DxA H vs ds → DpAll K H vs ds
  | [], _, .nil => .nil
  | d :: ds, _, .cons h r => .cons (Dx.dp d h) (DxA.dp ds r)
end
/-- what is solid behind: G, and what is new since H -/
def grow (G H H2 : Hp) : Hp := fun a => match H a with
  | none => H2 a
  | some _ => G a
theorem grow_new {G H H2 : Hp} {a : Addr} {o : HO} (h : H a = none) (h2 : H2 a = some o) : grow G H H2 a = some o := by
  unfold grow; rw [h]; exact h2
theorem grow_old {G H H2 : Hp} {a : Addr} {o : HO} (h : H a = some o) : grow G H H2 a = G a := by
  unfold grow; rw [h]
theorem grow_ex {G H H2 : Hp} (e : Ex G H) : Ex G (grow G H H2) := fun a o h => by rw [grow_old (e a o h)]; exact h
theorem grow_in {G H H2 : Hp} (e : Ex G H2) : Ex (grow G H H2) H2 := fun a o h => by
  cases q : H a with
  | none => unfold grow at h; rw [q] at h; exact h
  | some u => rw [grow_old q] at h; exact e a o h
/-- two steps are one; H1 keeps H's places, H2 what is new in H1 -/
theorem grow_grow {G H H1 H2 : Hp} (e1 : ∀ a o, H a = some o → ∃ u, H1 a = some u) (e2 : ∀ a o, H a = none → H1 a = some o → H2 a = some o) : grow (grow G H H1) H1 H2 = grow G H H2 := by
  funext a
  cases q : H a with
  | some u =>
    obtain ⟨u', q1⟩ := e1 a u q
    rw [grow_old q1, grow_old q, grow_old q]
  | none =>
    cases q1 : H1 a with
    | none => unfold grow; rw [q, q1]
    | some u =>
      rw [grow_old q1, grow_new q q1, grow_new q (e2 a u q q1)]
theorem grow_ex2 {G H H1 H2 : Hp} (e1 : Ex H H1) (e2 : Ex H1 H2) : grow (grow G H H1) H1 H2 = grow G H H2 := grow_grow (fun a o h => ⟨o, e1 a o h⟩) fun a o _ h => e2 a o h
theorem grow_mono {G G' H H2 H3 : Hp} (g : Ex G G') (e : Ex H2 H3) : Ex (grow G H H2) (grow G' H H3) := fun a o h => by
  cases q : H a with
  | none => rw [grow_new q (e a o (by unfold grow at h; rw [q] at h; exact h))]
  | some u => rw [grow_old q] at h ⊢; exact g a o h
/-- data handed back (solid: of what was solid, or new), all that was tracked kept -/
def RetD (d : PyData) (G H : Hp) (Q : VK) : Prop := ∀ v H2, Ex H H2 → Dx (grow G H H2) v d → Q v H2
theorem RetD.go {d : PyData} {G H H1 : Hp} {Q : VK} (q : RetD d G H Q) (e : Ex H H1) : RetD d (grow G H H1) H1 Q := fun v H2 e2 h => q v H2 (e.trans e2) (by rw [← grow_ex2 e e2]; exact h)
theorem RetD.int {i : Int} {G H : Hp} {Q : VK} (q : RetD (.int i) G H Q) : Q (.int i) H := q _ _ (Ex.refl _) (.int _)
theorem RetD.weak {d : PyData} {G G' H : Hp} {Q : VK} (q : RetD d G' H Q) (e : Ex G G') : RetD d G H Q := fun v H2 e2 h => q v H2 e2 (h.mono (grow_mono e (Ex.refl _)))
/-- inversions -/
theorem Dx.int_inv {H : Hp} {v : V} {i : Int} (h : Dx H v (.int i)) : v = .int i := by cases h; rfl
theorem Dx.str_inv {H : Hp} {v : V} {i : Str} (h : Dx H v (.str i)) : v = .str i := by cases h; rfl
theorem Dx.tup_inv {H : Hp} {v : V} {ds : List PyData} (h : Dx H v (.tuple ds)) : ∃ a xs, v = .ref a ∧ H a = some (.tup xs) ∧ DxA H xs ds := by
  cases h with
  | tup h r => exact ⟨_, _, rfl, h, r⟩
theorem Dx.lst_inv {H : Hp} {v : V} {ds : List PyData} (h : Dx H v (.list ds)) : ∃ a xs, v = .ref a ∧ H a = some (.lst xs) ∧ DxA H xs ds := by
  cases h with
  | lst h r => exact ⟨_, _, rfl, h, r⟩
theorem DxA.two_int {H : Hp} {xs : List V} {i j : Int} (h : DxA H xs [.int i, .int j]) : xs = [.int i, .int j] := by
  cases h with
  | cons a r =>
    cases r with
    | cons b r =>
      cases r
      rw [a.int_inv, b.int_inv]
theorem Dx.frac_inv {H : Hp} {v : V} {q : Rat} (h : Dx H v (Nu.f q).d) : ∃ a, v = .ref a ∧ H a = some (.tup [.int q.num, .int (q.den : Int)]) := by
  obtain ⟨a, xs, e, ha, r⟩ := Dx.tup_inv h
  rw [r.two_int] at ha
  exact ⟨a, e, ha⟩
theorem Dx.frac {H : Hp} {a : Addr} {t b : Int} {q : Rat} (h : H a = some (.tup [.int t, .int b])) (ht : t = q.num) (hb : b = (q.den : Int)) : Dx H (.ref a) (Nu.f q).d := by
  subst ht hb
  exact .tup h (.cons (.int _) (.cons (.int _) .nil))
/-! ### what isinstance says of data -/
inductive Ty5 where | list | tuple | int | bool | str
def tyOf : PyData → String
  | .none => "NoneType"
  | .bool _ => "bool"
  | .int _ => "int"
  | .str _ => "str"
  | .list _ => "list"
  | .tuple _ => "tuple"
  | .dict _ => "dict"
def Ty5.name : Ty5 → String
  | .list => "list"
  | .tuple => "tuple"
  | .int => "int"
  | .bool => "bool"
  | .str => "str"
def isB : PyData → Ty5 → Bool
  | .list _, .list => true
  | .tuple _, .tuple => true
  | .int _, .int => true
  | .bool _, .bool => true
  | .bool _, .int => true
  | .str _, .str => true
  | _, _ => false
theorem kit_is {K : PySem.W.Frag} {H : Hp} {v : V} : ∀ {d : PyData} (_ : Dx H v d) (t : Ty5), kitB (tyOf d) t.name = some (isB d t)
  | .none, _, .list => by decide +kernel
  | .none, _, .tuple => by decide +kernel
  | .none, _, .int => by decide +kernel
  | .none, _, .bool => by decide +kernel
  | .none, _, .str => by decide +kernel
  | .bool _, _, .list => by show kitB "bool" "list" = some false; decide +kernel
  | .bool _, _, .tuple => by show kitB "bool" "tuple" = some false; decide +kernel
  | .bool _, _, .int => by show kitB "bool" "int" = some true; decide +kernel
  | .bool _, _, .bool => by show kitB "bool" "bool" = some true; decide +kernel
  | .bool _, _, .str => by show kitB "bool" "str" = some false; decide +kernel
  | .int _, _, .list => by show kitB "int" "list" = some false; decide +kernel
  | .int _, _, .tuple => by show kitB "int" "tuple" = some false; decide +kernel
  | .int _, _, .int => by show kitB "int" "int" = some true; decide +kernel
  | .int _, _, .bool => by show kitB "int" "bool" = some false; decide +kernel
  | .int _, _, .str => by show kitB "int" "str" = some false; decide +kernel
  | .str _, _, .list => by show kitB "str" "list" = some false; decide +kernel
  | .str _, _, .tuple => by show kitB "str" "tuple" = some false; decide +kernel
  | .str _, _, .int => by show kitB "str" "int" = some false; decide +kernel
  | .str _, _, .bool => by show kitB "str" "bool" = some false; decide +kernel
  | .str _, _, .str => by show kitB "str" "str" = some true; decide +kernel
  | .list _, _, .list => by show kitB "list" "list" = some true; decide +kernel
  | .list _, _, .tuple => by show kitB "list" "tuple" = some false; decide +kernel
  | .list _, _, .int => by show kitB "list" "int" = some false; decide +kernel
  | .list _, _, .bool => by show kitB "list" "bool" = some false; decide +kernel
  | .list _, _, .str => by show kitB "list" "str" = some false; decide +kernel
  | .tuple _, _, .list => by show kitB "tuple" "list" = some false; decide +kernel
  | .tuple _, _, .tuple => by show kitB "tuple" "tuple" = some true; decide +kernel
  | .tuple _, _, .int => by show kitB "tuple" "int" = some false; decide +kernel
  | .tuple _, _, .bool => by show kitB "tuple" "bool" = some false; decide +kernel
  | .tuple _, _, .str => by show kitB "tuple" "str" = some false; decide +kernel
theorem Dx.ty {K : PySem.W.Frag} {H : Hp} {v : V} : ∀ {d : PyData}, Dx H v d → TyX K H v (.type (tyOf d))
  | .none, .non => .base .non
  | .bool _, .bl b => .base (.bl b)
  | .int _, .int i => .base (.int i)
  | .str _, .str x => .base (.str x)
  | .list _, .lst h _ => .base (.lst h)
  | .tuple _, .tup h _ => .base (.tup h)
section
variable {K : PySem.W.Frag} {H : Hp} {Q : VK} {v : V} {d : PyData}
theorem c_isiD (t : Ty5) (h : Dx H v d) (q : Q (.bl (isB d t)) H) : uIsi K [v, .ty t.name] H Q := c_isi (.ty _) h.ty (kit_ty (kit_is (K := K) h t)) q
theorem c_isi_list (h : Dx H v d) (q : Q (.bl (isB d .list)) H) : uIsi K [v, .ty "list"] H Q := c_isiD .list h q
theorem c_isi_tuple (h : Dx H v d) (q : Q (.bl (isB d .tuple)) H) : uIsi K [v, .ty "tuple"] H Q := c_isiD .tuple h q
theorem c_isi_int (h : Dx H v d) (q : Q (.bl (isB d .int)) H) : uIsi K [v, .ty "int"] H Q := c_isiD .int h q
theorem c_isi_bool (h : Dx H v d) (q : Q (.bl (isB d .bool)) H) : uIsi K [v, .ty "bool"] H Q := c_isiD .bool h q
theorem c_isi_str (h : Dx H v d) (q : Q (.bl (isB d .str)) H) : uIsi K [v, .ty "str"] H Q := c_isiD .str h q
theorem c_eqD {w : V} {e : PyData} (h : Dx H v d) (h' : Dx H w e) (s : SeqAt.shaped d = true) (s' : SeqAt.shaped e = true) (q : Q (.bl (PyData.eqv d e)) H) : uEq K v w H Q := .inr ⟨d, e, Dx.dp d h, Dx.dp e h', s, s', q⟩
theorem c_neD {w : V} {e : PyData} (h : Dx H v d) (h' : Dx H w e) (s : SeqAt.shaped d = true) (s' : SeqAt.shaped e = true) (q : Q (.bl (!PyData.eqv d e)) H) : uNe K v w H Q := .inr ⟨d, e, Dx.dp d h, Dx.dp e h', s, s', q⟩
end
end Tw
/-! ### the step tactic (local rows: they stand once in the text that is handed in) -/
local macro_rules | `(tactic| walk_at "look") => `(tactic| first
  | assumption
  | with_reducible exact L2.upd_same
  | with_reducible refine Evl.Ex.new (by assumption) _ _ (by walk_at "look")
  | with_reducible refine (L2.upd_ne (by first | assumption | exact Ne.symm (by assumption))).trans (by walk_at "look")
  | with_reducible exact Tw.ex_app (by assumption) (by assumption)
  | with_reducible exact Tw.ex_app (by assumption) (Tw.ex_app (by assumption) (by assumption)))
local macro_rules | `(tactic| walk_at "sql") => `(tactic| first
  | assumption
  | exact L2.SqL.of (by walk_at "look")
  | exact L2.SqT.of (by walk_at "look"))
local macro_rules | `(tactic| walk_at "num") => `(tactic| first | omega | decide)
local macro_rules | `(tactic| walk_at "ati") => `(tactic| first
  | exact rfl
  | assumption
  | exact L2.atI_nat (by first | assumption | exact rfl))
local macro_rules | `(tactic| walk_at "mulok") => `(tactic| first
  | assumption
  | exact Or.inl (Or.inl ⟨by omega, by omega⟩)
  | exact Or.inl (Or.inr ⟨by omega, by omega⟩)
  | exact Or.inl (by assumption)
  | exact Or.inr (by assumption))
local macro_rules | `(tactic| walk_at "divok") => `(tactic| first
  | assumption
  | exact ⟨by omega, by decide⟩)
local macro_rules | `(tactic| walk_at "yes") => `(tactic| first
  | exact rfl
  | exact decide_eq_true (by omega)
  | (rw [decide_eq_true (by omega)]; exact rfl)
  | (rw [decide_eq_false (by omega)]; exact rfl))
local macro_rules | `(tactic| walk_at "no") => `(tactic| first
  | exact rfl
  | exact decide_eq_false (by omega)
  | (rw [decide_eq_true (by omega)]; exact rfl)
  | (rw [decide_eq_false (by omega)]; exact rfl))
local macro_rules | `(tactic| walk_at "tw1") => `(tactic| first
  | ((with_reducible show L2.tVar _ _ _ _); refine Tw.c_var (by exact rfl) ?_)
  | with_reducible refine Tw.c_c ?_
  | with_reducible refine Tw.c_op ?_
  | with_reducible refine Tw.c_un ?_
  | with_reducible refine Tw.c_cb ?_
  | with_reducible refine Tw.c_cons ?_
  | with_reducible refine Tw.c_nil ?_
  | with_reducible refine Tw.c_seq ?_
  | with_reducible refine Tw.c_asg ?_
  | with_reducible refine Tw.c_name ?_
  | with_reducible refine Tw.c_sub ?_
  | with_reducible refine Tw.c_ifS ?_
  | with_reducible refine Tw.c_ret ?_
  | with_reducible refine Tw.c_next ?_
  | with_reducible refine Tw.c_drop ?_
  | with_reducible refine Tw.c_par ?_
  | with_reducible refine Tw.c_par3 ?_
  | with_reducible refine Tw.c_vw ?_
  | with_reducible refine Tw.c_uvw ?_
  | with_reducible refine Tw.c_test ?_
  | with_reducible refine Tw.c_B ?_
  | with_reducible refine Tw.c_bl ?_
  | with_reducible refine Tw.c_not ?_
  | with_reducible refine Tw.c_and ?_
  | with_reducible refine Tw.c_or ?_
  | with_reducible refine Tw.c_andV ?_
  | with_reducible refine Tw.c_orV ?_
  | with_reducible refine Tw.c_notV ?_
  | with_reducible refine Tw.c_if ?_
  | with_reducible refine Tw.c_call ?_
  | with_reducible refine Tw.c_for ?_
  | with_reducible refine Tw.c_yes ?_
  | with_reducible refine Tw.c_lc ?_
  | with_reducible refine Tw.c_iList ?_
  | with_reducible refine Tw.c_iTup ?_
  | with_reducible refine Tw.c_iSeq ?_
  | with_reducible refine Tw.c_make ?_
  | with_reducible refine Tw.c_m0 ?_
  | with_reducible refine Tw.c_m1 ?_
  | with_reducible refine Tw.c_asc ?_
  | with_reducible refine Tw.c_dig ?_
  | with_reducible refine Tw.c_sta ?_
  | with_reducible refine Tw.c_sx ?_
  | with_reducible refine Tw.c_sFld ?_
  | with_reducible refine Tw.c_gcons ?_
  | with_reducible refine Tw.c_gnil ?_
  | ((with_reducible show L2.gTup _ _ _ _ _ _ _); refine Tw.c_tupG (by walk_at "look") rfl ?_)
  | with_reducible refine Tw.c_iR1 ?_
  | with_reducible refine Tw.c_iR2 ?_
  | with_reducible refine Tw.c_sl ?_
  | with_reducible refine Tw.c_part ?_
  | with_reducible refine Tw.c_noPart ?_
  | with_reducible refine Tw.c_i1 ?_
  | with_reducible refine Tw.c_bm ?_
  | with_reducible refine Tw.c_bm0 ?_
  | with_reducible refine Tw.c_addI ?_
  | with_reducible refine Tw.c_subI ?_
  | with_reducible refine Tw.c_negI ?_
  | with_reducible refine Tw.c_eqI ?_
  | with_reducible refine Tw.c_neI ?_
  | with_reducible refine Tw.c_eqS ?_
  | with_reducible refine Tw.c_neS ?_
  | with_reducible refine Tw.c_ltI ?_
  | with_reducible refine Tw.c_leI ?_
  | with_reducible refine Tw.c_gtI ?_
  | with_reducible refine Tw.c_geI ?_
  | with_reducible refine Tw.c_isN ?_
  | with_reducible refine Tw.c_notN ?_
  | with_reducible refine Tw.c_intI ?_
  | with_reducible refine Tw.c_intB ?_
  | with_reducible refine Tw.c_absI ?_
  | ((with_reducible show Tw.uMod _ _ _ _); refine Tw.c_modI (by walk_at "num") ?_)
  | ((with_reducible show Tw.uMul _ _ _ _ _); refine Tw.c_mulI (by walk_at "mulok") ?_)
  | ((with_reducible show Tw.uFdiv _ _ _ _); refine Tw.c_fdivI (by walk_at "divok") ?_)
  | ((with_reducible show Tw.uLen _ _ _ _); refine Tw.c_lenL (by walk_at "sql") ?_)
  | ((with_reducible show Tw.uLen _ _ _ _); refine Tw.c_lenT (by walk_at "sql") ?_)
  | ((with_reducible show Tw.uIx _ _ _ _ _); refine Tw.c_ixL (by walk_at "sql") (by walk_at "ati") ?_)
  | ((with_reducible show Tw.uIx _ _ _ _ _); refine Tw.c_ixT (by walk_at "sql") (by walk_at "ati") ?_)
  | ((with_reducible show L2.rSetL _ _ _ _ _); refine Tw.c_setL (by walk_at "look") (by exact rfl) ?_)
  | (with_reducible refine Tw.c_tup ?_)
  | (with_reducible refine Tw.c_lst ?_)
  | ((with_reducible show Tw.uIsi _ _ _ _); first
      | refine Tw.c_isi_list (by assumption) ?_ | refine Tw.c_isi_tuple (by assumption) ?_ | refine Tw.c_isi_int (by assumption) ?_ | refine Tw.c_isi_bool (by assumption) ?_ | refine Tw.c_isi_str (by assumption) ?_)
  | ((with_reducible show (if _ = true then _ else _)); first | refine Tw.c_iteT (by walk_at "yes") ?_ | refine Tw.c_iteF (by walk_at "no") ?_))
local macro_rules | `(tactic| walk_at "tw") => `(tactic| repeat (walk_at "tw1"))
namespace Tw
open PySem PySem.Spec PyProof.Rows L2 Evl RZ
/-! ## The law's own reckoning with plain numbers: readings -/
def sp__law_gcd : Sp := fun vs H Q _ => ∃ a b : Int, vs = [.int a, .int b] ∧ Q (.int ((Nat.gcd a.natAbs b.natAbs : Nat) : Int)) H
def t_f_law_gcd (K : PySem.W.Frag) : TS :=
    (tSeq (tPar 0 1 (tCons (tCB (rAbs) (tCons (tVar 0) tNil)) (tCons (tCB (rAbs) (tCons (tVar 1) tNil)) tNil)))
    (tSeq (tWhile (tTest (tOp (uGt K) (tVar 1) (tC (.int 0)))) (tPar 0 1 (tCons (tVar 1) (tCons (tOp uMod (tCB (uInt) (tCons (tVar 0) tNil)) (tVar 1)) tNil))))
    (tRet (tVar 0))))
theorem abs_if (a : Int) : (if a < 0 then -a else a) = ((a.natAbs : Nat) : Int) := by
  split <;> omega
theorem pure_gcd (K : PySem.W.Frag) (vs : List V) (H : Hp) (Q : VK) (E : XK) (h : sp__law_gcd vs H Q E) : t_f_law_gcd K { nx := fun _ H' => Q .non H', rt := Q } (start ["one", "two"] vs) H := by
  obtain ⟨a, b, rfl, q⟩ := h
  unfold t_f_law_gcd
  walk_at "tw"
  refine ⟨fun m σ H' => ∃ x y : Nat, σ = [some (.int (x : Int)), some (.int (y : Int))] ∧ H' = H ∧ Nat.gcd x y = Nat.gcd a.natAbs b.natAbs ∧ y = m,
    ⟨b.natAbs, a.natAbs, b.natAbs, by rw [abs_if, abs_if]; rfl, rfl, rfl, rfl⟩, ?_⟩
  rintro m σ H' ⟨x, y, rfl, rfl, hg, rfl⟩
  walk_at "tw"
  refine c_ite (fun hy => ?_) (fun hy => ?_)
  · have y0 : 0 < y := by have := of_decide_eq_true hy; omega
    refine ⟨_, fun _ _ z => z, ?_⟩
    walk_at "tw"
    refine ⟨x % y, Nat.mod_lt _ y0, y, x % y, ?_, rfl, ?_, rfl⟩
    · rw [← Int.natCast_emod]; rfl
    · rw [gcd_step x y y0]; exact hg
  · have y0 : y = 0 := by have := of_decide_eq_false hy; omega
    walk_at "tw"
    rw [y0, Nat.gcd_zero_right] at hg
    rw [hg]
    exact q
/-- the fraction top / bottom in lowest terms, the bottom positive -/
def spNum0 : Sp := fun vs H Q _ => ∃ (G : Hp) (t b : Int), vs = [.int 0, .int t, .int b] ∧ 0 < b ∧ b.natAbs < 2 ^ 8000 ∧ RetD (Nu.f (Rat.divInt t b)).d G H Q
def spNumN : Sp := fun vs H Q _ => ∃ (G : Hp) (t b : Int), vs = [.int 0, .int t, .int b] ∧ b < 0 ∧ Nat.gcd t.natAbs b.natAbs < 1073741824 ∧ RetD (Nu.f (Rat.divInt t b)).d G H Q
def spNumP : Sp := fun vs H Q _ => ∃ p t b : Nat, vs = [.int (p : Int), .int (t : Int), .int (b : Int)] ∧ 2 ≤ p ∧ p ≤ 10007 ∧ b < p ∧ t ≤ 10007 ∧ Q (.int ((t * (b ^ (p - 2) % p) % p : Nat) : Int)) H
/-- over fractions with a bottom above, below nought; over rests -/
def sp__law_num : Sp := fun vs H Q E => spNum0 vs H Q E ∨ spNumN vs H Q E ∨ spNumP vs H Q E
def t_f_law_num (K : PySem.W.Frag) : TS :=
    (tSeq (tIfS (tTest (tOp (uGt K) (tVar 0) (tC (.int 0)))) (tSeq (tPar3 3 4 5 (tCons (tC (.int 1)) (tCons (tOp uSub (tVar 0) (tC (.int 2))) (tCons (tOp uMod (tCB (uInt) (tCons (tVar 2) tNil)) (tVar 0)) tNil))))
    (tSeq (tWhile (tTest (tOp (uGt K) (tVar 4) (tC (.int 0)))) (tSeq (tAsg (tIf (tTest (tOp (uEq K) (tOp uMod (tCB (uInt) (tCons (tVar 4) tNil)) (tC (.int 2))) (tC (.int 1)))) (tOp uMod (tCB (uInt) (tCons (tOp (uMul K) (tVar 3) (tVar 5)) tNil)) (tVar 0)) (tVar 3)) (gName 3))
    (tSeq (tAsg (tOp uMod (tCB (uInt) (tCons (tOp (uMul K) (tVar 5) (tVar 5)) tNil)) (tVar 0)) (gName 5))
    (tAsg (tOp uFdiv (tVar 4) (tC (.int 2))) (gName 4)))))
    (tRet (tOp uMod (tCB (uInt) (tCons (tOp (uMul K) (tVar 1) (tVar 3)) tNil)) (tVar 0))))) tNext)
    (tSeq (tAsg (tOp (uMul K) (tCall sp__law_gcd [] E0 (tCons (tVar 1) (tCons (tVar 2) tNil))) (tIf (tTest (tOp (uGt K) (tVar 2) (tC (.int 0)))) (tC (.int 1)) (tUn uNeg (tC (.int 1))))) (gName 6))
    (tRet (tTup (tCons (tOp uFdiv (tVar 1) (tVar 6)) (tCons (tOp uFdiv (tVar 2) (tVar 6)) tNil))))))
theorem gcd_bits (t b : Int) (hb : 0 < b) (h : b.natAbs < 2 ^ 8000) : CDivW t ((Nat.gcd t.natAbs b.natAbs : Nat) : Int) := by
  have h1 : 0 < Nat.gcd t.natAbs b.natAbs := Nat.gcd_pos_of_pos_right _ (by omega)
  have h2 : Nat.gcd t.natAbs b.natAbs ≤ b.natAbs := Nat.gcd_le_right _ (by omega)
  exact wide_div (b := 8000) (by omega) (by rw [Int.natAbs_natCast]; omega) (by decide) (by decide)
theorem pure_num0 (K : PySem.W.Frag) (vs : List V) (H : Hp) (Q : VK) (E : XK) (h : spNum0 vs H Q E) : t_f_law_num K { nx := fun _ H' => Q .non H', rt := Q } (start ["p", "top", "bottom", "told", "left", "power", "part"] vs) H := by
  obtain ⟨G, t, b, rfl, hb, hz, q⟩ := h
  have d1 := gcd_bits t b hb hz
  have d2 : CDivW b ((Nat.gcd t.natAbs b.natAbs : Nat) : Int) := d1
  unfold t_f_law_num
  walk_at "tw"
  refine ⟨t, b, rfl, ?_⟩
  walk_at "tw"
  refine c_fdivI (by rw [Int.mul_one]; exact d1) ?_
  walk_at "tw"
  refine c_fdivI (by rw [Int.mul_one]; exact d2) ?_
  walk_at "tw"
  refine ⟨by show 2 ≤ sizeLine; decide, fun a ha => q _ _ (Ex.new ha) (Dx.frac (grow_new ha upd_same) ?_ ?_)⟩
  · rw [Int.mul_one, frac_num t b hb]
  · rw [Int.mul_one, frac_den t b hb]
/-! ### _law_num over rests: a power by squaring -/
theorem pw_step (t w l p : Nat) : (if l % 2 = 1 then t * w % p else t) * (w * w % p) ^ (l / 2) % p = t * w ^ l % p := by
  have e : w ^ l = (w * w) ^ (l / 2) * w ^ (l % 2) := by
    rw [← Nat.pow_two, ← Nat.pow_mul, ← Nat.pow_add]
    congr 1
    omega
  split
  · rename_i h
    rw [e, h, Nat.pow_one, Nat.mul_mod, Nat.mod_mod, Nat.pow_mod, Nat.mod_mod, ← Nat.pow_mod, ← Nat.mul_mod]
    congr 1
    rw [Nat.mul_comm ((w * w) ^ (l / 2)) w, Nat.mul_assoc]
  · rename_i h
    have h0 : l % 2 = 0 := by omega
    rw [e, h0, Nat.pow_zero, Nat.mul_one, Nat.mul_mod, Nat.pow_mod, Nat.mod_mod, ← Nat.pow_mod, ← Nat.mul_mod]
/-- an expression with its end told once: the end is any that P suffices for -/
theorem c_pre1 {te : TE} {σ : L2.St} {H : Hp} {Q : VK} (P : VK) (k : ∀ v H', P v H' → Q v H') (h : ∀ Q2 : VK, (∀ v H', P v H' → Q2 v H') → te σ H Q2) : te σ H Q := h Q k
theorem pure_numP (K : PySem.W.Frag) (p t b : Nat) (H : Hp) (Q : VK) (hp : 2 ≤ p) (hp2 : p ≤ 10007) (hb : b < p) (ht : t ≤ 10007) (q : Q (.int ((t * (b ^ (p - 2) % p) % p : Nat) : Int)) H) :
    t_f_law_num K { nx := fun _ H' => Q .non H', rt := Q } (start ["p", "top", "bottom", "told", "left", "power", "part"] [.int (p : Int), .int (t : Int), .int (b : Int)]) H := by
  unfold t_f_law_num
  walk_at "tw"
  refine ⟨fun m σ H' => ∃ x l w : Nat, σ = [some (.int (p : Int)), some (.int (t : Int)), some (.int (b : Int)), some (.int (x : Int)), some (.int (l : Int)), some (.int (w : Int)), none] ∧ H' = H ∧ x < p ∧ w < p ∧ x * w ^ l % p = b ^ (p - 2) % p ∧ l = m,
    ⟨p - 2, 1, p - 2, b, ?_, rfl, by omega, hb, by rw [Nat.one_mul], rfl⟩, ?_⟩
  · have e1 : (p : Int) - 2 = ((p - 2 : Nat) : Int) := by omega
    have e2 : (b : Int) % (p : Int) = (b : Int) := Int.emod_eq_of_lt (by omega) (by omega)
    rw [e1, e2]
    rfl
  · rintro m σ H' ⟨x, l, w, rfl, rfl, hx, hw, inv, rfl⟩
    walk_at "tw"
    refine c_ite (fun hl => ?_) (fun hl => ?_)
    · have l0 : 0 < l := by have := of_decide_eq_true hl; omega
      refine ⟨_, fun _ _ z => z, ?_⟩
      walk_at "tw1"
      walk_at "tw1"
      have xw : (((x * w % p : Nat) : Nat) : Int) = (x : Int) * (w : Int) % (p : Int) := by rw [Int.natCast_emod, Int.natCast_mul]
      have ww : (((w * w % p : Nat) : Nat) : Int) = (w : Int) * (w : Int) % (p : Int) := by rw [Int.natCast_emod, Int.natCast_mul]
      refine c_pre1 (fun v H2 => H2 = H' ∧ v = .int (((if l % 2 = 1 then x * w % p else x : Nat) : Nat) : Int)) ?_ (fun Q2 k => ?_)
      rotate_left
      · walk_at "tw"
        refine c_ite (fun h1 => ?_) (fun h1 => ?_)
        · have h2 : l % 2 = 1 := by have := of_decide_eq_true h1; omega
          walk_at "tw"
          refine k _ _ ⟨rfl, ?_⟩
          rw [if_pos h2, xw]
        · have h2 : ¬ l % 2 = 1 := by have := of_decide_eq_false h1; omega
          walk_at "tw"
          refine k _ _ ⟨rfl, ?_⟩
          rw [if_neg h2]
      · rintro v H2 ⟨rfl, rfl⟩
        walk_at "tw"
        refine ⟨l / 2, by omega, (if l % 2 = 1 then x * w % p else x), l / 2, w * w % p, ?_, rfl, ?_, Nat.mod_lt _ (by omega), ?_, rfl⟩
        · rw [ww, show ((l / 2 : Nat) : Int) = (l : Int) / 2 from by omega]
          rfl
        · split
          · exact Nat.mod_lt _ (by omega)
          · exact hx
        · rw [pw_step]
          exact inv
    · have l0 : l = 0 := by have := of_decide_eq_false hl; omega
      subst l0
      rw [Nat.pow_zero, Nat.mul_one, Nat.mod_eq_of_lt hx] at inv
      walk_at "tw"
      rw [Int.natCast_emod, Int.natCast_mul, ← inv] at q
      exact q
/-! ### _law_num over fractions, the bottom below nought -/
theorem c_fdivN {i j : Int} {H : Hp} {Q : VK} (h : j ≠ 0 ∧ j.natAbs < 1073741824) (q : Q (.int (i.fdiv j)) H) : uFdiv (.int i) (.int j) H Q := .inr ⟨i, j, rfl, rfl, h, q⟩
theorem neg_frac (t b : Int) : Rat.divInt t b = Rat.divInt (-t) (-b) := (Rat.neg_divInt_neg t b).symm
theorem fdiv_gcd {t g : Int} (hg : g ∣ t) : t.fdiv (g * -1) = -t / g := by
  rw [Int.fdiv_eq_ediv_of_dvd (by
    obtain ⟨c, e⟩ := hg
    exact ⟨-c, by rw [e]; grind⟩), Int.mul_neg, Int.mul_one, Int.ediv_neg, Int.neg_ediv_of_dvd hg]
theorem pure_numN (K : PySem.W.Frag) (t b : Int) (G H : Hp) (Q : VK) (hb : b < 0) (hg : Nat.gcd t.natAbs b.natAbs < 1073741824) (q : RetD (Nu.f (Rat.divInt t b)).d G H Q) :
    t_f_law_num K { nx := fun _ H' => Q .non H', rt := Q } (start ["p", "top", "bottom", "told", "left", "power", "part"] [.int 0, .int t, .int b]) H := by
  have g0 : 0 < Nat.gcd t.natAbs b.natAbs := Nat.gcd_pos_of_pos_right _ (by omega)
  have dv1 : ((Nat.gcd t.natAbs b.natAbs : Nat) : Int) ∣ t := Int.ofNat_dvd_left.mpr (Nat.gcd_dvd_left _ _)
  have dv2 : ((Nat.gcd t.natAbs b.natAbs : Nat) : Int) ∣ b := Int.ofNat_dvd_left.mpr (Nat.gcd_dvd_right _ _)
  unfold t_f_law_num
  walk_at "tw"
  refine ⟨t, b, rfl, ?_⟩
  walk_at "tw"
  refine c_fdivN ⟨by omega, by omega⟩ ?_
  walk_at "tw"
  refine c_fdivN ⟨by omega, by omega⟩ ?_
  walk_at "tw"
  rw [fdiv_gcd dv1, fdiv_gcd dv2]
  refine ⟨by show 2 ≤ sizeLine; decide, fun a ha => q _ _ (Ex.new ha) (Dx.frac (grow_new ha upd_same) ?_ ?_)⟩
  · rw [neg_frac, frac_num (-t) (-b) (by omega), Int.natAbs_neg, Int.natAbs_neg]
  · rw [neg_frac, frac_den (-t) (-b) (by omega), Int.natAbs_neg, Int.natAbs_neg]
theorem pure_num (K : PySem.W.Frag) (vs : List V) (H : Hp) (Q : VK) (E : XK) (h : sp__law_num vs H Q E) : t_f_law_num K { nx := fun _ H' => Q .non H', rt := Q } (start ["p", "top", "bottom", "told", "left", "power", "part"] vs) H := by
  rcases h with h | ⟨G, t, b, rfl, hb, hg, q⟩ | ⟨p, t, b, rfl, h1, h2, h3, h4, q⟩
  · exact pure_num0 K vs H Q E h
  · exact pure_numN K t b G H Q hb hg q
  · exact pure_numP K p t b H Q h1 h2 h3 h4 q
def sp__law_int : Sp := fun vs H Q _ => ∃ (G : Hp) (p k : Int), vs = [.int p, .int k] ∧ 0 ≤ p ∧ RetD (ofInt p k).d G H Q
def t_f_law_int (K : PySem.W.Frag) : TS :=
    (tRet (tIf (tTest (tOp (uGt K) (tVar 0) (tC (.int 0)))) (tOp uMod (tCB (uInt) (tCons (tVar 1) tNil)) (tVar 0)) (tTup (tCons (tVar 1) (tCons (tC (.int 1)) tNil)))))
theorem pure_int (K : PySem.W.Frag) (vs : List V) (H : Hp) (Q : VK) (E : XK) (h : sp__law_int vs H Q E) : t_f_law_int K { nx := fun _ H' => Q .non H', rt := Q } (start ["p", "k"] vs) H := by
  obtain ⟨G, p, k, rfl, hp, q⟩ := h
  unfold t_f_law_int
  walk_at "tw"
  unfold ofInt at q
  refine c_ite (fun hy => ?_) (fun hy => ?_)
  · have p0 : 0 < p := of_decide_eq_true hy
    rw [if_pos p0] at q
    walk_at "tw"
    exact q _ _ (Ex.refl _) (.int _)
  · have p0 : ¬ 0 < p := of_decide_eq_false hy
    rw [if_neg p0] at q
    walk_at "tw"
    refine ⟨by show 2 ≤ sizeLine; decide, fun a ha => q _ _ (Ex.new ha) (Dx.frac (grow_new ha upd_same) rfl rfl)⟩
def sp__law_add : Sp := fun vs H Q _ => ∃ (G : Hp) (p : Int) (x y : Nu) (v w : V) (n m : Nat), vs = [.int p, v, w] ∧ 0 ≤ p ∧ x.ok p ∧ y.ok p ∧ Dx H v x.d ∧ Dx H w y.d ∧ x.le n ∧ y.le m ∧ n + m ≤ 8000 ∧ RetD (Nu.add p x y).d G H Q
def t_f_law_add (K : PySem.W.Frag) : TS :=
    (tSeq (tIfS (tTest (tOp (uGt K) (tVar 0) (tC (.int 0)))) (tRet (tOp uMod (tCB (uInt) (tCons (tOp (uAdd K) (tVar 1) (tVar 2)) tNil)) (tVar 0))) tNext)
    (tSeq (tIfS (tAnd (tTest (tOp (uEq K) (tOp (uIx K) (tVar 1) (tC (.int 1))) (tC (.int 1)))) (tTest (tOp (uEq K) (tOp (uIx K) (tVar 2) (tC (.int 1))) (tC (.int 1))))) (tRet (tTup (tCons (tOp (uAdd K) (tOp (uIx K) (tVar 1) (tC (.int 0))) (tOp (uIx K) (tVar 2) (tC (.int 0)))) (tCons (tC (.int 1)) tNil)))) tNext)
    (tRet (tCall sp__law_num [] E0 (tCons (tC (.int 0)) (tCons (tOp (uAdd K) (tOp (uMul K) (tOp (uIx K) (tVar 1) (tC (.int 0))) (tOp (uIx K) (tVar 2) (tC (.int 1)))) (tOp (uMul K) (tOp (uIx K) (tVar 2) (tC (.int 0))) (tOp (uIx K) (tVar 1) (tC (.int 1))))) (tCons (tOp (uMul K) (tOp (uIx K) (tVar 1) (tC (.int 1))) (tOp (uIx K) (tVar 2) (tC (.int 1)))) tNil)))))))
theorem mul_wide {i j : Int} {n m : Nat} (hi : i.natAbs < 2 ^ n) (hj : j.natAbs < 2 ^ m) (h : n + m ≤ 900000) : CMul i j ∨ CMulW i j :=
  .inr (wide_mul (a := n + 1) (b := m + 1) (Nat.lt_of_lt_of_le hi (Nat.pow_le_pow_right (by decide) (by omega))) (Nat.lt_of_lt_of_le hj (Nat.pow_le_pow_right (by decide) (by omega))) (by omega) (by omega) (by omega))
theorem pure_add (K : PySem.W.Frag) (vs : List V) (H : Hp) (Q : VK) (E : XK) (h : sp__law_add vs H Q E) : t_f_law_add K { nx := fun _ H' => Q .non H', rt := Q } (start ["p", "one", "two"] vs) H := by
  obtain ⟨G, p, x, y, v, w, n, m, rfl, hp, hx, hy, dx, dy, lx, ly, hz, q⟩ := h
  unfold t_f_law_add
  walk_at "tw"
  refine c_ite (fun hq => ?_) (fun hq => ?_)
  · have p0 : 0 < p := of_decide_eq_true hq
    obtain ⟨i, rfl, _⟩ := Nu.ok_r p0 hx
    obtain ⟨j, rfl, _⟩ := Nu.ok_r p0 hy
    cases Dx.int_inv dx
    cases Dx.int_inv dy
    walk_at "tw"
    exact q _ _ (Ex.refl _) (.int _)
  · have p0 : p = 0 := by have := of_decide_eq_false hq; omega
    obtain ⟨a, rfl⟩ := Nu.ok_f p0 hx
    obtain ⟨b, rfl⟩ := Nu.ok_f p0 hy
    obtain ⟨va, rfl, ha⟩ := dx.frac_inv
    obtain ⟨vb, rfl, hb⟩ := dy.frac_inv
    obtain ⟨l1, l2⟩ := lx
    obtain ⟨k1, k2⟩ := ly
    walk_at "tw"
    have go : sp__law_num [.int 0, .int (a.num * (b.den : Int) + b.num * (a.den : Int)), .int ((a.den : Int) * (b.den : Int))] H Q E := by
      refine .inl ⟨G, _, _, rfl, den_mul_pos a b, ?_, ?_⟩
      · rw [Int.natAbs_mul]
        exact Nat.lt_of_lt_of_le (lt_pow_mul l2 k2) (Nat.pow_le_pow_right (by decide) hz)
      · rw [← add_frac]; exact q
    refine c_ite (fun e1 => ?_) (fun e1 => ?_)
    · walk_at "tw"
      refine c_ite (fun e2 => ?_) (fun e2 => ?_)
      · have d1 : a.den = 1 := by have := of_decide_eq_true e1; omega
        have d2 : b.den = 1 := by have := of_decide_eq_true e2; omega
        walk_at "tw"
        refine ⟨by show 2 ≤ sizeLine; decide, fun c hc => q _ _ (Ex.new hc) (Dx.frac (grow_new hc upd_same) ?_ ?_)⟩
        · rw [add_frac, frac_num _ _ (den_mul_pos a b), d1, d2]; simp
        · rw [add_frac, frac_den _ _ (den_mul_pos a b), d1, d2]; simp
      · walk_at "tw"
        refine c_mulI (mul_wide l1 k2 (by omega)) ?_
        walk_at "tw"
        refine c_mulI (mul_wide k1 l2 (by omega)) ?_
        walk_at "tw"
        refine c_mulI (mul_wide l2 k2 (by omega)) ?_
        walk_at "tw"
        exact go
    · walk_at "tw"
      refine c_mulI (mul_wide l1 k2 (by omega)) ?_
      walk_at "tw"
      refine c_mulI (mul_wide k1 l2 (by omega)) ?_
      walk_at "tw"
      refine c_mulI (mul_wide l2 k2 (by omega)) ?_
      walk_at "tw"
      exact go
def sp__law_mul : Sp := fun vs H Q _ => ∃ (G : Hp) (p : Int) (x y : Nu) (v w : V) (n m : Nat), vs = [.int p, v, w] ∧ 0 ≤ p ∧ x.ok p ∧ y.ok p ∧ Dx H v x.d ∧ Dx H w y.d ∧ x.le n ∧ y.le m ∧ n + m ≤ 8000 ∧ RetD (Nu.mul p x y).d G H Q
def t_f_law_mul (K : PySem.W.Frag) : TS :=
    (tSeq (tIfS (tTest (tOp (uGt K) (tVar 0) (tC (.int 0)))) (tRet (tOp uMod (tCB (uInt) (tCons (tOp (uMul K) (tVar 1) (tVar 2)) tNil)) (tVar 0))) tNext)
    (tSeq (tIfS (tAnd (tTest (tOp (uEq K) (tOp (uIx K) (tVar 1) (tC (.int 1))) (tC (.int 1)))) (tTest (tOp (uEq K) (tOp (uIx K) (tVar 2) (tC (.int 1))) (tC (.int 1))))) (tRet (tTup (tCons (tOp (uMul K) (tOp (uIx K) (tVar 1) (tC (.int 0))) (tOp (uIx K) (tVar 2) (tC (.int 0)))) (tCons (tC (.int 1)) tNil)))) tNext)
    (tRet (tCall sp__law_num [] E0 (tCons (tC (.int 0)) (tCons (tOp (uMul K) (tOp (uIx K) (tVar 1) (tC (.int 0))) (tOp (uIx K) (tVar 2) (tC (.int 0)))) (tCons (tOp (uMul K) (tOp (uIx K) (tVar 1) (tC (.int 1))) (tOp (uIx K) (tVar 2) (tC (.int 1)))) tNil)))))))
theorem pure_mul (K : PySem.W.Frag) (vs : List V) (H : Hp) (Q : VK) (E : XK) (h : sp__law_mul vs H Q E) : t_f_law_mul K { nx := fun _ H' => Q .non H', rt := Q } (start ["p", "one", "two"] vs) H := by
  obtain ⟨G, p, x, y, v, w, n, m, rfl, hp, hx, hy, dx, dy, lx, ly, hz, q⟩ := h
  unfold t_f_law_mul
  walk_at "tw"
  refine c_ite (fun hq => ?_) (fun hq => ?_)
  · have p0 : 0 < p := of_decide_eq_true hq
    obtain ⟨i, rfl, _⟩ := Nu.ok_r p0 hx
    obtain ⟨j, rfl, _⟩ := Nu.ok_r p0 hy
    cases Dx.int_inv dx
    cases Dx.int_inv dy
    walk_at "tw"
    refine c_mulI (mul_wide lx ly (by omega)) ?_
    walk_at "tw"
    exact q _ _ (Ex.refl _) (.int _)
  · have p0 : p = 0 := by have := of_decide_eq_false hq; omega
    obtain ⟨a, rfl⟩ := Nu.ok_f p0 hx
    obtain ⟨b, rfl⟩ := Nu.ok_f p0 hy
    obtain ⟨va, rfl, ha⟩ := dx.frac_inv
    obtain ⟨vb, rfl, hb⟩ := dy.frac_inv
    obtain ⟨l1, l2⟩ := lx
    obtain ⟨k1, k2⟩ := ly
    walk_at "tw"
    have go : sp__law_num [.int 0, .int (a.num * b.num), .int ((a.den : Int) * (b.den : Int))] H Q E := by
      refine .inl ⟨G, _, _, rfl, den_mul_pos a b, ?_, ?_⟩
      · rw [Int.natAbs_mul]
        exact Nat.lt_of_lt_of_le (lt_pow_mul l2 k2) (Nat.pow_le_pow_right (by decide) hz)
      · rw [← mul_frac]; exact q
    refine c_ite (fun e1 => ?_) (fun e1 => ?_)
    · walk_at "tw"
      refine c_ite (fun e2 => ?_) (fun e2 => ?_)
      · have d1 : a.den = 1 := by have := of_decide_eq_true e1; omega
        have d2 : b.den = 1 := by have := of_decide_eq_true e2; omega
        walk_at "tw"
        refine c_mulI (mul_wide l1 k1 (by omega)) ?_
        walk_at "tw"
        refine ⟨by show 2 ≤ sizeLine; decide, fun c hc => q _ _ (Ex.new hc) (Dx.frac (grow_new hc upd_same) ?_ ?_)⟩
        · rw [mul_frac, frac_num _ _ (den_mul_pos a b), d1, d2]; simp
        · rw [mul_frac, frac_den _ _ (den_mul_pos a b), d1, d2]; simp
      · walk_at "tw"
        refine c_mulI (mul_wide l1 k1 (by omega)) ?_
        walk_at "tw"
        refine c_mulI (mul_wide l2 k2 (by omega)) ?_
        walk_at "tw"
        exact go
    · walk_at "tw"
      refine c_mulI (mul_wide l1 k1 (by omega)) ?_
      walk_at "tw"
      refine c_mulI (mul_wide l2 k2 (by omega)) ?_
      walk_at "tw"
      exact go
end Tw
namespace Tw
open PySem
open Lean.Grind
/-! ## The plain numbers over a ground, as a ring -/
def Nu.neg (p : Int) : Nu → Nu
  | .r i => .r (-i % p)
  | .f a => .f (-a)
theorem Nu.neg_ok {p : Int} : ∀ {x : Nu}, x.ok p → (Nu.neg p x).ok p
  | .r i, h => ⟨h.1, Int.emod_nonneg _ (by have := h.1; omega), Int.emod_lt_of_pos _ h.1⟩
  | .f a, h => h
def Gn (p : Int) : Type := { x : Nu // x.ok p }
theorem Gn.ext {p : Int} {x y : Gn p} (h : x.1 = y.1) : x = y := Subtype.ext h
theorem Gn.three {p : Int} {P : Nu → Nu → Nu → Prop} (hr : 0 < p → ∀ i j k : Int, (0 ≤ i ∧ i < p) → (0 ≤ j ∧ j < p) → (0 ≤ k ∧ k < p) → P (.r i) (.r j) (.r k)) (hf : p = 0 → ∀ a b c : Rat, P (.f a) (.f b) (.f c)) : ∀ x y z : Gn p, P x.1 y.1 z.1
  | ⟨.r i, hi⟩, ⟨.r j, hj⟩, ⟨.r k, hk⟩ => hr hi.1 i j k hi.2 hj.2 hk.2
  | ⟨.f a, h⟩, ⟨.f b, _⟩, ⟨.f c, _⟩ => hf h a b c
  | ⟨.r i, hi⟩, ⟨.f b, h⟩, _ => absurd hi.1 (by rw [show p = 0 from h]; decide)
  | ⟨.f a, h⟩, ⟨.r j, hj⟩, _ => absurd hj.1 (by rw [show p = 0 from h]; decide)
  | ⟨.r i, hi⟩, ⟨.r j, hj⟩, ⟨.f c, h⟩ => absurd hi.1 (by rw [show p = 0 from h]; decide)
  | ⟨.f a, h⟩, ⟨.f b, _⟩, ⟨.r k, hk⟩ => absurd hk.1 (by rw [show p = 0 from h]; decide)
theorem mod3 {p : Int} (hp : 0 < p) {i j : Int} (h : p ∣ i - j) : i % p = j % p := Int.emod_eq_emod_iff_emod_sub_eq_zero.mpr (Int.emod_eq_zero_of_dvd h)
theorem modE (p i : Int) : ∃ c, i % p = i - p * c := ⟨i / p, by have := Int.mul_ediv_add_emod i p; omega⟩
theorem ofInt_r {p k : Int} (hp : 0 < p) : ofInt p k = .r (k % p) := if_pos hp
theorem ofInt_f {p k : Int} (hp : p = 0) : ofInt p k = .f (k : Rat) := if_neg (by omega)
theorem mod_self {p i : Int} (h : 0 ≤ i ∧ i < p) : i % p = i := Int.emod_eq_of_lt h.1 h.2
section
variable {p : Int}
def gAdd (x y : Gn p) : Gn p := ⟨Nu.add p x.1 y.1, Nu.add_ok x.2 y.2⟩
def gMul (x y : Gn p) : Gn p := ⟨Nu.mul p x.1 y.1, Nu.mul_ok x.2 y.2⟩
def gNeg (x : Gn p) : Gn p := ⟨Nu.neg p x.1, Nu.neg_ok x.2⟩
def gInt (h : 0 ≤ p) (k : Int) : Gn p := ⟨ofInt p k, ofInt_ok h⟩
theorem g_addC (x y : Gn p) : gAdd x y = gAdd y x := Gn.ext (Gn.three (P := fun x y _ => Nu.add p x y = Nu.add p y x) (fun _ i j _ _ _ _ => by
  show Nu.r _ = Nu.r _
  rw [Int.add_comm]) (fun _ a b _ => by
  show Nu.f _ = Nu.f _
  rw [Rat.add_comm]) x y x)
theorem g_mulC (x y : Gn p) : gMul x y = gMul y x := Gn.ext (Gn.three (P := fun x y _ => Nu.mul p x y = Nu.mul p y x) (fun _ i j _ _ _ _ => by
  show Nu.r _ = Nu.r _
  rw [Int.mul_comm]) (fun _ a b _ => by
  show Nu.f _ = Nu.f _
  rw [Rat.mul_comm]) x y x)
theorem g_addA (x y z : Gn p) : gAdd (gAdd x y) z = gAdd x (gAdd y z) := Gn.ext (Gn.three (P := fun x y z => Nu.add p (Nu.add p x y) z = Nu.add p x (Nu.add p y z)) (fun hp i j k _ _ _ => by
  show Nu.r (((i + j) % p + k) % p) = Nu.r ((i + (j + k) % p) % p)
  obtain ⟨c, e⟩ := modE p (i + j)
  obtain ⟨d, f⟩ := modE p (j + k)
  rw [e, f]
  exact congrArg Nu.r (mod3 hp ⟨d - c, by grind⟩)) (fun _ a b c => by
  show Nu.f _ = Nu.f _
  rw [Rat.add_assoc]) x y z)
theorem g_mulA (x y z : Gn p) : gMul (gMul x y) z = gMul x (gMul y z) := Gn.ext (Gn.three (P := fun x y z => Nu.mul p (Nu.mul p x y) z = Nu.mul p x (Nu.mul p y z)) (fun hp i j k _ _ _ => by
  show Nu.r ((i * j % p * k) % p) = Nu.r ((i * (j * k % p)) % p)
  obtain ⟨c, e⟩ := modE p (i * j)
  obtain ⟨d, f⟩ := modE p (j * k)
  rw [e, f]
  exact congrArg Nu.r (mod3 hp ⟨i * d - c * k, by grind⟩)) (fun _ a b c => by
  show Nu.f _ = Nu.f _
  rw [Rat.mul_assoc]) x y z)
theorem g_dis (x y z : Gn p) : gMul x (gAdd y z) = gAdd (gMul x y) (gMul x z) := Gn.ext (Gn.three (P := fun x y z => Nu.mul p x (Nu.add p y z) = Nu.add p (Nu.mul p x y) (Nu.mul p x z)) (fun hp i j k _ _ _ => by
  show Nu.r ((i * ((j + k) % p)) % p) = Nu.r ((i * j % p + i * k % p) % p)
  obtain ⟨c, e⟩ := modE p (j + k)
  obtain ⟨d, f⟩ := modE p (i * j)
  obtain ⟨g, h⟩ := modE p (i * k)
  rw [e, f, h]
  exact congrArg Nu.r (mod3 hp ⟨d + g - i * c, by grind⟩)) (fun _ a b c => by
  show Nu.f _ = Nu.f _
  rw [Rat.mul_add]) x y z)
theorem g_add0 (h : 0 ≤ p) (x : Gn p) : gAdd x (gInt h 0) = x := Gn.ext (Gn.three (P := fun x _ _ => Nu.add p x (ofInt p 0) = x) (fun hp i _ _ hi _ _ => by
  rw [ofInt_r hp]
  show Nu.r ((i + 0 % p) % p) = Nu.r i
  rw [Int.zero_emod, Int.add_zero, mod_self hi]) (fun hp a _ _ => by
  rw [ofInt_f hp]
  show Nu.f (a + ((0 : Int) : Rat)) = Nu.f a
  rw [show ((0 : Int) : Rat) = 0 from rfl, Rat.add_zero]) x x x)
theorem g_mul1 (h : 0 ≤ p) (x : Gn p) : gMul x (gInt h 1) = x := Gn.ext (Gn.three (P := fun x _ _ => Nu.mul p x (ofInt p 1) = x) (fun hp i _ _ hi _ _ => by
  rw [ofInt_r hp]
  show Nu.r ((i * (1 % p)) % p) = Nu.r i
  obtain ⟨c, e⟩ := modE p 1
  rw [e, mod3 hp (j := i) ⟨- (i * c), by grind⟩, mod_self hi]) (fun hp a _ _ => by
  rw [ofInt_f hp]
  show Nu.f (a * ((1 : Int) : Rat)) = Nu.f a
  rw [show ((1 : Int) : Rat) = 1 from rfl, Rat.mul_one]) x x x)
theorem g_mul0 (h : 0 ≤ p) (x : Gn p) : gMul (gInt h 0) x = gInt h 0 := Gn.ext (Gn.three (P := fun x _ _ => Nu.mul p (ofInt p 0) x = ofInt p 0) (fun hp i _ _ hi _ _ => by
  rw [ofInt_r hp]
  show Nu.r ((0 % p * i) % p) = Nu.r (0 % p)
  rw [Int.zero_emod, Int.zero_mul, Int.zero_emod]) (fun hp a _ _ => by
  rw [ofInt_f hp]
  show Nu.f (((0 : Int) : Rat) * a) = Nu.f ((0 : Int) : Rat)
  rw [show ((0 : Int) : Rat) = 0 from rfl, Rat.zero_mul]) x x x)
theorem g_neg (h : 0 ≤ p) (x : Gn p) : gAdd (gNeg x) x = gInt h 0 := Gn.ext (Gn.three (P := fun x _ _ => Nu.add p (Nu.neg p x) x = ofInt p 0) (fun hp i _ _ hi _ _ => by
  rw [ofInt_r hp]
  show Nu.r ((-i % p + i) % p) = Nu.r (0 % p)
  obtain ⟨c, e⟩ := modE p (-i)
  rw [e]
  exact congrArg Nu.r (mod3 hp ⟨-c, by grind⟩)) (fun hp a _ _ => by
  rw [ofInt_f hp]
  show Nu.f (-a + a) = Nu.f ((0 : Int) : Rat)
  rw [Rat.neg_add_cancel]
  rfl) x x x)
theorem g_intS (h : 0 ≤ p) (k : Int) : gInt h (k + 1) = gAdd (gInt h k) (gInt h 1) := Gn.ext (by
  show ofInt p (k + 1) = Nu.add p (ofInt p k) (ofInt p 1)
  rcases Int.lt_or_eq_of_le h with hp | hp
  · rw [ofInt_r hp, ofInt_r hp, ofInt_r hp]
    show Nu.r ((k + 1) % p) = Nu.r ((k % p + 1 % p) % p)
    obtain ⟨c, e⟩ := modE p k
    obtain ⟨d, f⟩ := modE p 1
    rw [e, f]
    exact congrArg Nu.r (mod3 hp ⟨c + d, by grind⟩)
  · have hp2 : p = 0 := hp.symm
    rw [ofInt_f hp2, ofInt_f hp2, ofInt_f hp2]
    show Nu.f ((k + 1 : Int) : Rat) = Nu.f ((k : Rat) + ((1 : Int) : Rat))
    rw [Rat.intCast_add])
theorem g_intN (h : 0 ≤ p) (k : Int) : gInt h (-k) = gNeg (gInt h k) := Gn.ext (by
  show ofInt p (-k) = Nu.neg p (ofInt p k)
  rcases Int.lt_or_eq_of_le h with hp | hp
  · rw [ofInt_r hp, ofInt_r hp]
    show Nu.r (-k % p) = Nu.r (-(k % p) % p)
    obtain ⟨c, e⟩ := modE p k
    rw [e]
    exact congrArg Nu.r (mod3 hp ⟨-c, by grind⟩)
  · have hp2 : p = 0 := hp.symm
    rw [ofInt_f hp2, ofInt_f hp2]
    show Nu.f ((-k : Int) : Rat) = Nu.f (-(k : Rat))
    rw [Rat.intCast_neg])
theorem g_negM (h : 0 ≤ p) (x y : Gn p) : gMul (gNeg x) y = gNeg (gMul x y) := Gn.ext (Gn.three (P := fun x y _ => Nu.mul p (Nu.neg p x) y = Nu.neg p (Nu.mul p x y)) (fun hp i j _ _ _ _ => by
  show Nu.r ((-i % p * j) % p) = Nu.r (-(i * j % p) % p)
  obtain ⟨c, e⟩ := modE p (-i)
  obtain ⟨d, f⟩ := modE p (i * j)
  rw [e, f]
  exact congrArg Nu.r (mod3 hp ⟨-(c * j) - d, by grind⟩)) (fun hp a b _ => by
  show Nu.f (-a * b) = Nu.f (-(a * b))
  rw [Rat.neg_mul]) x y x)
def gPow (h : 0 ≤ p) (x : Gn p) : Nat → Gn p
  | 0 => gInt h 1
  | n + 1 => gMul (gPow h x n) x
def gRing (h : 0 ≤ p) : CommRing (Gn p) where
  add := gAdd
  mul := gMul
  neg := gNeg
  sub := fun x y => gAdd x (gNeg y)
  natCast := ⟨fun n => gInt h n⟩
  ofNat := fun n => ⟨gInt h n⟩
  intCast := ⟨fun n => gInt h n⟩
  nsmul := ⟨fun n x => gMul (gInt h n) x⟩
  zsmul := ⟨fun n x => gMul (gInt h n) x⟩
  npow := ⟨fun x n => gPow h x n⟩
  add_zero := g_add0 h
  add_comm := g_addC
  add_assoc := g_addA
  mul_assoc := g_mulA
  mul_one := g_mul1 h
  one_mul := fun x => (g_mulC _ _).trans (g_mul1 h x)
  left_distrib := g_dis
  right_distrib := fun x y z => (g_mulC _ _).trans ((g_dis z x y).trans (congr (congrArg gAdd (g_mulC z x)) (g_mulC z y)))
  zero_mul := g_mul0 h
  mul_zero := fun x => (g_mulC _ _).trans (g_mul0 h x)
  pow_zero := fun _ => rfl
  pow_succ := fun _ _ => rfl
  ofNat_succ := fun n => g_intS h n
  ofNat_eq_natCast := fun _ => rfl
  nsmul_eq_natCast_mul := fun _ _ => rfl
  neg_add_cancel := g_neg h
  sub_eq_add_neg := fun _ _ => rfl
  neg_zsmul := fun i x => by
    show gMul (gInt h (-i)) x = gNeg (gMul (gInt h i) x)
    rw [g_intN, g_negM h]
  zsmul_natCast_eq_nsmul := fun _ _ => rfl
  intCast_ofNat := fun _ => rfl
  intCast_neg := g_intN h
  mul_comm := g_mulC
end
end Tw
namespace Tw
open PySem
open Lean.Grind
/-! ## no divisors of nought, inverses -/
def primesN : List Nat := [3, 5, 7, 11, 13, 17, 19, 23, 29, 31]
theorem nz_fin : ∀ p ∈ primesN, ∀ i < p, ∀ j < p, i * j % p = 0 → i = 0 ∨ j = 0 := by decide +kernel
theorem inv_fin : ∀ p ∈ primesN, ∀ i < p, i ≠ 0 → i * (i ^ (p - 2) % p) % p = 1 := by decide +kernel
theorem prb_fin : ∀ p ∈ primesN, 1 < p := by decide
def PrN (p : Int) : Prop := p = 0 ∨ ∃ n ∈ primesN, p = (n : Int)
theorem PrN.nonneg {p : Int} (h : PrN p) : 0 ≤ p := by
  rcases h with h | ⟨n, _, h⟩ <;> omega
def Nu.inv (p : Int) : Nu → Nu
  | .r i => .r (i ^ (p - 2).toNat % p)
  | .f a => .f a⁻¹
theorem Nu.inv_ok {p : Int} : ∀ {x : Nu}, x.ok p → (Nu.inv p x).ok p
  | .r i, h => ⟨h.1, Int.emod_nonneg _ (by have := h.1; omega), Int.emod_lt_of_pos _ h.1⟩
  | .f a, h => h
def gInv {p : Int} (x : Gn p) : Gn p := ⟨Nu.inv p x.1, Nu.inv_ok x.2⟩
theorem ofInt0_r {p : Int} (hp : 0 < p) : ofInt p 0 = .r 0 := by rw [ofInt_r hp, Int.zero_emod]
theorem ofInt0_f {p : Int} (hp : p = 0) : ofInt p 0 = .f 0 := by rw [ofInt_f hp]; rfl
theorem g_nz {p : Int} (h : PrN p) (x y : Gn p) (e : gMul x y = gInt h.nonneg 0) : x = gInt h.nonneg 0 ∨ y = gInt h.nonneg 0 := by
  have e2 : Nu.mul p x.1 y.1 = ofInt p 0 := congrArg Subtype.val e
  have key : Nu.mul p x.1 y.1 = ofInt p 0 → x.1 = ofInt p 0 ∨ y.1 = ofInt p 0 := Gn.three (P := fun x y _ => Nu.mul p x y = ofInt p 0 → x = ofInt p 0 ∨ y = ofInt p 0) (fun hp i j _ hi hj _ k => by
    rw [ofInt0_r hp] at k ⊢
    rcases h with h | ⟨n, hn, rfl⟩
    · omega
    obtain ⟨a, rfl⟩ : ∃ a : Nat, i = (a : Int) := ⟨i.toNat, by omega⟩
    obtain ⟨b, rfl⟩ : ∃ b : Nat, j = (b : Int) := ⟨j.toNat, by omega⟩
    have k2 : ((a : Int) * (b : Int)) % (n : Int) = 0 := Nu.r.inj k
    have k3 : a * b % n = 0 := by
      have : ((a * b % n : Nat) : Int) = 0 := by rw [Int.natCast_emod, Int.natCast_mul]; exact k2
      omega
    rcases nz_fin n hn a (by omega) b (by omega) k3 with z | z
    · left; rw [z]; rfl
    · right; rw [z]; rfl) (fun hp a b _ k => by
    rw [ofInt0_f hp] at k ⊢
    have k2 : a * b = 0 := Nu.f.inj k
    rcases Rat.mul_eq_zero.mp k2 with z | z
    · left; rw [z]
    · right; rw [z]) x y x
  rcases key e2 with z | z
  · exact .inl (Gn.ext z)
  · exact .inr (Gn.ext z)
theorem g_inv {p : Int} (h : PrN p) (x : Gn p) (ne : x ≠ gInt h.nonneg 0) : gMul x (gInv x) = gInt h.nonneg 1 := by
  have ne2 : x.1 ≠ ofInt p 0 := fun z => ne (Gn.ext z)
  have key : x.1 ≠ ofInt p 0 → Nu.mul p x.1 (Nu.inv p x.1) = ofInt p 1 := Gn.three (P := fun x _ _ => x ≠ ofInt p 0 → Nu.mul p x (Nu.inv p x) = ofInt p 1) (fun hp i _ _ hi _ _ k => by
    rw [ofInt0_r hp] at k
    rw [ofInt_r hp]
    rcases h with h | ⟨n, hn, rfl⟩
    · omega
    obtain ⟨a, rfl⟩ : ∃ a : Nat, i = (a : Int) := ⟨i.toNat, by omega⟩
    have a0 : a ≠ 0 := fun z => k (by rw [z]; rfl)
    have k3 := inv_fin n hn a (by omega) a0
    have n1 := prb_fin n hn
    have e1 : ((n : Int) - 2).toNat = n - 2 := by omega
    show Nu.r (((a : Int) * ((a : Int) ^ ((n : Int) - 2).toNat % (n : Int))) % (n : Int)) = Nu.r (1 % (n : Int))
    rw [e1, Int.emod_eq_of_lt (a := 1) (by omega) (by omega)]
    have : ((a * (a ^ (n - 2) % n) % n : Nat) : Int) = 1 := by rw [k3]; rfl
    rw [Int.natCast_emod, Int.natCast_mul, Int.natCast_emod, Int.natCast_pow] at this
    rw [this]) (fun hp a _ _ k => by
    rw [ofInt0_f hp] at k
    rw [ofInt_f hp]
    have a0 : a ≠ 0 := fun z => k (by rw [z])
    show Nu.f (a * a⁻¹) = Nu.f ((1 : Int) : Rat)
    rw [Rat.mul_inv_cancel a a0]
    rfl) x x x
  exact Gn.ext (key ne2)
theorem g_one0 {p : Int} (h : PrN p) : gInt h.nonneg 1 ≠ gInt h.nonneg 0 := fun z => by
  have z2 : ofInt p 1 = ofInt p 0 := congrArg Subtype.val z
  rcases h with h | ⟨n, hn, rfl⟩
  · rw [ofInt_f h, ofInt_f h] at z2
    exact absurd (Nu.f.inj z2) (by decide)
  · have n1 := prb_fin n hn
    rw [ofInt_r (by omega), ofInt_r (by omega), Int.emod_eq_of_lt (a := 1) (by omega) (by omega), Int.zero_emod] at z2
    exact absurd (Nu.r.inj z2) (by decide)
instance : DecidableEq Nu := fun x y => match x, y with
  | .r i, .r j => if h : i = j then isTrue (by rw [h]) else isFalse fun z => h (Nu.r.inj z)
  | .f a, .f b => if h : a = b then isTrue (by rw [h]) else isFalse fun z => h (Nu.f.inj z)
  | .r _, .f _ => isFalse fun z => nomatch z
  | .f _, .r _ => isFalse fun z => nomatch z
end Tw
namespace Tw
open PySem PySem.Spec PyProof.Rows L2 Evl RZ
/-! ### negatives and inverses -/
def sp__law_neg : Sp := fun vs H Q _ => ∃ (G : Hp) (p : Int) (x : Nu) (v : V), vs = [.int p, v] ∧ 0 ≤ p ∧ x.ok p ∧ Dx H v x.d ∧ RetD (Nu.neg p x).d G H Q
def t_f_law_neg (K : PySem.W.Frag) : TS :=
    (tRet (tIf (tTest (tOp (uGt K) (tVar 0) (tC (.int 0)))) (tOp uMod (tCB (uInt) (tCons (tUn uNeg (tVar 1)) tNil)) (tVar 0)) (tTup (tCons (tUn uNeg (tOp (uIx K) (tVar 1) (tC (.int 0)))) (tCons (tOp (uIx K) (tVar 1) (tC (.int 1))) tNil)))))
theorem pure_neg (K : PySem.W.Frag) (vs : List V) (H : Hp) (Q : VK) (E : XK) (h : sp__law_neg vs H Q E) : t_f_law_neg K { nx := fun _ H' => Q .non H', rt := Q } (start ["p", "one"] vs) H := by
  obtain ⟨G, p, x, v, rfl, p0, ok, dx, q⟩ := h
  unfold t_f_law_neg
  walk_at "tw"
  cases x with
  | r i =>
    have hp : 0 < p := ok.1
    cases dx.int_inv
    refine c_iteT (decide_eq_true hp) ?_
    walk_at "tw"
    exact q _ _ (Ex.refl _) (.int _)
  | f a =>
    have hp : p = 0 := ok
    obtain ⟨va, rfl, ha⟩ := dx.frac_inv
    refine c_iteF (decide_eq_false (by omega)) ?_
    walk_at "tw"
    refine ⟨by show 2 ≤ sizeLine; decide, fun b hb => q _ _ (Ex.new hb) (Dx.frac (grow_new hb upd_same) ?_ ?_)⟩
    · exact (Rat.neg_num a).symm
    · exact congrArg Int.ofNat (Rat.neg_den a).symm
def sp__law_inv : Sp := fun vs H Q _ => ∃ (G : Hp) (p : Int) (x : Nu) (v : V), vs = [.int p, v] ∧ PrN p ∧ x.ok p ∧ x ≠ ofInt p 0 ∧ x.le 7900 ∧ Dx H v x.d ∧ RetD (Nu.inv p x).d G H Q
def t_f_law_inv (K : PySem.W.Frag) : TS :=
    (tRet (tIf (tTest (tOp (uGt K) (tVar 0) (tC (.int 0)))) (tCall sp__law_num [] E0 (tCons (tVar 0) (tCons (tC (.int 1)) (tCons (tVar 1) tNil)))) (tCall sp__law_num [] E0 (tCons (tC (.int 0)) (tCons (tOp (uIx K) (tVar 1) (tC (.int 1))) (tCons (tOp (uIx K) (tVar 1) (tC (.int 0))) tNil))))))
theorem inv_frac (a : Rat) : a⁻¹ = Rat.divInt (a.den : Int) a.num := by
  rw [← Rat.inv_divInt, Rat.num_divInt_den]
theorem prN_le : ∀ n ∈ primesN, n ≤ 31 := by decide
theorem pure_inv (K : PySem.W.Frag) (vs : List V) (H : Hp) (Q : VK) (E : XK) (h : sp__law_inv vs H Q E) : t_f_law_inv K { nx := fun _ H' => Q .non H', rt := Q } (start ["p", "one"] vs) H := by
  obtain ⟨G, p, x, v, rfl, hp, ok, ne, le, dx, q⟩ := h
  unfold t_f_law_inv
  walk_at "tw"
  cases x with
  | r i =>
    obtain ⟨p0, i0, i1⟩ := ok
    cases dx.int_inv
    refine c_iteT (decide_eq_true p0) ?_
    walk_at "tw"
    rcases hp with hp | ⟨n, hn, rfl⟩
    · omega
    have n1 := prb_fin n hn
    have n31 := prN_le n hn
    obtain ⟨b, rfl⟩ : ∃ b : Nat, i = (b : Int) := ⟨i.toNat, by omega⟩
    refine .inr (.inr ⟨n, 1, b, rfl, by omega, by omega, by omega, by decide, ?_⟩)
    have e : ((1 * (b ^ (n - 2) % n) % n : Nat) : Int) = (b : Int) ^ ((n : Int) - 2).toNat % (n : Int) := by
      rw [show ((n : Int) - 2).toNat = n - 2 from by omega, Nat.one_mul, Nat.mod_mod, Int.natCast_emod, Int.natCast_pow]
    rw [e]
    exact q _ _ (Ex.refl _) (.int _)
  | f a =>
    have hp0 : p = 0 := ok
    obtain ⟨va, rfl, ha⟩ := dx.frac_inv
    refine c_iteF (decide_eq_false (by omega)) ?_
    walk_at "tw"
    have a0 : a ≠ 0 := fun z => ne (by rw [ofInt0_f hp0, z])
    have n0 : a.num ≠ 0 := fun z => a0 (Rat.num_eq_zero.mp z)
    have q2 : RetD (Nu.f (Rat.divInt (a.den : Int) a.num)).d G H Q := by rw [← inv_frac]; exact q
    have le1 : a.num.natAbs < 2 ^ 8000 := Nat.lt_of_lt_of_le le.1 (Nat.pow_le_pow_right (by decide) (by decide))
    rcases Int.lt_or_lt_of_ne n0 with neg | pos
    · refine .inr (.inl ⟨G, _, _, rfl, neg, ?_, q2⟩)
      have g : Nat.gcd (a.den : Int).natAbs a.num.natAbs = 1 := by
        rw [Int.natAbs_natCast, Nat.gcd_comm]
        exact a.reduced
      rw [g]
      decide
    · exact .inl ⟨G, _, _, rfl, pos, le1, q2⟩
end Tw
namespace Tw
open PySem PySem.Spec PyProof.Rows L2 Evl RZ
/-! ## The law's draws -/
/-- all but b's object kept -/
def ExB (b : Addr) (H H' : Hp) : Prop := ∀ a o, a ≠ b → H a = some o → H' a = some o
theorem ExB.refl (b : Addr) (H : Hp) : ExB b H H := fun _ _ _ h => h
theorem ExB.trans {b : Addr} {H H1 H2 : Hp} (x : ExB b H H1) (y : ExB b H1 H2) : ExB b H H2 := fun a o n h => y a o n (x a o n h)
theorem ExB.of {b : Addr} {H H' : Hp} (e : Ex H H') : ExB b H H' := fun a o _ h => e a o h
theorem ExB.free {b : Addr} {H H' : Hp} (x : ExB b H H') {o : HO} (hb : H b = some o) {p : Addr} {u : HO} (hb' : H' b = some u) (h : H' p = none) : H p = none := by
  cases e : H p with
  | none => rfl
  | some v =>
    by_cases hp : p = b
    · rw [hp, hb'] at h; cases h
    · rw [x p v hp e] at h; cases h
/-- the bag: the cells, the place of the next one, what is left of a great one, a mixed number, the draws so far -/
def BagAt (b L : Addr) (H : Hp) : Prop := ∃ (cs : List Int) (i : Nat) (g m c : Int), L ≠ b ∧ H b = some (.lst [.ref L, .int (i : Int), .int g, .int m, .int c]) ∧ H L = some (.lst (cs.map V.int)) ∧ 0 ≤ g ∧ 0 ≤ m ∧ m < 2147483629
theorem BagAt.ex {b L : Addr} {H H' : Hp} (h : BagAt b L H) (e : Ex H H') : BagAt b L H' := by
  obtain ⟨cs, i, g, m, c, n, h1, h2, h3⟩ := h
  exact ⟨cs, i, g, m, c, n, e _ _ h1, e _ _ h2, h3⟩
theorem BagAt.some {b L : Addr} {H : Hp} (h : BagAt b L H) : ∃ o, H b = some o := by
  obtain ⟨cs, i, g, m, c, n, h1, _⟩ := h
  exact ⟨_, h1⟩
def sp__law_draw : Sp := fun vs H Q _ => ∃ (b L : Addr) (size : Int), vs = [.ref b, .int size] ∧ BagAt b L H ∧ 0 < size ∧ size < 4611686018427387904 ∧ ∀ d H', ExB b H H' → BagAt b L H' → 0 ≤ d → d < size → Q (.int d) H'
def t_f_law_draw (K : PySem.W.Frag) : TS :=
    (tSeq (tAsg (tOp (uAdd K) (tOp (uIx K) (tVar 0) (tC (.int 4))) (tC (.int 1))) (gSub (tVar 0) (tC (.int 4)) rSetL))
    (tCut (tIfS (tAnd (tTest (tOp (uEq K) (tOp (uIx K) (tVar 0) (tC (.int 2))) (tC (.int 0)))) (tTest (tOp (uLt K) (tOp (uIx K) (tVar 0) (tC (.int 1))) (tCB (uLen K) (tCons (tOp (uIx K) (tVar 0) (tC (.int 0))) tNil))))) (tSeq (tAsg (tOp (uIx K) (tOp (uIx K) (tVar 0) (tC (.int 0))) (tOp (uIx K) (tVar 0) (tC (.int 1)))) (gName 2))
    (tSeq (tAsg (tOp (uAdd K) (tOp (uIx K) (tVar 0) (tC (.int 1))) (tC (.int 1))) (gSub (tVar 0) (tC (.int 1)) rSetL))
    (tIfS (tTest (tOp (uGe K) (tVar 2) (tOp uPow (tC (.int 10)) (tC (.int 18))))) (tAsg (tCB (uInt) (tCons (tVar 2) tNil)) (gSub (tVar 0) (tC (.int 2)) rSetL)) (tAsg (tOp uMod (tCB (uInt) (tCons (tOp (uAdd K) (tOp (uAdd K) (tOp (uMul K) (tOp (uIx K) (tVar 0) (tC (.int 3))) (tC (.int 39989))) (tOp (uMul K) (tOp uMod (tCB (uInt) (tCons (tVar 2) tNil)) (tC (.int 2147483587))) (tC (.int 52361)))) (tC (.int 211))) tNil)) (tC (.int 2147483629))) (gSub (tVar 0) (tC (.int 3)) rSetL))))) tNext)
    (tSeq (tIfS (tTest (tOp (uGt K) (tOp (uIx K) (tVar 0) (tC (.int 2))) (tC (.int 0)))) (tSeq (tAsg (tOp uMod (tCB (uInt) (tCons (tOp (uIx K) (tVar 0) (tC (.int 2))) tNil)) (tVar 1)) (gName 3))
    (tSeq (tAsg (tOp uFdiv (tOp (uIx K) (tVar 0) (tC (.int 2))) (tVar 1)) (gSub (tVar 0) (tC (.int 2)) rSetL))
    (tRet (tVar 3)))) tNext)
    (tSeq (tAsg (tOp uMod (tCB (uInt) (tCons (tOp (uAdd K) (tOp (uAdd K) (tOp uPow (tOp (uIx K) (tVar 0) (tC (.int 3))) (tC (.int 3))) (tOp (uMul K) (tOp (uIx K) (tVar 0) (tC (.int 4))) (tC (.int 1300021)))) (tC (.int 70003))) tNil)) (tC (.int 2147483629))) (gSub (tVar 0) (tC (.int 3)) rSetL))
    (tRet (tOp uMod (tCB (uInt) (tCons (tOp (uAdd K) (tOp uFdiv (tOp (uIx K) (tVar 0) (tC (.int 3))) (tC (.int 101))) (tOp (uMul K) (tOp uMod (tCB (uInt) (tCons (tOp (uIx K) (tVar 0) (tC (.int 3))) tNil)) (tC (.int 7993))) (tC (.int 61)))) tNil)) (tVar 1)))))))
theorem divW {i j : Int} (h : 0 < j) (h2 : j < 4611686018427387904) : CDivW i j := wide_div (b := 63) h (by omega) (by decide) (by decide)
theorem pure_draw (K : PySem.W.Frag) (vs : List V) (H : Hp) (Q : VK) (E : XK) (h : sp__law_draw vs H Q E) : t_f_law_draw K { nx := fun _ H' => Q .non H', rt := Q } (start ["bag", "size", "cell", "digit"] vs) H := by
  obtain ⟨b, L, size, rfl, ⟨cs, i, g, m, c, hL, h1, h2, g0, m0, m1⟩, s0, s1, q⟩ := h
  have dw := fun x => divW (i := x) s0 s1
  have dw101 : ∀ x : Int, CDivW x 101 := fun x => divW (by decide) (by decide)
  unfold t_f_law_draw
  walk_at "tw"
  refine c_cut (fun σ' H' => ∃ cv : Option V, σ' = [some (.ref b), some (.int size), cv, none] ∧ ExB b H H' ∧ BagAt b L H') ?_ ?_
  · walk_at "tw"
    refine c_ite (fun hg => ?_) (fun hg => ?_)
    · walk_at "tw"
      refine c_ite (fun hi => ?_) (fun hi => ?_)
      · have hi' : i < cs.length := by have := of_decide_eq_true hi; rw [List.length_map] at this; omega
        obtain ⟨z, hz⟩ : ∃ z, (cs.map V.int)[i]? = some (V.int z) := ⟨cs[i], by rw [List.getElem?_map, List.getElem?_eq_getElem hi']; rfl⟩
        walk_at "tw"
        refine c_powI ⟨by decide, by decide, by decide⟩ ?_
        walk_at "tw"
        refine c_ite (fun hc => ?_) (fun hc => ?_)
        · walk_at "tw"
          refine ⟨_, rfl, (fun a o ne e => by walk_at "look"), cs, i + 1, z, m, c + 1, hL, upd_same, by walk_at "look", ?_, m0, m1⟩
          exact Int.le_trans (by decide) (of_decide_eq_true hc)
        · walk_at "tw"
          refine ⟨_, rfl, (fun a o ne e => by walk_at "look"), cs, i + 1, g, _, c + 1, hL, upd_same, by walk_at "look", g0, ?_, ?_⟩
          · exact Int.emod_nonneg _ (by decide)
          · exact Int.emod_lt_of_pos _ (by decide)
      · walk_at "tw"
        exact ⟨_, rfl, (fun a o ne e => by walk_at "look"), cs, i, g, m, c + 1, hL, upd_same, by walk_at "look", g0, m0, m1⟩
    · walk_at "tw"
      exact ⟨_, rfl, (fun a o ne e => by walk_at "look"), cs, i, g, m, c + 1, hL, upd_same, by walk_at "look", g0, m0, m1⟩

  · clear h1 h2 g0 m0 m1 hL
    rintro σ' H' ⟨cv, rfl, x, cs, i, g, m, c, hL, h1, h2, g0, m0, m1⟩
    walk_at "tw"
    refine c_ite (fun hg => ?_) (fun hg => ?_)
    · walk_at "tw"
      refine c_fdivI (dw _) ?_
      walk_at "tw"
      refine q _ _ (x.trans fun a o ne e => by walk_at "look") ⟨cs, i, g / size, m, c, hL, upd_same, by walk_at "look", ?_, m0, m1⟩ (Int.emod_nonneg _ (by omega)) (Int.emod_lt_of_pos _ s0)
      exact Int.ediv_nonneg g0 (by omega)
    · walk_at "tw"
      refine c_powI ⟨by decide, by decide, by omega⟩ ?_
      walk_at "tw"
      refine q _ _ (x.trans fun a o ne e => by walk_at "look") ⟨cs, i, g, _, c, hL, upd_same, by walk_at "look", g0, ?_, ?_⟩ (Int.emod_nonneg _ (by omega)) (Int.emod_lt_of_pos _ s0)
      · exact Int.emod_nonneg _ (by decide)
      · exact Int.emod_lt_of_pos _ (by decide)
end Tw
namespace Tw
open PySem PySem.Spec PyProof.Rows L2 Evl RZ
/-! ## More draws -/
def sp__law_pick : Sp := fun vs H Q _ => ∃ (b L l : Addr) (xs : List V), vs = [.ref b, .ref l] ∧ BagAt b L H ∧ l ≠ b ∧ H l = some (.lst xs) ∧ 0 < xs.length ∧ xs.length < 1000000 ∧ ∀ (j : Nat) v H', xs[j]? = some v → ExB b H H' → BagAt b L H' → Q v H'
def t_f_law_pick (K : PySem.W.Frag) : TS :=
    (tRet (tOp (uIx K) (tVar 1) (tCall sp__law_draw [] E0 (tCons (tVar 0) (tCons (tCB (uLen K) (tCons (tVar 1) tNil)) tNil)))))
theorem pure_pick (K : PySem.W.Frag) (vs : List V) (H : Hp) (Q : VK) (E : XK) (h : sp__law_pick vs H Q E) : t_f_law_pick K { nx := fun _ H' => Q .non H', rt := Q } (start ["bag", "menu"] vs) H := by
  obtain ⟨b, L, l, xs, rfl, hb, hl, hx, n0, n1, q⟩ := h
  unfold t_f_law_pick
  walk_at "tw"
  refine ⟨b, L, _, rfl, hb, by omega, by omega, fun d H' x hb' d0 d1 => ?_⟩
  have hx' := x _ _ hl hx
  obtain ⟨j, rfl⟩ : ∃ j : Nat, d = (j : Int) := ⟨d.toNat, by omega⟩
  have hj : xs[j]? = some xs[j] := List.getElem?_eq_getElem (by omega)
  walk_at "tw"
  exact q j _ _ hj x hb'
def sp__law_small : Sp := fun vs H Q _ => ∃ (b L : Addr) (p : Int), vs = [.ref b, .int p] ∧ BagAt b L H ∧ 0 ≤ p ∧ p ≤ 10007 ∧ ∀ (x : Nu) v H', ExB b H H' → BagAt b L H' → x.ok p → x.le 14 → (p = 0 → x.le 5) → Dx (grow (fun _ => none) H H') v x.d → Q v H'
def t_f_law_small (K : PySem.W.Frag) : TS :=
    (tSeq (tIfS (tTest (tOp (uGt K) (tVar 1) (tC (.int 0)))) (tRet (tCall sp__law_draw [] E0 (tCons (tVar 0) (tCons (tVar 1) tNil)))) tNext)
    (tSeq (tAsg (tCall sp__law_pick [] E0 (tCons (tVar 0) (tCons (tLst (tCons (tC (.int 1)) (tCons (tC (.int 1)) (tCons (tC (.int 1)) (tCons (tC (.int 2)) (tCons (tC (.int 3)) tNil)))))) tNil))) (gName 2))
    (tRet (tCall sp__law_num [] E0 (tCons (tC (.int 0)) (tCons (tOp uSub (tCall sp__law_draw [] E0 (tCons (tVar 0) (tCons (tC (.int 9)) tNil))) (tC (.int 4))) (tCons (tVar 2) tNil)))))))
theorem pure_small (K : PySem.W.Frag) (vs : List V) (H : Hp) (Q : VK) (E : XK) (h : sp__law_small vs H Q E) : t_f_law_small K { nx := fun _ H' => Q .non H', rt := Q } (start ["bag", "p", "bottom"] vs) H := by
  obtain ⟨b, L, p, rfl, hb, p0, p1, q⟩ := h
  unfold t_f_law_small
  walk_at "tw"
  refine c_ite (fun hp => ?_) (fun hp => ?_)
  · have hp' : 0 < p := of_decide_eq_true hp
    walk_at "tw"
    refine ⟨b, L, p, rfl, hb, hp', by omega, fun d H' x hb' d0 d1 => q (.r d) _ _ x hb' ⟨hp', d0, d1⟩ ?_ (fun z => absurd z (by omega)) (.int _)⟩
    show d.natAbs < 2 ^ 14
    omega
  · have hp' : p = 0 := by have := of_decide_eq_false hp; omega
    walk_at "tw"
    refine ⟨by show 5 ≤ sizeLine; decide, fun l hl => ?_⟩
    obtain ⟨ob, hbo⟩ := hb.some
    have hlb : l ≠ b := fun z => by rw [z, hbo] at hl; cases hl
    have e1 : Ex H (upd H l (.lst [.int 1, .int 1, .int 1, .int 2, .int 3])) := Ex.new hl
    refine ⟨b, L, l, _, rfl, hb.ex e1, hlb, upd_same, by decide, by decide, fun j v H1 hj x1 hb1 => ?_⟩
    obtain ⟨w, rfl, w0, w1⟩ : ∃ w : Int, v = .int w ∧ 0 < w ∧ w ≤ 3 := by
      match j, hj with
      | 0, hj => cases hj; exact ⟨1, rfl, by decide, by decide⟩
      | 1, hj => cases hj; exact ⟨1, rfl, by decide, by decide⟩
      | 2, hj => cases hj; exact ⟨1, rfl, by decide, by decide⟩
      | 3, hj => cases hj; exact ⟨2, rfl, by decide, by decide⟩
      | 4, hj => cases hj; exact ⟨3, rfl, by decide, by decide⟩
      | n + 5, hj => cases hj
    walk_at "tw"
    refine ⟨b, L, 9, rfl, hb1, by decide, by decide, fun d H2 x2 hb2 d0 d1 => ?_⟩
    walk_at "tw"
    have x02 : ExB b H H2 := (ExB.of e1).trans (x1.trans x2)
    have lt3 : w.natAbs < 2 ^ 14 := by have : (2 : Nat) ^ 14 = 16384 := by decide
                                       omega
    refine .inl ⟨fun _ => none, d - 4, w, rfl, w0, Nat.lt_of_lt_of_le lt3 (Nat.pow_le_pow_right (by decide) (by decide)), fun v H3 e3 hv => ?_⟩
    have le5 : (Nu.f (Rat.divInt (d - 4) w)).le 5 := by
      refine ⟨?_, ?_⟩
      · have := frac_num_le (d - 4) w w0
        have : (2 : Nat) ^ 5 = 32 := by decide
        omega
      · have := frac_den_le (d - 4) w w0
        have : (2 : Nat) ^ 5 = 32 := by decide
        omega
    refine q (.f (Rat.divInt (d - 4) w)) v H3 (x02.trans (ExB.of e3)) (hb2.ex e3) hp' (Nu.le_mono (by decide) le5) (fun _ => le5) (hv.mono ?_)
    · intro a o h
      cases q2 : H2 a with
      | some u => rw [grow_old q2] at h; cases h
      | none =>
        obtain ⟨o2, hb2o⟩ := hb2.some
        have h0 : H a = none := x02.free hbo hb2o q2
        unfold grow at h
        rw [q2] at h
        exact grow_new h0 h
/-! ## A list that is built, turn by turn -/
def hp0 : Hp := fun _ => none
/-- behind H (the bag at b may have changed) a list of vs stands at L, new since H; its items are data, new since L was laid -/
structure Bld (b c L : Addr) (H H2 : Hp) (vs : List V) (ds : List PyData) : Prop where
  ex : ExB b H H2
  bag : BagAt b c H2
  bag0 : BagAt b c H
  new : H L = none
  at_ : H2 L = some (.lst vs)
  data : DxA (grow hp0 (upd H L (.lst [])) H2) vs ds
theorem Bld.ne {b c L : Addr} {H H2 : Hp} {vs : List V} {ds : List PyData} (B : Bld b c L H H2 vs ds) : L ≠ b := fun z => by
  obtain ⟨o, h⟩ := B.bag0.some
  rw [← z, B.new] at h
  cases h
theorem Bld.start {b c L : Addr} {H : Hp} (hL : H L = none) (hb : BagAt b c H) : Bld b c L H (upd H L (.lst [])) [] [] :=
  ⟨ExB.of (Ex.new hL), hb.ex (Ex.new hL), hb, hL, upd_same, .nil⟩
theorem Bld.step {b c L : Addr} {H H2 H3 : Hp} {vs : List V} {ds : List PyData} {v : V} {d : PyData} (B : Bld b c L H H2 vs ds) (x : ExB b H2 H3) (hb : BagAt b c H3) (hd : Dx (grow hp0 H2 H3) v d) : Bld b c L H (upd H3 L (.lst (vs ++ [v]))) (vs ++ [v]) (ds ++ [d]) := by
  have ne := B.ne
  have dom : ∀ a, H2 a = none → upd H L (.lst []) a = none := fun a h => by
    by_cases e : a = L
    · rw [e, B.at_] at h; cases h
    · rw [upd_ne e]
      obtain ⟨o, ho⟩ := B.bag0.some
      obtain ⟨o2, ho2⟩ := B.bag.some
      exact B.ex.free ho ho2 h
  have e1 : Ex (grow hp0 (upd H L (.lst [])) H2) (grow hp0 (upd H L (.lst [])) (upd H3 L (.lst (vs ++ [v])))) := fun a o h => by
    cases q : upd H L (.lst []) a with
    | some u => rw [grow_old q] at h; cases h
    | none =>
      unfold grow at h
      rw [q] at h
      have aL : a ≠ L := fun z => by rw [z, upd_same] at q; cases q
      have ab : a ≠ b := fun z => by
        obtain ⟨o2, ho2⟩ := B.bag0.some
        rw [upd_ne aL, z, ho2] at q
        cases q
      refine grow_new q ?_
      rw [upd_ne aL]
      exact x _ _ ab h
  have e2 : Ex (grow hp0 H2 H3) (grow hp0 (upd H L (.lst [])) (upd H3 L (.lst (vs ++ [v])))) := fun a o h => by
    cases q : H2 a with
    | some u => rw [grow_old q] at h; cases h
    | none =>
      unfold grow at h
      rw [q] at h
      have aL : a ≠ L := fun z => by rw [z, B.at_] at q; cases q
      refine grow_new (dom a q) ?_
      rw [upd_ne aL]
      exact h
  refine ⟨fun a o na h => ?_, ?_, B.bag0, B.new, upd_same, (B.data.mono e1).append (.cons (hd.mono e2) .nil)⟩
  · have aL : a ≠ L := fun z => by rw [z, B.new] at h; cases h
    rw [upd_ne aL]
    exact x _ _ na (B.ex _ _ na h)
  · obtain ⟨cs, i, g, m, k, n, h1, h2, h3⟩ := hb
    have n2 : c ≠ L := fun z => by
      obtain ⟨_, _, _, _, _, _, _, k2, _⟩ := B.bag0
      rw [z, B.new] at k2
      cases k2
    exact ⟨cs, i, g, m, k, n, by rw [upd_ne ne.symm]; exact h1, by rw [upd_ne n2]; exact h2, h3⟩
theorem Bld.done {b c L : Addr} {H H2 : Hp} {vs : List V} {ds : List PyData} (B : Bld b c L H H2 vs ds) : Dx (grow hp0 H H2) (.ref L) (.list ds) := by
  refine .lst (grow_new B.new B.at_) (B.data.mono fun a o h => ?_)
  cases q : upd H L (.lst []) a with
  | some u => rw [grow_old q] at h; cases h
  | none =>
    unfold grow at h
    rw [q] at h
    have aL : a ≠ L := fun z => by rw [z, upd_same] at q; cases q
    rw [upd_ne aL] at q
    exact grow_new q h
end Tw
namespace Tw
open PySem PySem.Spec PyProof.Rows L2 Evl RZ
def sp__law_row : Sp := fun vs H Q _ => ∃ (b L : Addr) (p size : Int), vs = [.ref b, .int p, .int size] ∧ BagAt b L H ∧ 0 ≤ p ∧ p ≤ 10007 ∧ 0 ≤ size ∧ size ≤ 10000 ∧ ∀ (xs : List Nu) a H', ExB b H H' → BagAt b L H' → xs.length = size.toNat → (∀ x ∈ xs, x.ok p ∧ x.le 14) → (p = 0 → ∀ x ∈ xs, x.le 5) → Dx (grow hp0 H H') (.ref a) (.list (xs.map Nu.d)) → Q (.ref a) H'
def t_f_law_row (K : PySem.W.Frag) : TS :=
    (tRet (tLc (iRng1 (tCons (tVar 2) tNil)) (gName 3) tYes (tCall sp__law_small [] E0 (tCons (tVar 0) (tCons (tVar 1) tNil))) [3]))
theorem sz_of_le {n : Nat} (h : n ≤ 100000) : n < sizeLine := Nat.lt_of_le_of_lt h (by decide)
theorem pure_row (K : PySem.W.Frag) (vs : List V) (H : Hp) (Q : VK) (E : XK) (h : sp__law_row vs H Q E) : t_f_law_row K { nx := fun _ H' => Q .non H', rt := Q } (start ["bag", "p", "size", "k"] vs) H := by
  obtain ⟨b, c, p, size, rfl, hb, p0, p1, s0, s1, q⟩ := h
  unfold t_f_law_row
  walk_at "tw"
  · refine ⟨size, rfl, by omega, by omega, fun L hL => lc_range (lo := 0) (n := size.toNat) (fun i H2 => ∃ (xs : List Nu) (ws : List V), xs.length = i ∧ (∀ x ∈ xs, x.ok p ∧ x.le 14) ∧ (p = 0 → ∀ x ∈ xs, x.le 5) ∧ Bld b c L H H2 ws (xs.map Nu.d)) ?_ ?_ ?_⟩
    · exact ⟨[], [], rfl, fun _ z => (nomatch z), fun _ _ z => (nomatch z), Bld.start hL hb⟩
    · rintro i H2 hi ⟨xs, ws, rfl, hx, h5, B⟩
      walk_at "tw"
      refine ⟨rfl, ?_⟩
      walk_at "tw"
      refine ⟨b, c, p, rfl, B.bag, p0, p1, fun x v H3 x3 hb3 ok le le5 hv => ?_⟩
      have hl := x3 _ _ B.ne B.at_
      have hlen : ws.length = xs.length := by rw [B.data.length, List.length_map]
      refine ⟨ws, hl, sz_of_le (by omega), xs ++ [x], ws ++ [v], by simp, fun y hy => ?_, fun z0 y hy => ?_, ?_⟩
      · rcases List.mem_append.mp hy with z | z
        · exact hx y z
        · rw [List.mem_singleton.mp z]; exact ⟨ok, le⟩
      · rcases List.mem_append.mp hy with z | z
        · exact h5 z0 y z
        · rw [List.mem_singleton.mp z]; exact le5 z0
      · rw [List.map_append]
        exact B.step x3 hb3 hv
    · rintro H2 ⟨xs, ws, hl, hx, h5, B⟩
      exact q xs L H2 B.ex B.bag hl hx h5 B.done
end Tw
namespace Tw
open PySem PySem.Spec PyProof.Rows L2 Evl RZ
/-! ## The law's own: the bag made, lines, dues, copies, comparisons, spoiling -/
theorem cut_map (ns : List Int) (lo hi : Option Int) : ∃ ms : List Int, cutV (ns.map V.int) lo hi = ms.map V.int := by
  unfold cutV
  exact ⟨_, by rw [← List.map_drop, ← List.map_take]⟩
theorem cut_len (xs : List V) (lo hi : Option Int) : (cutV xs lo hi).length ≤ xs.length := cutV_length xs lo hi
def sp__law_bag (K : PySem.W.Frag) : Sp := fun vs H Q _ => ∃ (a : Addr) (ns : List Int), vs = [.ref a] ∧ SqL K H a (ns.map V.int) ∧ ns.length ≤ 63 ∧ ∀ b L H', Ex H H' → H b = none → H L = none → BagAt b L H' → Q (.ref b) H'
def t_f_law_bag (K : PySem.W.Frag) : TS :=
    (tSeq (tAsg (tC (.int 17798)) (gName 1))
    (tSeq (tFor (iSeq K (tSl (uSl K) (tVar 0) tNoPart (tPart (tC (.int 63))))) (gName 2) (tAsg (tOp uMod (tCB (uInt) (tCons (tOp (uAdd K) (tOp (uAdd K) (tOp (uMul K) (tVar 1) (tC (.int 48271))) (tOp uMod (tCB (uInt) (tCons (tVar 2) tNil)) (tC (.int 2147483587)))) (tC (.int 91))) tNil)) (tC (.int 2147483629))) (gName 1)))
    (tRet (tLst (tCons (tCB (uList K) (tCons (tSl (uSl K) (tVar 0) tNoPart (tPart (tC (.int 63)))) tNil)) (tCons (tC (.int 0)) (tCons (tC (.int 0)) (tCons (tVar 1) (tCons (tC (.int 0)) tNil)))))))))
theorem pure_bag (K : PySem.W.Frag) (vs : List V) (H : Hp) (Q : VK) (E : XK) (h : sp__law_bag K vs H Q E) : t_f_law_bag K { nx := fun _ H' => Q .non H', rt := Q } (start ["script", "mixed", "cell"] vs) H := by
  obtain ⟨a, ns, rfl, hs, hn, q⟩ := h
  unfold t_f_law_bag
  walk_at "tw"
  refine c_slL hs (fun l hl => ?_)
  obtain ⟨ms, hm⟩ := cut_map ns none (some 63)
  have hml : ms.length ≤ 63 := by
    have := cut_len (ns.map V.int) none (some 63)
    rw [hm, List.length_map, List.length_map] at this
    omega
  rw [hm]
  have e1 : Ex H (upd H l (.lst (ms.map V.int))) := Ex.new hl
  refine ⟨l, rfl, .inl ⟨⟨_, SqL.of upd_same⟩, ?_⟩⟩
  refine for_list (K := K) (a := l) (xs := ms.map V.int) (fun i σ H' => ∃ (z : Int) (cv : Option V), σ = [some (.ref a), some (.int z), cv] ∧ 0 ≤ z ∧ z < 2147483629 ∧ H' = upd H l (.lst (ms.map V.int))) ⟨17798, none, rfl, by decide, by decide, rfl⟩ (fun i σ H' _ ⟨_, _, _, _, _, e⟩ => by rw [e]; exact SqL.of upd_same) ?_ ?_
  · rintro i y σ H' hi ⟨z, cv, rfl, z0, z1, rfl⟩
    obtain ⟨u, rfl⟩ : ∃ u, y = V.int u := by
      rw [List.getElem?_map] at hi
      cases e : ms[i]? with
      | none => rw [e] at hi; cases hi
      | some u => rw [e] at hi; exact ⟨u, (Option.some.inj hi).symm⟩
    walk_at "tw"
    exact ⟨_, _, rfl, Int.emod_nonneg _ (by decide), Int.emod_lt_of_pos _ (by decide), rfl⟩
  · rintro σ H' ⟨z, cv, rfl, z0, z1, rfl⟩
    walk_at "tw"
    refine c_slL (Evl.ex_l e1 hs) (fun l2 hl2 => ?_)
    rw [hm]
    walk_at "tw"
    refine c_listL (SqL.of upd_same) (fun l3 hl3 => ?_)
    walk_at "tw"
    refine ⟨by show 5 ≤ sizeLine; decide, fun b hb => ?_⟩
    have n23 : l3 ≠ b := ne_of_none upd_same hb
    have e3 : Ex H (upd (upd (upd H l (.lst (ms.map V.int))) l2 (.lst (ms.map V.int))) l3 (.lst (ms.map V.int))) := e1.trans ((Ex.new hl2).trans (Ex.new hl3))
    refine q b l3 _ (e3.trans (Ex.new hb)) (fresh_back e3 hb) (fresh_back (e1.trans (Ex.new hl2)) hl3) ⟨ms, 0, 0, z, 0, n23, upd_same, by walk_at "look", by decide, z0, z1⟩
/-! ### the line of a ground -/
def lineOf (p : Int) : Str := if 0 < p then ("rests " : Str) ++ (toString p : Str) else "fractions"
def sp__law_line : Sp := fun vs H Q _ => ∃ p : Int, vs = [.int p] ∧ 0 ≤ p ∧ p < 100 ∧ Q (.str (lineOf p)) H
def t_f_law_line (K : PySem.W.Frag) : TS :=
    (tRet (tIf (tTest (tOp (uGt K) (tVar 0) (tC (.int 0)))) (tOp (uAdd K) (tC (.str "rests ")) (tCB (uStr) (tCons (tVar 0) tNil))) (tC (.str "fractions"))))
theorem small_texts : ∀ p : Fin 100, ((toString ((p.val : Nat) : Int) : Str)).length ≤ 100 := by decide +kernel
theorem small_text {p : Int} (h0 : 0 < p) (h1 : p < 100) : ((toString p : Str)).length ≤ 100 := by
  have h := small_texts ⟨p.toNat, by omega⟩
  have e : ((p.toNat : Nat) : Int) = p := by omega
  rw [show (((⟨p.toNat, by omega⟩ : Fin 100).val : Nat) : Int) = p from e] at h
  exact h
theorem pure_line (K : PySem.W.Frag) (vs : List V) (H : Hp) (Q : VK) (E : XK) (h : sp__law_line vs H Q E) : t_f_law_line K { nx := fun _ H' => Q .non H', rt := Q } (start ["p"] vs) H := by
  obtain ⟨p, rfl, p0, p1, q⟩ := h
  unfold t_f_law_line
  walk_at "tw"
  unfold lineOf at q
  refine c_ite (fun hp => ?_) (fun hp => ?_)
  · have hp' : 0 < p := of_decide_eq_true hp
    rw [if_pos hp'] at q
    walk_at "tw"
    refine ⟨p, rfl, ?_, ?_⟩
    · have h2 : p.natAbs.log2 ≤ p.natAbs := Nat.log2_le_self _
      omega
    · refine c_addS ?_ q
      have := small_text hp' p1
      have h6 : ("rests " : Str).length = 6 := by decide +kernel
      rw [h6]
      exact Nat.le_trans (by omega : _ ≤ 106) (by decide)
  · have hp' : ¬ 0 < p := of_decide_eq_false hp
    rw [if_neg hp'] at q
    walk_at "tw"
    exact q
/-- data of at most n storeys, its lists not too long, no dict in it -/
def Dep : Nat → PyData → Prop
  | _, .dict _ => False
  | 0, .list _ => False
  | 0, .tuple _ => False
  | n + 1, .list ds => ds.length ≤ 30000 ∧ ∀ d ∈ ds, Dep n d
  | n + 1, .tuple ds => ds.length ≤ 30000 ∧ ∀ d ∈ ds, Dep n d
  | _, _ => True
/-! ### _law_copied -/
/-- new data handed back -/
def RetN (d : PyData) (H : Hp) (Q : VK) : Prop := ∀ v H2, Ex H H2 → Dx (grow hp0 H H2) v d → Q v H2
theorem RetN.of {d : PyData} {H : Hp} {Q : VK} (q : RetN d H Q) : RetD d hp0 H Q := q
def spC : Nat → Sp
  | 0 => fun _ _ _ _ => False
  | n + 1 => fun vs H Q _ => ∃ (v : V) (d : PyData), vs = [v] ∧ Dx H v d ∧ Dep n d ∧ RetN d H Q
def t_f_law_copied (K : PySem.W.Frag) (sp__law_copied : Sp) : TS :=
    (tSeq (tIfS (tB (tCB (uIsi K) (tCons (tVar 0) (tCons (tC (.ty "list")) tNil)))) (tRet (tLc (iSeq K (tVar 0)) (gName 1) tYes (tCall sp__law_copied [] E0 (tCons (tVar 1) tNil)) [1])) tNext)
    (tSeq (tIfS (tB (tCB (uIsi K) (tCons (tVar 0) (tCons (tC (.ty "tuple")) tNil)))) (tRet (tCB (uTuple K) (tCons (tLc (iSeq K (tVar 0)) (gName 1) tYes (tCall sp__law_copied [] E0 (tCons (tVar 1) tNil)) [1]) tNil))) tNext)
    (tRet (tVar 0))))
/-- a list that is built without a bag: what stands at L, its data of G or new -/
structure BldP (L : Addr) (G H H2 : Hp) (vs : List V) (ds : List PyData) : Prop where
  ex : Ex H H2
  new : H L = none
  at_ : H2 L = some (.lst vs)
  data : DxA (grow G (upd H L (.lst [])) H2) vs ds
theorem BldP.start {L : Addr} {G H : Hp} (hL : H L = none) : BldP L G H (upd H L (.lst [])) [] [] := ⟨Ex.new hL, hL, upd_same, .nil⟩
theorem BldP.step {L : Addr} {G H H2 H3 : Hp} {vs : List V} {ds : List PyData} {v : V} {d : PyData} (B : BldP L G H H2 vs ds) (eG : Ex G H) (x : Ex H2 H3) (hd : Dx (grow (grow G (upd H L (.lst [])) H2) H2 H3) v d) : BldP L G H (upd H3 L (.lst (vs ++ [v]))) (vs ++ [v]) (ds ++ [d]) := by
  have GL : G L = none := fresh_back eG B.new
  have dom : ∀ a o, upd H L (.lst []) a = some o → ∃ u, H2 a = some u := fun a o h => by
    by_cases e : a = L
    · exact ⟨_, e ▸ B.at_⟩
    · rw [upd_ne e] at h; exact ⟨_, B.ex _ _ h⟩
  rw [grow_grow dom fun a o _ h => x a o h] at hd
  have e1 : Ex (grow G (upd H L (.lst [])) H2) (grow G (upd H L (.lst [])) (upd H3 L (.lst (vs ++ [v])))) := fun a o h => by
    cases q : upd H L (.lst []) a with
    | some u => rw [grow_old q] at h ⊢; exact h
    | none =>
      unfold grow at h
      rw [q] at h
      have aL : a ≠ L := fun z => by rw [z, upd_same] at q; cases q
      refine grow_new q ?_
      rw [upd_ne aL]
      exact x _ _ h
  have e2 : Ex (grow G (upd H L (.lst [])) H3) (grow G (upd H L (.lst [])) (upd H3 L (.lst (vs ++ [v])))) := fun a o h => by
    cases q : upd H L (.lst []) a with
    | some u => rw [grow_old q] at h ⊢; exact h
    | none =>
      unfold grow at h
      rw [q] at h
      have aL : a ≠ L := fun z => by rw [z, upd_same] at q; cases q
      refine grow_new q ?_
      rw [upd_ne aL]
      exact h
  refine ⟨(B.ex.trans x).mut B.new, B.new, upd_same, (B.data.mono e1).append (.cons (hd.mono e2) .nil)⟩
theorem BldP.items {L : Addr} {G H H2 : Hp} {vs : List V} {ds : List PyData} (B : BldP L G H H2 vs ds) (eG : Ex G H) : DxA (grow G H H2) vs ds := B.data.mono fun a o h => by
  cases q : upd H L (.lst []) a with
  | some u =>
    rw [grow_old q] at h
    rw [grow_old (eG a o h)]
    exact h
  | none =>
    unfold grow at h
    rw [q] at h
    have aL : a ≠ L := fun z => by rw [z, upd_same] at q; cases q
    rw [upd_ne aL] at q
    exact grow_new q h
theorem BldP.done {L : Addr} {G H H2 : Hp} {vs : List V} {ds : List PyData} (B : BldP L G H H2 vs ds) (eG : Ex G H) : Dx (grow G H H2) (.ref L) (.list ds) := by
  exact .lst (grow_new B.new B.at_) (B.items eG)
theorem BldP.len {L : Addr} {G H H2 : Hp} {vs : List V} {ds : List PyData} (B : BldP L G H H2 vs ds) : vs.length = ds.length := B.data.length
theorem ex0 (H : Hp) : Ex hp0 H := fun _ _ h => by cases h
theorem DxA.mem {H : Hp} {vs : List V} {ds : List PyData} {i : Nat} {v : V} (h : DxA H vs ds) (e : vs[i]? = some v) : ∃ d, ds[i]? = some d ∧ d ∈ ds ∧ Dx H v d := by
  obtain ⟨d, h1, h2⟩ := h.get e
  exact ⟨d, h1, List.mem_of_getElem? h1, h2⟩
theorem take_succ {α : Type} {l : List α} {i : Nat} {x : α} (h : l[i]? = some x) : l.take (i + 1) = l.take i ++ [x] := by
  rw [List.take_add_one, h]; rfl
theorem pure_copied (K : PySem.W.Frag) (n : Nat) (vs : List V) (H : Hp) (Q : VK) (E : XK) (h : spC (n + 1) vs H Q E) : t_f_law_copied K (spC n) { nx := fun _ H' => Q .non H', rt := Q } (start ["thing", "one"] vs) H := by
  obtain ⟨v, d, rfl, hv, hd, q⟩ := h
  unfold t_f_law_copied
  have B0 : ∀ {L : Addr} {xs : List V} {ds : List PyData} {i : Nat} {x : V} {ws : List V} {H2 : Hp} {Q2 : VK}, DxA H xs ds → ds.length ≤ 30000 → (∀ d ∈ ds, ∃ m, n = m + 1 ∧ Dep m d) → xs[i]? = some x → BldP L hp0 H H2 ws (ds.take i) →
      (∀ y H4, (∃ acc, H4 L = some (.lst acc) ∧ acc.length < sizeLine ∧ ∃ ws, BldP L hp0 H (upd H4 L (.lst (acc ++ [y]))) ws (ds.take (i + 1))) → Q2 y H4) → spC n [x] H2 Q2 E0 := by
    intro L xs ds i x ws H2 Q2 hx hz hdp hi B hq
    obtain ⟨d, h1, h2, h3⟩ := hx.mem hi
    obtain ⟨m, rfl, hm⟩ := hdp d h2
    refine ⟨x, d, rfl, h3.mono B.ex, hm, fun y H3 e3 hy => hq y H3 ⟨ws, e3 _ _ B.at_, ?_, ws ++ [y], ?_⟩⟩
    · rw [B.len]
      exact sz_of_le (Nat.le_trans (List.length_take_le' _ _) (by omega))
    · rw [take_succ h1]
      exact B.step (ex0 H) e3 (hy.mono (grow_mono (ex0 _) (Ex.refl _)))
  cases d with
  | dict _ => cases hv
  | none => walk_at "tw"; exact q _ _ (Ex.refl _) (by cases hv; exact .non)
  | bool _ => walk_at "tw"; exact q _ _ (Ex.refl _) (by cases hv; exact .bl _)
  | int _ => walk_at "tw"; exact q _ _ (Ex.refl _) (by cases hv; exact .int _)
  | str _ => walk_at "tw"; exact q _ _ (Ex.refl _) (by cases hv; exact .str _)
  | list ds =>
    have hd2 : ds.length ≤ 30000 ∧ ∀ d ∈ ds, ∃ m, n = m + 1 ∧ Dep m d := by
      cases n with
      | zero => exact False.elim hd
      | succ m => exact ⟨hd.1, fun d hm => ⟨m, rfl, hd.2 d hm⟩⟩
    obtain ⟨a, xs, rfl, ha, hx⟩ := hv.lst_inv
    walk_at "tw"
    refine ⟨a, rfl, .inl ⟨⟨_, SqL.of ha⟩, ?_⟩⟩
    intro L hL
    refine lc_list (K := K) (xs := xs) (fun i H2 => ∃ ws, BldP L hp0 H H2 ws (ds.take i)) ⟨[], BldP.start hL⟩ (fun i H2 _ ⟨_, B⟩ => SqL.of (B.ex _ _ ha)) ?_ ?_
    · rintro i x H2 hi ⟨ws, B⟩
      walk_at "tw"
      refine ⟨rfl, ?_⟩
      walk_at "tw"
      exact B0 hx hd2.1 hd2.2 hi B fun y H4 z => z
    · rintro H2 ⟨ws, B⟩
      rw [hx.length, List.take_length] at B
      walk_at "tw"
      exact q _ _ B.ex (B.done (ex0 H))
  | tuple ds =>
    have hd2 : ds.length ≤ 30000 ∧ ∀ d ∈ ds, ∃ m, n = m + 1 ∧ Dep m d := by
      cases n with
      | zero => exact False.elim hd
      | succ m => exact ⟨hd.1, fun d hm => ⟨m, rfl, hd.2 d hm⟩⟩
    obtain ⟨a, xs, rfl, ha, hx⟩ := hv.tup_inv
    walk_at "tw"
    refine ⟨a, rfl, .inr ⟨⟨_, SqT.of ha⟩, ?_⟩⟩
    intro L hL
    refine lc_tup (K := K) (xs := xs) (fun i H2 => ∃ ws, BldP L hp0 H H2 ws (ds.take i)) ⟨[], BldP.start hL⟩ (fun i H2 _ ⟨_, B⟩ => SqT.of (B.ex _ _ ha)) ?_ ?_
    · rintro i x H2 hi ⟨ws, B⟩
      walk_at "tw"
      refine ⟨rfl, ?_⟩
      walk_at "tw"
      exact B0 hx hd2.1 hd2.2 hi B fun y H4 z => z
    · rintro H2 ⟨ws, B⟩
      rw [hx.length, List.take_length] at B
      walk_at "tw"
      refine c_tupleL (SqL.of B.at_) fun p hp => ?_
      walk_at "tw"
      exact q _ _ (B.ex.trans (Ex.new hp)) (.tup (grow_new (fresh_back B.ex hp) upd_same) ((B.items (ex0 H)).mono (grow_mono (ex0 _) (Ex.new hp))))
end Tw
namespace Tw
open PySem PySem.Spec PyProof.Rows L2 Evl RZ
/-! ### rows: noughts, unit rows, multiples -/
def rowN (xs : List Nu) : PyData := .list (xs.map Nu.d)
def sp__law_zeros : Sp := fun vs H Q _ => ∃ (p : Int) (n : Nat), vs = [.int p, .int (n : Int)] ∧ 0 ≤ p ∧ n ≤ 10000 ∧ RetN (rowN (List.replicate n (ofInt p 0))) H Q
def t_f_law_zeros (K : PySem.W.Frag) : TS :=
    (tRet (tOp (uMul K) (tLst (tCons (tCall sp__law_int [] E0 (tCons (tVar 0) (tCons (tC (.int 0)) tNil))) tNil)) (tVar 1)))
theorem flat_rep (v : V) : ∀ n : Nat, (List.replicate n [v]).flatten = List.replicate n v
  | 0 => rfl
  | n + 1 => by rw [List.replicate_succ, List.flatten_cons, flat_rep v n, List.replicate_succ]; rfl
theorem c_rep {K : PySem.W.Frag} {H : Hp} {Q : VK} {l : Addr} {v : V} {n : Nat} (h : H l = some (.lst [v])) (hn : n ≤ 100000) (q : ∀ p, H p = none → Q (.ref p) (upd H p (.lst (List.replicate n v)))) : uMul K (.ref l) (.int (n : Int)) H Q := by
  refine .inr (.inr ⟨l, (n : Int), [v], rfl, rfl, h, by omega, by omega, ?_, fun p hp => ?_⟩)
  · rw [List.length_singleton, Nat.one_mul]
    exact Nat.le_of_lt (sz_of_le (by omega))
  · have e : (List.replicate (n : Int).toNat [v]).flatten = List.replicate n v := by
      rw [show (n : Int).toNat = n from by omega]
      exact flat_rep v n
    rw [e]
    exact q p hp
theorem DxA.rep {H : Hp} {v : V} {d : PyData} (h : Dx H v d) : ∀ n : Nat, DxA H (List.replicate n v) (List.replicate n d)
  | 0 => .nil
  | n + 1 => .cons h (DxA.rep h n)
theorem pure_zeros (K : PySem.W.Frag) (vs : List V) (H : Hp) (Q : VK) (E : XK) (h : sp__law_zeros vs H Q E) : t_f_law_zeros K { nx := fun _ H' => Q .non H', rt := Q } (start ["p", "size"] vs) H := by
  obtain ⟨p, n, rfl, p0, hn, q⟩ := h
  unfold t_f_law_zeros
  walk_at "tw"
  refine ⟨hp0, p, 0, rfl, p0, fun v H2 e2 d2 => ?_⟩
  walk_at "tw"
  refine ⟨by show 1 ≤ sizeLine; decide, fun l hl => ?_⟩
  walk_at "tw"
  refine c_rep upd_same (by omega) fun a ha => ?_
  have e3 := e2.trans (Ex.new (o := .lst [v]) hl)
  refine q _ _ (e3.trans (Ex.new ha)) (.lst (grow_new (fresh_back e3 ha) upd_same) ?_)
  rw [List.map_replicate]
  exact DxA.rep (d2.mono (grow_mono (ex0 _) ((Ex.new hl).trans (Ex.new ha)))) n
def sp__law_base : Sp := fun vs H Q _ => ∃ (p k : Int) (n : Nat), vs = [.int p, .int (n : Int), .int k] ∧ 0 ≤ p ∧ n ≤ 10000 ∧ RetN (rowN ((List.range n).map fun i : Nat => ofInt p (if (i : Int) = k then 1 else 0))) H Q
def t_f_law_base (K : PySem.W.Frag) : TS :=
    (tRet (tLc (iRng1 (tCons (tVar 1) tNil)) (gName 3) tYes (tCall sp__law_int [] E0 (tCons (tVar 0) (tCons (tCB (uInt) (tCons (tOp (uEq K) (tVar 3) (tVar 2)) tNil)) tNil))) [3]))
theorem pure_base (K : PySem.W.Frag) (vs : List V) (H : Hp) (Q : VK) (E : XK) (h : sp__law_base vs H Q E) : t_f_law_base K { nx := fun _ H' => Q .non H', rt := Q } (start ["p", "size", "k", "i"] vs) H := by
  obtain ⟨p, k, n, rfl, p0, hn, q⟩ := h
  unfold t_f_law_base
  walk_at "tw"
  refine ⟨_, rfl, by omega, by omega, fun L hL => ?_⟩
  refine lc_range (lo := 0) (n := (n : Int).toNat) (fun i H2 => ∃ ws, BldP L hp0 H H2 ws ((((List.range n).map fun i : Nat => ofInt p (if (i : Int) = k then 1 else 0)).map Nu.d).take i)) ⟨[], BldP.start hL⟩ ?_ ?_
  · rintro i H2 hi ⟨ws, B⟩
    have hi2 : i < n := by omega
    walk_at "tw"
    refine ⟨rfl, ?_⟩
    walk_at "tw"
    have ek : (if decide ((0 : Int) + (i : Int) = k) = true then (1 : Int) else 0) = if (i : Int) = k then 1 else 0 := by
      by_cases z : (i : Int) = k
      · rw [if_pos z, if_pos (decide_eq_true (by omega))]
      · rw [if_neg z, if_neg (by rw [decide_eq_false (by omega)]; decide)]
    refine ⟨hp0, p, _, rfl, p0, fun v H3 e3 d3 => ?_⟩
    rw [ek] at d3
    have hs : (((List.range n).map fun i : Nat => ofInt p (if (i : Int) = k then 1 else 0)).map Nu.d)[i]? = some (ofInt p (if (i : Int) = k then 1 else 0)).d := by
      rw [List.map_map, List.getElem?_map, List.getElem?_range hi2]
      rfl
    refine ⟨ws, e3 _ _ B.at_, sz_of_le (by rw [B.len]; exact Nat.le_trans (List.length_take_le' _ _) (by simp; omega)), ws ++ [v], ?_⟩
    rw [take_succ hs]
    exact B.step (ex0 H) e3 (d3.mono (grow_mono (ex0 _) (Ex.refl _)))
  · rintro H2 ⟨ws, B⟩
    rw [List.take_of_length_le (by simp)] at B
    exact q _ _ B.ex (B.done (ex0 H))
end Tw
namespace Tw
open PySem PySem.Spec PyProof.Rows L2 Evl RZ
/-! ### a factor times a row -/
/-- numbers over p, each of at most n bits -/
def OkN (p : Int) (n : Nat) (xs : List Nu) : Prop := ∀ x ∈ xs, x.ok p ∧ x.le n
theorem DxA.nu2 {G : Hp} {us : List V} {xs : List Nu} {i : Nat} {u : V} (h : DxA G us (xs.map Nu.d)) (e : us[i]? = some u) : ∃ x, xs[i]? = some x ∧ x ∈ xs ∧ Dx G u x.d := by
  obtain ⟨d, h1, h2⟩ := h.get e
  rw [List.getElem?_map] at h1
  cases q : xs[i]? with
  | none => rw [q] at h1; cases h1
  | some x =>
    rw [q] at h1
    cases h1
    exact ⟨x, rfl, List.mem_of_getElem? q, h2⟩
def sp__law_times : Sp := fun vs H Q _ => ∃ (p : Int) (x : Nu) (xs : List Nu) (v w : V) (n m : Nat), vs = [.int p, v, w] ∧ 0 ≤ p ∧ x.ok p ∧ x.le n ∧ OkN p m xs ∧ n + m ≤ 8000 ∧ xs.length ≤ 10000 ∧ Dx H v x.d ∧ Dx H w (rowN xs) ∧ RetN (rowN (xs.map (Nu.mul p x))) H Q
def t_f_law_times (K : PySem.W.Frag) : TS :=
    (tRet (tLc (iSeq K (tVar 2)) (gName 3) tYes (tCall sp__law_mul [] E0 (tCons (tVar 0) (tCons (tVar 1) (tCons (tVar 3) tNil)))) [3]))
theorem pure_times (K : PySem.W.Frag) (vs : List V) (H : Hp) (Q : VK) (E : XK) (h : sp__law_times vs H Q E) : t_f_law_times K { nx := fun _ H' => Q .non H', rt := Q } (start ["p", "factor", "row", "one"] vs) H := by
  obtain ⟨p, x, xs, v, w, n, m, rfl, p0, ok, le, oxs, nm, lx, dv, dw, q⟩ := h
  obtain ⟨a, us, rfl, ha, ru⟩ := Dx.lst_inv dw
  have lu : us.length = xs.length := by rw [ru.length, List.length_map]
  unfold t_f_law_times
  walk_at "tw"
  refine ⟨a, rfl, .inl ⟨⟨_, SqL.of ha⟩, ?_⟩⟩
  intro L hL
  refine lc_list (K := K) (xs := us) (fun i H2 => ∃ ws, BldP L hp0 H H2 ws (((xs.map (Nu.mul p x)).map Nu.d).take i)) ⟨[], BldP.start hL⟩ (fun i H2 _ ⟨_, B⟩ => SqL.of (B.ex _ _ ha)) ?_ ?_
  · rintro i u H2 hi ⟨ws, B⟩
    obtain ⟨y, hy, my, dy⟩ := ru.nu2 hi
    walk_at "tw"
    refine ⟨rfl, ?_⟩
    walk_at "tw"
    refine ⟨hp0, p, x, y, v, u, n, m, rfl, p0, ok, (oxs y my).1, dv.mono B.ex, dy.mono B.ex, le, (oxs y my).2, nm, fun r H3 e3 d3 => ?_⟩
    have hs : ((xs.map (Nu.mul p x)).map Nu.d)[i]? = some (Nu.mul p x y).d := by
      rw [List.getElem?_map, List.getElem?_map, hy]
      rfl
    refine ⟨ws, e3 _ _ B.at_, sz_of_le (by rw [B.len]; exact Nat.le_trans (List.length_take_le' _ _) (by rw [List.length_map, List.length_map]; omega)), ws ++ [r], ?_⟩
    rw [take_succ hs]
    exact B.step (ex0 H) e3 (d3.mono (grow_mono (ex0 _) (Ex.refl _)))
  · rintro H2 ⟨ws, B⟩
    rw [List.take_of_length_le (by rw [List.length_map, List.length_map, lu]; exact Nat.le_refl _)] at B
    walk_at "tw"
    exact q _ _ B.ex (B.done (ex0 H))
end Tw
namespace Tw
open PySem PySem.Spec PyProof.Rows L2 Evl RZ
/-! ### sums of products -/
def dotL (p : Int) (t : Nu) (zs : List (Nu × Nu)) : Nu := zs.foldl (fun t z => Nu.add p t (Nu.mul p z.1 z.2)) t
theorem dotL_append (p : Int) (t : Nu) (zs : List (Nu × Nu)) (z : Nu × Nu) : dotL p t (zs ++ [z]) = Nu.add p (dotL p t zs) (Nu.mul p z.1 z.2) := by
  unfold dotL; rw [List.foldl_append]; rfl
def prodR : Nu × Nu → Int
  | (.r i, .r j) => i * j
  | _ => 0
/-- over rests: the sum of the products, then one rest -/
theorem dotL_rests {p : Int} (hp : 0 < p) : ∀ (zs : List (Nu × Nu)) (a : Int), (∀ z ∈ zs, z.1.ok p ∧ z.2.ok p) → dotL p (.r (a % p)) zs = .r ((a + (zs.map prodR).sum) % p)
  | [], a, _ => by show Nu.r (a % p) = _; rw [List.map_nil, List.sum_nil, Int.add_zero]
  | (x, y) :: zs, a, h => by
    obtain ⟨hx, hy⟩ := h (x, y) List.mem_cons_self
    obtain ⟨i, rfl, _⟩ := Nu.ok_r hp hx
    obtain ⟨j, rfl, _⟩ := Nu.ok_r hp hy
    show dotL p (.r ((a % p + i * j % p) % p)) zs = _
    have e : (a % p + i * j % p) % p = (a + i * j) % p := by rw [← Int.add_emod]
    rw [e, dotL_rests hp zs (a + i * j) fun z hz => h z (List.mem_cons_of_mem _ hz), List.map_cons]
    show Nu.r ((a + i * j + (zs.map prodR).sum) % p) = Nu.r ((a + (i * j :: zs.map prodR).sum) % p)
    rw [List.sum_cons, Int.add_assoc]
theorem zip_get2 {xs ys : List Nu} {i : Nat} {x y : Nu} (hx : xs[i]? = some x) (hy : ys[i]? = some y) : (xs.zip ys)[i]? = some (x, y) := by
  rw [List.getElem?_zip_eq_some]; exact ⟨hx, hy⟩
def t_f_law_dot (K : PySem.W.Frag) : TS :=
    (tSeq (tIfS (tTest (tOp (uGt K) (tVar 0) (tC (.int 0)))) (tRet (tOp uMod (tCB (uInt) (tCons (tCB (uSum K) (tCons (tLc (iRng1 (tCons (tCB (uLen K) (tCons (tVar 1) tNil)) tNil)) (gName 3) tYes (tOp (uMul K) (tOp (uIx K) (tVar 1) (tVar 3)) (tOp (uIx K) (tVar 2) (tVar 3))) [3]) tNil)) tNil)) (tVar 0))) tNext)
    (tSeq (tAsg (tTup (tCons (tC (.int 0)) (tCons (tC (.int 1)) tNil))) (gTup K 2 (gCons (gName 4) (gCons (gName 5) gNil))))
    (tSeq (tFor (iRng1 (tCons (tCB (uLen K) (tCons (tVar 1) tNil)) tNil)) (gName 3) (tSeq (tPar 6 7 (tCons (tOp (uMul K) (tOp (uIx K) (tOp (uIx K) (tVar 1) (tVar 3)) (tC (.int 0))) (tOp (uIx K) (tOp (uIx K) (tVar 2) (tVar 3)) (tC (.int 0)))) (tCons (tOp (uMul K) (tOp (uIx K) (tOp (uIx K) (tVar 1) (tVar 3)) (tC (.int 1))) (tOp (uIx K) (tOp (uIx K) (tVar 2) (tVar 3)) (tC (.int 1)))) tNil)))
    (tIfS (tAnd (tTest (tOp (uNe K) (tVar 6) (tC (.int 0)))) (tTest (tOp (uEq K) (tVar 7) (tVar 5)))) (tAsg (tOp (uAdd K) (tVar 4) (tVar 6)) (gName 4)) (tIfS (tTest (tOp (uNe K) (tVar 6) (tC (.int 0)))) (tSeq (tAsg (tCall sp__law_gcd [] E0 (tCons (tVar 5) (tCons (tVar 7) tNil))) (gName 8))
    (tPar 4 5 (tCons (tOp (uAdd K) (tOp (uMul K) (tVar 4) (tOp uFdiv (tVar 7) (tVar 8))) (tOp (uMul K) (tVar 6) (tOp uFdiv (tVar 5) (tVar 8)))) (tCons (tOp (uMul K) (tOp uFdiv (tVar 5) (tVar 8)) (tVar 7)) tNil)))) tNext))))
    (tRet (tCall sp__law_num [] E0 (tCons (tC (.int 0)) (tCons (tVar 4) (tCons (tVar 5) tNil))))))))
theorem rowN_inv {H : Hp} {v : V} {xs : List Nu} (h : Dx H v (rowN xs)) : ∃ a vs, v = .ref a ∧ H a = some (.lst vs) ∧ DxA H vs (xs.map Nu.d) ∧ vs.length = xs.length := by
  obtain ⟨a, vs, e, ha, r⟩ := Dx.lst_inv h
  exact ⟨a, vs, e, ha, r, by rw [r.length, List.length_map]⟩
theorem pure_dotP (K : PySem.W.Frag) (p : Int) (xs ys : List Nu) (v w : V) (H : Hp) (Q : VK) (hp : 0 < p) (hp1 : p ≤ 10007) (ox : ∀ x ∈ xs, x.ok p) (oy : ∀ y ∈ ys, y.ok p) (hl : xs.length = ys.length) (lx : xs.length ≤ 10000) (dv : Dx H v (rowN xs)) (dw : Dx H w (rowN ys)) (q : RetN (dotL p (ofInt p 0) (xs.zip ys)).d H Q) :
    t_f_law_dot K { nx := fun _ H' => Q .non H', rt := Q } (start ["p", "one", "two", "k", "top", "bottom", "part", "below", "common"] [.int p, v, w]) H := by
  obtain ⟨a, us, rfl, ha, ru, lu⟩ := rowN_inv dv
  obtain ⟨b, ws, rfl, hb, rw2, lw⟩ := rowN_inv dw
  unfold t_f_law_dot
  walk_at "tw"
  refine ⟨_, rfl, by omega, by omega, fun L hL => ?_⟩
  have hn : ((us.length : Nat) : Int).toNat = xs.length := by omega
  rw [hn]
  refine lc_range (lo := 0) (n := xs.length) (fun i H2 => Ex H H2 ∧ H2 L = some (.lst ((((xs.zip ys).take i).map prodR).map V.int))) ⟨Ex.new hL, upd_same⟩ ?_ ?_
  · rintro i H2 hi ⟨e2, h2⟩
    have ha2 := e2 _ _ ha
    have hb2 := e2 _ _ hb
    have hu : us[i]? = some us[i] := List.getElem?_eq_getElem (by omega)
    have hw : ws[i]? = some ws[i] := List.getElem?_eq_getElem (by omega)
    obtain ⟨nx, ex, mx, dx⟩ := ru.nu2 hu
    obtain ⟨ny, ey, my, dy⟩ := rw2.nu2 hw
    obtain ⟨i1, rfl, i0, i2⟩ := Nu.ok_r hp (ox _ mx)
    obtain ⟨j1, rfl, j0, j2⟩ := Nu.ok_r hp (oy _ my)
    have u1 := dx.int_inv
    have u2 := dy.int_inv
    have ei : (0 : Int) + (i : Int) = (i : Int) := by omega
    walk_at "tw"
    refine ⟨rfl, ?_⟩
    walk_at "tw"
    refine c_ixL (v := us[i]) (SqL.of ha2) (by rw [ei]; exact atI_nat hu) ?_
    walk_at "tw"
    refine c_ixL (v := ws[i]) (SqL.of hb2) (by rw [ei]; exact atI_nat hw) ?_
    rw [u1, u2]
    walk_at "tw"
    refine ⟨_, h2, ?_, e2.mut hL, ?_⟩
    · rw [List.length_map, List.length_map]
      exact sz_of_le (Nat.le_trans (List.length_take_le' _ _) (by rw [List.length_zip]; omega))
    · rw [take_succ (zip_get2 ex ey), List.map_append, List.map_append]
      exact upd_same
  · rintro H2 ⟨e2, h2⟩
    walk_at "tw"
    have ez : (xs.zip ys).take xs.length = xs.zip ys := List.take_of_length_le (by rw [List.length_zip]; omega)
    rw [ez] at h2
    refine ⟨L, _, rfl, SqL.of h2, ?_⟩
    walk_at "tw"
    have fin := dotL_rests hp (xs.zip ys) 0 fun z hz => ⟨ox _ (List.of_mem_zip hz).1, oy _ (List.of_mem_zip hz).2⟩
    rw [← ofInt_r hp, Int.zero_add] at fin
    rw [fin] at q
    exact q _ _ e2 (.int _)
end Tw
namespace Tw
open PySem PySem.Spec PyProof.Rows L2 Evl RZ
/-! ### _law_dot over fractions -/
theorem c_tupG2 {K : PySem.W.Frag} {σ : L2.St} {H : Hp} {Q : VK} {v : V} {p : Addr} {x y : V} (h : v = .ref p) (hp : H p = some (.tup [x, y])) (q : Q y H) : uIx K v (.int 1) H Q := by
  subst h
  exact c_ixT (SqT.of hp) rfl q
theorem grow0_back0 {G H2 H3 H4 : Hp} (e : Ex H2 H3) : Ex (grow hp0 H3 H4) (grow G H2 H4) := fun z o k => by
  cases q : H3 z with
  | some u => rw [grow_old q] at k; cases k
  | none =>
    unfold grow at k
    rw [q] at k
    exact grow_new (fresh_back e q) k
theorem RetN.back0 {d : PyData} {H H1 : Hp} {Q : VK} (q : RetN d H Q) (e : Ex H H1) : RetN d H1 Q := fun v H2 e2 h => q v H2 (e.trans e2) (h.mono (grow0_back0 e))
theorem dot_same (t u b : Int) (hb : b ≠ 0) : Rat.divInt t b + Rat.divInt u b = Rat.divInt (t + u) b := by
  rw [Rat.divInt_add_divInt _ _ hb hb, Rat.divInt_eq_divInt_iff (by
    intro z
    rcases Int.mul_eq_zero.mp z with z | z <;> exact hb z) hb]
  grind
theorem dot_step (t b u c g : Int) (hb : b ≠ 0) (hc : c ≠ 0) (hg : g ≠ 0) (db : g ∣ b) (dc : g ∣ c) : Rat.divInt t b + Rat.divInt u c = Rat.divInt (t * (c / g) + u * (b / g)) (b / g * c) := by
  obtain ⟨b1, rfl⟩ := db
  obtain ⟨c1, rfl⟩ := dc
  rw [Int.mul_ediv_cancel_left _ hg, Int.mul_ediv_cancel_left _ hg]
  have hb1 : b1 ≠ 0 := fun z => hb (by rw [z, Int.mul_zero])
  have hc1 : c1 ≠ 0 := fun z => hc (by rw [z, Int.mul_zero])
  have n1 : g * b1 * (g * c1) ≠ 0 := fun z => (Int.mul_eq_zero.mp z).elim hb hc
  have n2 : b1 * (g * c1) ≠ 0 := fun z => (Int.mul_eq_zero.mp z).elim hb1 hc
  rw [Rat.divInt_add_divInt _ _ hb hc, Rat.divInt_eq_divInt_iff n1 n2]
  grind
theorem pure_dotF (K : PySem.W.Frag) (xs ys : List Nu) (v w : V) (H : Hp) (Q : VK) (n m : Nat) (ox : OkN 0 n xs) (oy : OkN 0 m ys) (hl : xs.length = ys.length) (lx : xs.length ≤ 10000) (hz : (n + m + 2) * xs.length ≤ 7000) (hnm : n + m ≤ 7000) (dv : Dx H v (rowN xs)) (dw : Dx H w (rowN ys)) (q : RetN (dotL 0 (ofInt 0 0) (xs.zip ys)).d H Q) :
    t_f_law_dot K { nx := fun _ H' => Q .non H', rt := Q } (start ["p", "one", "two", "k", "top", "bottom", "part", "below", "common"] [.int 0, v, w]) H := by
  obtain ⟨a, us, rfl, ha, ru, lu⟩ := rowN_inv dv
  obtain ⟨b, ws, rfl, hb, rw2, lw⟩ := rowN_inv dw
  unfold t_f_law_dot
  walk_at "tw"
  refine ⟨by show 2 ≤ sizeLine; decide, fun t0 ht0 => ?_⟩
  have e0 : Ex H (upd H t0 (.tup [.int 0, .int 1])) := Ex.new ht0
  have ha1 := e0 _ _ ha
  walk_at "tw"
  refine ⟨_, rfl, by omega, by omega, ?_⟩
  have hn : ((us.length : Nat) : Int).toNat = xs.length := by omega
  rw [hn]
  refine for_range (lo := 0) (n := xs.length) (fun i σ' H2 => ∃ (tp bt : Int) (qq : Rat) (o3 o6 o7 o8 : Option V), σ' = [some (.int 0), some (.ref a), some (.ref b), o3, some (.int tp), some (.int bt), o6, o7, o8] ∧ H2 = upd H t0 (.tup [.int 0, .int 1]) ∧ 0 < bt ∧ dotL 0 (ofInt 0 0) ((xs.zip ys).take i) = .f qq ∧ Rat.divInt tp bt = qq ∧ tp.natAbs < 2 ^ ((n + m + 2) * i + 1) ∧ bt.natAbs < 2 ^ ((n + m + 2) * i + 1))
    ⟨0, 1, 0, none, none, none, none, rfl, rfl, by decide, by show Nu.f _ = _; rfl, by decide, by rw [Nat.mul_zero]; decide, by rw [Nat.mul_zero]; decide⟩ ?_ ?_
  · rintro i σ' H2 hi ⟨tp, bt, qq, o3, o6, o7, o8, rfl, rfl, b0, val, vq, k1, k2⟩
    have ha2 := e0 _ _ ha
    have hb2 := e0 _ _ hb
    have hu : us[i]? = some us[i] := List.getElem?_eq_getElem (by omega)
    have hw : ws[i]? = some ws[i] := List.getElem?_eq_getElem (by omega)
    obtain ⟨nx, ex, mx, dx⟩ := ru.nu2 hu
    obtain ⟨ny, ey, my, dy⟩ := rw2.nu2 hw
    obtain ⟨x, rfl⟩ := Nu.ok_f rfl (ox _ mx).1
    obtain ⟨y, rfl⟩ := Nu.ok_f rfl (oy _ my).1
    obtain ⟨l1, l2⟩ := (ox _ mx).2
    obtain ⟨l3, l4⟩ := (oy _ my).2
    obtain ⟨va, hva, ata⟩ := (dx.mono e0).frac_inv
    obtain ⟨vb, hvb, atb⟩ := (dy.mono e0).frac_inv
    have ei : (0 : Int) + (i : Int) = (i : Int) := by omega
    walk_at "tw"
    refine c_ixL (v := us[i]) (SqL.of ha2) (by rw [ei]; exact atI_nat hu) ?_
    rw [hva]
    walk_at "tw"
    refine c_ixL (v := ws[i]) (SqL.of hb2) (by rw [ei]; exact atI_nat hw) ?_
    rw [hvb]
    walk_at "tw"
    refine c_mulI (mul_wide l1 l3 (by omega)) ?_
    walk_at "tw"
    refine c_ixL (v := us[i]) (SqL.of ha2) (by rw [ei]; exact atI_nat hu) ?_
    rw [hva]
    walk_at "tw"
    refine c_ixL (v := ws[i]) (SqL.of hb2) (by rw [ei]; exact atI_nat hw) ?_
    rw [hvb]
    walk_at "tw"
    refine c_mulI (mul_wide l2 l4 (by omega)) ?_
    have be0 : 0 < (x.den : Int) * (y.den : Int) := den_mul_pos x y
    have pb : (x.num * y.num).natAbs < 2 ^ (n + m) := by rw [Int.natAbs_mul]; exact lt_pow_mul l1 l3
    have bb : ((x.den : Int) * (y.den : Int)).natAbs < 2 ^ (n + m) := by rw [Int.natAbs_mul]; exact lt_pow_mul l2 l4
    have vxy : x * y = Rat.divInt (x.num * y.num) ((x.den : Int) * (y.den : Int)) := mul_frac x y
    have val2 : dotL 0 (ofInt 0 0) ((xs.zip ys).take (i + 1)) = .f (qq + x * y) := by
      rw [take_succ (zip_get2 ex ey), dotL_append, val]
      rfl
    have up : (n + m + 2) * (i + 1) + 1 = (n + m + 2) * i + 1 + (n + m) + 2 := by
      rw [Nat.mul_add, Nat.mul_one]
      omega
    have small : (n + m + 2) * i + 1 + (n + m) ≤ 7900 := by
      have h1 : (n + m + 2) * i ≤ (n + m + 2) * xs.length := Nat.mul_le_mul_left _ (by omega)
      have h2 : n + m + 2 ≤ (n + m + 2) * xs.length := Nat.le_mul_of_pos_right _ (by omega)
      have h3 : (n + m + 2) * (i + 1) ≤ (n + m + 2) * xs.length := Nat.mul_le_mul_left _ (by omega)
      omega
    have k1' : tp.natAbs < 2 ^ ((n + m + 2) * (i + 1) + 1) := Nat.lt_of_lt_of_le k1 (Nat.pow_le_pow_right (by decide) (by omega))
    have k2' : bt.natAbs < 2 ^ ((n + m + 2) * (i + 1) + 1) := Nat.lt_of_lt_of_le k2 (Nat.pow_le_pow_right (by decide) (by omega))
    generalize hpa : x.num * y.num = pa at pb vxy ⊢
    generalize hbe : (x.den : Int) * (y.den : Int) = be at be0 bb vxy ⊢
    walk_at "tw"
    refine c_ite (fun h1 => ?_) (fun h1 => ?_)
    · walk_at "tw"
      refine c_ite (fun h2 => ?_) (fun h2 => ?_)
      · have eb : be = bt := of_decide_eq_true h2
        subst eb
        walk_at "tw"
        refine ⟨_, _, _, _, _, _, _, rfl, rfl, be0, val2, ?_, ?_, k2'⟩
        · rw [vxy, ← vq, dot_same _ _ _ (by omega)]
        · refine Nat.lt_of_le_of_lt (Int.natAbs_add_le _ _) ?_
          have z1 : tp.natAbs < 2 ^ ((n + m + 2) * i + 1 + (n + m)) := Nat.lt_of_lt_of_le k1 (Nat.pow_le_pow_right (by decide) (by omega))
          have z2 : pa.natAbs < 2 ^ ((n + m + 2) * i + 1 + (n + m)) := Nat.lt_of_lt_of_le pb (Nat.pow_le_pow_right (by decide) (by omega))
          exact Nat.lt_of_lt_of_le (lt_pow_add z1 z2) (Nat.pow_le_pow_right (by decide) (by omega))
      · have nb : ¬ be = bt := of_decide_eq_false h2
        walk_at "tw"
        refine c_iteT h1 ?_
        walk_at "tw"
        refine ⟨bt, be, rfl, ?_⟩
        have g0 : 0 < Nat.gcd bt.natAbs be.natAbs := Nat.gcd_pos_of_pos_right _ (by omega)
        have gl : Nat.gcd bt.natAbs be.natAbs ≤ be.natAbs := Nat.gcd_le_right _ (by omega)
        have db : ((Nat.gcd bt.natAbs be.natAbs : Nat) : Int) ∣ bt := Int.ofNat_dvd_left.mpr (Nat.gcd_dvd_left _ _)
        have dc : ((Nat.gcd bt.natAbs be.natAbs : Nat) : Int) ∣ be := Int.ofNat_dvd_left.mpr (Nat.gcd_dvd_right _ _)
        have dw : ∀ z : Int, CDivW z ((Nat.gcd bt.natAbs be.natAbs : Nat) : Int) := fun z => wide_div (b := 8000) (by omega) (by
          rw [Int.natAbs_natCast]
          exact Nat.lt_of_le_of_lt gl (Nat.lt_of_lt_of_le bb (Nat.pow_le_pow_right (by decide) (by omega)))) (by decide) (by decide)
        have vst := dot_step tp bt pa be ((Nat.gcd bt.natAbs be.natAbs : Nat) : Int) (by omega) (by omega) (by omega) db dc
        have gb : (bt / ((Nat.gcd bt.natAbs be.natAbs : Nat) : Int)).natAbs < 2 ^ ((n + m + 2) * i + 1) := Nat.lt_of_le_of_lt (Int.natAbs_ediv_le_natAbs _ _) k2
        have gc : (be / ((Nat.gcd bt.natAbs be.natAbs : Nat) : Int)).natAbs < 2 ^ (n + m) := Nat.lt_of_le_of_lt (Int.natAbs_ediv_le_natAbs _ _) bb
        have bpos : 0 < bt / ((Nat.gcd bt.natAbs be.natAbs : Nat) : Int) := by
          obtain ⟨c, hc⟩ := db
          have gi : (0 : Int) < ((Nat.gcd bt.natAbs be.natAbs : Nat) : Int) := by omega
          have : bt / ((Nat.gcd bt.natAbs be.natAbs : Nat) : Int) = c := by
            refine Int.ediv_eq_of_eq_mul_right (by omega) hc
          rw [this]
          refine Int.pos_of_mul_pos_right (a := ((Nat.gcd bt.natAbs be.natAbs : Nat) : Int)) ?_ gi
          rw [← hc]
          exact b0
        generalize ((Nat.gcd bt.natAbs be.natAbs : Nat) : Int) = g at dw vst gb gc bpos ⊢
        walk_at "tw"
        refine c_fdivI (dw _) ?_
        refine c_mulI (mul_wide k1 gc (by omega)) ?_
        walk_at "tw"
        refine c_fdivI (dw _) ?_
        refine c_mulI (mul_wide pb gb (by omega)) ?_
        walk_at "tw"
        refine c_fdivI (dw _) ?_
        walk_at "tw"
        refine c_mulI (mul_wide gb bb (by omega)) ?_
        walk_at "tw"
        refine ⟨_, _, _, _, _, _, _, rfl, rfl, Int.mul_pos bpos be0, val2, ?_, ?_, ?_⟩
        · rw [vxy, ← vq, vst]
        · refine Nat.lt_of_le_of_lt (Int.natAbs_add_le _ _) ?_
          rw [Int.natAbs_mul, Int.natAbs_mul]
          have z1 : tp.natAbs * (be / g).natAbs < 2 ^ ((n + m + 2) * i + 1 + (n + m)) := lt_pow_mul k1 gc
          have z2 : pa.natAbs * (bt / g).natAbs < 2 ^ ((n + m + 2) * i + 1 + (n + m)) := by
            rw [Nat.add_comm ((n + m + 2) * i + 1)]
            exact lt_pow_mul pb gb
          exact Nat.lt_of_lt_of_le (lt_pow_add z1 z2) (Nat.pow_le_pow_right (by decide) (by omega))
        · rw [Int.natAbs_mul]
          exact Nat.lt_of_lt_of_le (lt_pow_mul gb bb) (Nat.pow_le_pow_right (by decide) (by omega))
    · walk_at "tw"
      refine c_iteF h1 ?_
      walk_at "tw"
      have p0 : pa = 0 := by
        cases z : decide (pa = 0) with
        | true => exact of_decide_eq_true z
        | false => rw [z] at h1; cases h1
      refine ⟨_, _, _, _, _, _, _, rfl, rfl, b0, val2, ?_, k1', k2'⟩
      rw [vxy, p0, Rat.zero_divInt, Rat.add_zero]
      exact vq
  · rintro σ' H2 ⟨tp, bt, qq, o3, o6, o7, o8, rfl, rfl, b0, val, vq, k1, k2⟩
    walk_at "tw"
    rw [List.take_of_length_le (by rw [List.length_zip]; omega)] at val
    rw [val] at q
    refine .inl ⟨hp0, tp, bt, rfl, b0, Nat.lt_of_lt_of_le k2 (Nat.pow_le_pow_right (by decide) (by omega)), ?_⟩
    rw [vq]
    exact RetN.back0 q e0
end Tw
namespace Tw
open PySem PySem.Spec PyProof.Rows L2 Evl RZ
/-! ### _law_dot, _law_combined -/
def dotN (p : Int) (xs ys : List Nu) : Nu := dotL p (ofInt p 0) (xs.zip ys)
def sp__law_dot : Sp := fun vs H Q _ => ∃ (p : Int) (xs ys : List Nu) (v w : V) (n m : Nat), vs = [.int p, v, w] ∧ 0 ≤ p ∧ p ≤ 10007 ∧ OkN p n xs ∧ OkN p m ys ∧ xs.length = ys.length ∧ xs.length ≤ 10000 ∧ (n + m + 2) * xs.length ≤ 7000 ∧ n + m ≤ 7000 ∧ Dx H v (rowN xs) ∧ Dx H w (rowN ys) ∧ RetN (dotN p xs ys).d H Q
theorem pure_ldot (K : PySem.W.Frag) (vs : List V) (H : Hp) (Q : VK) (E : XK) (h : sp__law_dot vs H Q E) : t_f_law_dot K { nx := fun _ H' => Q .non H', rt := Q } (start ["p", "one", "two", "k", "top", "bottom", "part", "below", "common"] vs) H := by
  obtain ⟨p, xs, ys, v, w, n, m, rfl, p0, p1, ox, oy, hl, lx, hz, hnm, dv, dw, q⟩ := h
  rcases Int.lt_or_eq_of_le p0 with hp | hp
  · exact pure_dotP K p xs ys v w H Q hp p1 (fun x hx => (ox x hx).1) (fun y hy => (oy y hy).1) hl lx dv dw q
  · have hp2 : p = 0 := hp.symm
    subst hp2
    exact pure_dotF K xs ys v w H Q n m ox oy hl lx hz hnm dv dw q
def col (p : Int) (k : Nat) (rs : List (List Nu)) : List Nu := rs.map fun r => r.getD k (ofInt p 0)
def combN (p : Int) (fs : List Nu) (rs : List (List Nu)) (size : Nat) : List Nu := (List.range size).map fun k => dotN p fs (col p k rs)
def tblN (rs : List (List Nu)) : PyData := .list (rs.map rowN)
def sp__law_combined : Sp := fun vs H Q _ => ∃ (p : Int) (fs : List Nu) (rs : List (List Nu)) (v w : V) (size n m : Nat), vs = [.int p, v, w, .int (size : Int)] ∧ 0 ≤ p ∧ p ≤ 10007 ∧ OkN p n fs ∧ (∀ r ∈ rs, OkN p m r ∧ r.length = size) ∧ fs.length = rs.length ∧ fs.length ≤ 10000 ∧ size ≤ 10000 ∧
  (n + m + 2) * fs.length ≤ 7000 ∧ n + m ≤ 7000 ∧ Dx H v (rowN fs) ∧ Dx H w (tblN rs) ∧ RetN (rowN (combN p fs rs size)) H Q
def t_f_law_combined (K : PySem.W.Frag) : TS :=
    (tRet (tLc (iRng1 (tCons (tVar 3) tNil)) (gName 4) tYes (tCall sp__law_dot [] E0 (tCons (tVar 0) (tCons (tVar 1) (tCons (tLc (iSeq K (tVar 2)) (gName 5) tYes (tOp (uIx K) (tVar 5) (tVar 4)) [5]) tNil)))) [4]))
theorem DxA.row {G : Hp} {us : List V} {rs : List (List Nu)} {i : Nat} {u : V} (h : DxA G us (rs.map rowN)) (e : us[i]? = some u) : ∃ r, rs[i]? = some r ∧ r ∈ rs ∧ Dx G u (rowN r) := by
  obtain ⟨d, h1, h2⟩ := h.get e
  rw [List.getElem?_map] at h1
  cases q : rs[i]? with
  | none => rw [q] at h1; cases h1
  | some x =>
    rw [q] at h1
    cases h1
    exact ⟨x, rfl, List.mem_of_getElem? q, h2⟩
theorem pure_combined (K : PySem.W.Frag) (vs : List V) (H : Hp) (Q : VK) (E : XK) (h : sp__law_combined vs H Q E) : t_f_law_combined K { nx := fun _ H' => Q .non H', rt := Q } (start ["p", "factors", "rows", "size", "k", "row"] vs) H := by
  obtain ⟨p, fs, rs, v, w, size, n, m, rfl, p0, p1, of, ors, hl, lf, lz, hz, hnm, dv, dw, q⟩ := h
  obtain ⟨a, us, rfl, ha, ru⟩ := Dx.lst_inv dw
  have lu : us.length = rs.length := by rw [ru.length, List.length_map]
  unfold t_f_law_combined
  walk_at "tw"
  refine ⟨_, rfl, by omega, by omega, fun L hL => ?_⟩
  have hn : ((size : Nat) : Int).toNat = size := by omega
  rw [hn]
  refine lc_range (lo := 0) (n := size) (fun i H2 => ∃ ws, BldP L hp0 H H2 ws (((combN p fs rs size).map Nu.d).take i)) ⟨[], BldP.start hL⟩ ?_ ?_
  · rintro i H2 hi ⟨ws, B⟩
    have ha2 := B.ex _ _ ha
    have ei : (0 : Int) + (i : Int) = (i : Int) := by omega
    walk_at "tw"
    refine ⟨rfl, ?_⟩
    walk_at "tw"
    refine ⟨a, rfl, .inl ⟨⟨_, SqL.of ha2⟩, ?_⟩⟩
    intro M hM
    refine lc_list (K := K) (xs := us) (fun j H3 => ∃ cs, BldP M H2 H2 H3 cs (((col p i rs).map Nu.d).take j)) ⟨[], BldP.start hM⟩ (fun j H3 _ ⟨_, C⟩ => SqL.of (C.ex _ _ ha2)) ?_ ?_
    · rintro j u H3 hj ⟨cs, C⟩
      obtain ⟨r, hr, mr, dr⟩ := ru.row hj
      obtain ⟨or_, lr⟩ := ors r mr
      obtain ⟨_, ts, eu, hu, rt, lt⟩ := rowN_inv dr
      cases eu
      have hu3 := C.ex _ _ (B.ex _ _ hu)
      have hti : ts[i]? = some ts[i] := List.getElem?_eq_getElem (by omega)
      obtain ⟨y, hy, my, dy⟩ := rt.nu2 hti
      walk_at "tw"
      refine ⟨rfl, ?_⟩
      walk_at "tw"
      refine c_ixL (v := ts[i]) (SqL.of hu3) (by rw [ei]; exact atI_nat hti) ?_
      have hs : ((col p i rs).map Nu.d)[j]? = some y.d := by
        unfold col
        rw [List.getElem?_map, List.getElem?_map, hr]
        show some (Nu.d (r.getD i (ofInt p 0))) = _
        rw [List.getD_eq_getElem?_getD, hy]
        rfl
      refine ⟨cs, C.at_, sz_of_le (by rw [C.len]; refine Nat.le_trans (List.length_take_le' _ _) ?_; unfold col; rw [List.length_map, List.length_map]; omega), cs ++ [ts[i]], ?_⟩
      rw [take_succ hs]
      refine C.step (Ex.refl _) (Ex.refl _) (dy.mono ((B.ex.trans (grow_ex (Ex.new hM))).trans (grow_ex (grow_in C.ex))))
    · rintro H3 ⟨cs, C⟩
      have lcol : (col p i rs).length = rs.length := by unfold col; rw [List.length_map]
      rw [List.take_of_length_le (by rw [List.length_map, lcol, lu]; exact Nat.le_refl _)] at C
      have okc : OkN p m (col p i rs) := fun y hy => by
        unfold col at hy
        obtain ⟨r, mr, rfl⟩ := List.mem_map.mp hy
        obtain ⟨or_, lr⟩ := ors r mr
        rw [List.getD_eq_getElem?_getD, List.getElem?_eq_getElem (by omega)]
        exact or_ _ (List.getElem_mem _)
      walk_at "tw"
      refine ⟨p, fs, col p i rs, v, .ref M, n, m, rfl, p0, p1, of, okc, by omega, lf, hz, hnm, dv.mono (B.ex.trans C.ex), (C.done (Ex.refl _)).mono (grow_in C.ex), fun r H4 e4 d4 => ?_⟩
      have hs : ((combN p fs rs size).map Nu.d)[i]? = some (dotN p fs (col p i rs)).d := by
        unfold combN
        rw [List.map_map, List.getElem?_map, List.getElem?_range hi]
        rfl
      refine ⟨ws, (C.ex.trans e4) _ _ B.at_, sz_of_le (by rw [B.len]; refine Nat.le_trans (List.length_take_le' _ _) ?_; unfold combN; simp; omega), ws ++ [r], ?_⟩
      rw [take_succ hs]
      exact B.step (ex0 H) (C.ex.trans e4) (d4.mono (grow0_back0 C.ex))
  · rintro H2 ⟨ws, B⟩
    rw [List.take_of_length_le (by unfold combN; simp)] at B
    exact q _ _ B.ex (B.done (ex0 H))
end Tw
namespace Tw
open PySem PySem.Spec PyProof.Rows L2 Evl RZ
/-! ### powers of a point (none: the far one) -/
def ptD : Option Nu → PyData
  | none => .str "far"
  | some x => x.d
def pwN (p : Int) (x : Nu) : Nat → Nu
  | 0 => ofInt p 1
  | k + 1 => Nu.mul p (pwN p x k) x
def powN (p : Int) : Option Nu → Nat → List Nu
  | none, size => (List.range size).map fun i : Nat => ofInt p (if (i : Int) = (size : Int) - 1 then 1 else 0)
  | some x, size => (List.range size).map (pwN p x)
theorem ofInt1_le (p : Int) : (ofInt p 1).le 1 := by
  unfold ofInt
  split
  · rename_i h
    show ((1 : Int) % p).natAbs < 2 ^ 1
    have h1 := emod_le (a := 1) (by decide) h
    have h2 : 0 ≤ (1 : Int) % p := Int.emod_nonneg _ (by omega)
    omega
  · show ((1 : Int) : Rat).num.natAbs < 2 ^ 1 ∧ ((1 : Int) : Rat).den < 2 ^ 1
    decide
theorem pwN_ok {p : Int} {x : Nu} {n : Nat} (p0 : 0 ≤ p) (hx : x.ok p) (hl : x.le n) : ∀ k, (pwN p x k).ok p ∧ (pwN p x k).le (n * k + 1)
  | 0 => ⟨ofInt_ok p0, ofInt1_le p⟩
  | k + 1 => by
    obtain ⟨h1, h2⟩ := pwN_ok p0 hx hl k
    refine ⟨Nu.mul_ok h1 hx, Nu.le_mono ?_ (Nu.mul_le h1 hx h2 hl)⟩
    rw [Nat.mul_add, Nat.mul_one]
    omega
theorem far_no {x : Nu} : PyData.eqv x.d (.str "far") = false := by
  cases x <;> rfl
theorem sh_nu {x : Nu} : SeqAt.shaped x.d = true := by
  cases x <;> rfl
theorem BldP.start1 {L : Addr} {H H1 : Hp} {u : V} {d : PyData} (e1 : Ex H H1) (hL : H1 L = none) (du : Dx (grow hp0 H H1) u d) : BldP L hp0 H (upd H1 L (.lst [u])) [u] [d] := by
  refine ⟨e1.trans (Ex.new hL), fresh_back e1 hL, upd_same, .cons (du.mono fun a o h => ?_) .nil⟩
  cases q : H a with
  | some z => rw [grow_old q] at h; cases h
  | none =>
    unfold grow at h
    rw [q] at h
    have aL : a ≠ L := ne_of_none h hL
    refine grow_new ?_ ?_
    · rw [upd_ne aL]; exact q
    · rw [upd_ne aL]; exact h
def sp__law_powers : Sp := fun vs H Q _ => ∃ (p : Int) (q : Option Nu) (v : V) (size n : Nat), vs = [.int p, v, .int (size : Int)] ∧ 0 ≤ p ∧ (∀ x, q = some x → x.ok p ∧ x.le n) ∧ 1 ≤ size ∧ size ≤ 100 ∧ n * size + n + 1 ≤ 7000 ∧ Dx H v (ptD q) ∧ RetN (rowN (powN p q size)) H Q
def t_f_law_powers (K : PySem.W.Frag) : TS :=
    (tSeq (tIfS (tTest (tOp (uEq K) (tVar 1) (tC (.str "far")))) (tRet (tCall sp__law_base [] E0 (tCons (tVar 0) (tCons (tVar 2) (tCons (tOp uSub (tVar 2) (tC (.int 1))) tNil))))) tNext)
    (tSeq (tAsg (tLst (tCons (tCall sp__law_int [] E0 (tCons (tVar 0) (tCons (tC (.int 1)) tNil))) tNil)) (gName 3))
    (tSeq (tFor (iRng1 (tCons (tOp uSub (tVar 2) (tC (.int 1))) tNil)) (gName 4) (tDrop (tBM K "list" rAppend (tVar 3) (tCons (tCall sp__law_mul [] E0 (tCons (tVar 0) (tCons (tOp (uIx K) (tVar 3) (tUn uNeg (tC (.int 1)))) (tCons (tVar 1) tNil)))) tNil))))
    (tRet (tVar 3)))))
theorem pure_powers (K : PySem.W.Frag) (vs : List V) (H : Hp) (Q : VK) (E : XK) (h : sp__law_powers vs H Q E) : t_f_law_powers K { nx := fun _ H' => Q .non H', rt := Q } (start ["p", "point", "size", "told", "k"] vs) H := by
  obtain ⟨p, pt, v, size, n, rfl, p0, ok, s1, s2, hz, dv, q⟩ := h
  unfold t_f_law_powers
  cases pt with
  | none =>
    cases dv
    walk_at "tw"
    have es : (size : Int) - 1 = (size : Int) - 1 := rfl
    refine ⟨p, (size : Int) - 1, size, rfl, p0, by omega, q⟩
  | some x =>
    obtain ⟨hx, hlx⟩ := ok x rfl
    walk_at "tw"
    refine c_eqD dv (.str "far") sh_nu (by decide +kernel) ?_
    rw [show PyData.eqv (ptD (some x)) (.str "far") = false from far_no]
    walk_at "tw"
    refine ⟨hp0, p, 1, rfl, p0, fun u H1 e1 d1 => ?_⟩
    walk_at "tw"
    refine ⟨by show 1 ≤ sizeLine; decide, fun L hL => ?_⟩
    walk_at "tw"
    refine ⟨_, rfl, by omega, by omega, ?_⟩
    have hn : ((size : Int) - 1).toNat = size - 1 := by omega
    rw [hn]
    have hd : ∀ i, i < size → ((powN p (some x) size).map Nu.d)[i]? = some (pwN p x i).d := fun i hi => by
      unfold powN
      rw [List.map_map, List.getElem?_map, List.getElem?_range hi]
      rfl
    have t1 : ((powN p (some x) size).map Nu.d).take 1 = [(ofInt p 1).d] := by
      rw [take_succ (hd 0 (by omega))]
      rfl
    refine for_range (lo := 0) (n := size - 1) (fun i σ' H2 => ∃ (ws : List V) (o4 : Option V), σ' = [some (.int p), some v, some (.int (size : Int)), some (.ref L), o4] ∧ BldP L hp0 H H2 ws (((powN p (some x) size).map Nu.d).take (i + 1))) ⟨[u], none, rfl, by rw [t1]; exact BldP.start1 e1 hL d1⟩ ?_ ?_
    · rintro i σ' H2 hi ⟨ws, o4, rfl, B⟩
      have hlen : ws.length = i + 1 := by
        rw [B.len, List.length_take]
        unfold powN
        simp
        omega
      have hw : ws[i]? = some ws[i] := List.getElem?_eq_getElem (by omega)
      obtain ⟨d, hd1, hd2⟩ := B.data.get hw
      rw [List.getElem?_take_of_lt (by omega), hd i (by omega)] at hd1
      cases hd1
      have last : atI ws (-1) = some ws[i] := by
        have e : ws = ws.dropLast ++ [ws[i]] := by
          have hne : ws ≠ [] := fun z => by rw [z] at hlen; cases hlen
          have hg : ws.getLast hne = ws[i] := by rw [List.getLast_eq_getElem]; congr 1; omega
          rw [← hg, List.dropLast_concat_getLast]
        exact (congrArg (fun z => atI z (-1)) e).trans (atI_last _ _)
      obtain ⟨okx, lex⟩ := pwN_ok p0 hx hlx i
      have hB := B.at_
      walk_at "tw"
      refine ⟨c_tyL hB, ?_⟩
      walk_at "tw"
      refine ⟨hp0, p, _, x, ws[i], v, _, n, rfl, p0, okx, hx, hd2.mono (grow_in (ex0 _)), dv.mono B.ex, lex, hlx, ?_, fun r H4 e4 d4 => ?_⟩
      · have : n * i ≤ n * size := Nat.mul_le_mul_left _ (by omega)
        omega
      walk_at "tw"
      refine c_app (e4 _ _ hB) (sz_of_le (by omega)) ?_
      refine ⟨ws ++ [r], _, rfl, ?_⟩
      rw [take_succ (hd (i + 1) (by omega))]
      exact B.step (ex0 H) e4 (d4.mono (grow_mono (ex0 _) (Ex.refl _)))
    · rintro σ' H2 ⟨ws, o4, rfl, B⟩
      rw [List.take_of_length_le (by unfold powN; simp; omega)] at B
      walk_at "tw"
      exact q _ _ B.ex (B.done (ex0 H))
end Tw
namespace Tw
open PySem PySem.Spec PyProof.Rows L2 Evl RZ
/-! ### a number that is not nought -/
def sp__law_unit : Sp := fun vs H Q _ => ∃ (b L : Addr) (p : Int), vs = [.ref b, .int p] ∧ BagAt b L H ∧ PrN p ∧ ∀ (x : Nu) v H', ExB b H H' → BagAt b L H' → x.ok p → x.le 14 → x ≠ ofInt p 0 → Dx (grow hp0 H H') v x.d → Q v H'
def t_f_law_unit (K : PySem.W.Frag) : TS :=
    (tSeq (tIfS (tTest (tOp (uGt K) (tVar 1) (tC (.int 0)))) (tRet (tOp (uAdd K) (tC (.int 1)) (tCall sp__law_draw [] E0 (tCons (tVar 0) (tCons (tOp uSub (tVar 1) (tC (.int 1))) tNil))))) tNext)
    (tRet (tCall sp__law_num [] E0 (tCons (tC (.int 0)) (tCons (tCall sp__law_pick [] E0 (tCons (tVar 0) (tCons (tLst (tCons (tC (.int 1)) (tCons (tUn uNeg (tC (.int 1))) (tCons (tC (.int 2)) (tCons (tC (.int 1)) (tCons (tUn uNeg (tC (.int 3))) tNil)))))) tNil))) (tCons (tCall sp__law_pick [] E0 (tCons (tVar 0) (tCons (tLst (tCons (tC (.int 1)) (tCons (tC (.int 2)) (tCons (tC (.int 1)) (tCons (tC (.int 3)) tNil))))) tNil))) tNil))))))
theorem pure_unit (K : PySem.W.Frag) (vs : List V) (H : Hp) (Q : VK) (E : XK) (h : sp__law_unit vs H Q E) : t_f_law_unit K { nx := fun _ H' => Q .non H', rt := Q } (start ["bag", "p"] vs) H := by
  obtain ⟨b, L, p, rfl, hb, hp, q⟩ := h
  obtain ⟨ob, hbo⟩ := hb.some
  have lt3 : (2 : Nat) ^ 14 = 16384 := by decide
  unfold t_f_law_unit
  walk_at "tw"
  refine c_ite (fun h0 => ?_) (fun h0 => ?_)
  · have p0 : 0 < p := of_decide_eq_true h0
    have p2 : 3 ≤ p ∧ p ≤ 31 := by
      rcases hp with hp | ⟨n, hn, rfl⟩
      · omega
      · have h1 := prN_le n hn
        have h2 : ∀ n ∈ primesN, 3 ≤ n := by decide
        have := h2 n hn
        omega
    walk_at "tw"
    refine ⟨b, L, p - 1, rfl, hb, by omega, by omega, fun d H' x hb' d0 d1 => ?_⟩
    walk_at "tw"
    refine q (.r (1 + d)) _ _ x hb' ⟨p0, by omega, by omega⟩ ?_ (fun z => ?_) (.int _)
    · show (1 + d).natAbs < 2 ^ 14
      omega
    · rw [ofInt0_r p0] at z
      have := Nu.r.inj z
      omega
  · have hp0' : p = 0 := by
      have := of_decide_eq_false h0
      have := hp.nonneg
      omega
    subst hp0'
    walk_at "tw"
    refine ⟨by show 5 ≤ sizeLine; decide, fun l hl => ?_⟩
    have hlb : l ≠ b := fun z => by rw [z, hbo] at hl; cases hl
    have e1 : Ex H (upd H l (.lst [.int 1, .int (-1), .int 2, .int 1, .int (-3)])) := Ex.new hl
    refine ⟨b, L, l, _, rfl, hb.ex e1, hlb, upd_same, by decide, by decide, fun j v H1 hj x1 hb1 => ?_⟩
    obtain ⟨t, rfl, t0, t1⟩ : ∃ t : Int, v = .int t ∧ t ≠ 0 ∧ t.natAbs ≤ 3 := by
      match j, hj with
      | 0, hj => cases hj; exact ⟨1, rfl, by decide, by decide⟩
      | 1, hj => cases hj; exact ⟨-1, rfl, by decide, by decide⟩
      | 2, hj => cases hj; exact ⟨2, rfl, by decide, by decide⟩
      | 3, hj => cases hj; exact ⟨1, rfl, by decide, by decide⟩
      | 4, hj => cases hj; exact ⟨-3, rfl, by decide, by decide⟩
      | n + 5, hj => cases hj
    walk_at "tw"
    refine ⟨by show 4 ≤ sizeLine; decide, fun l2 hl2 => ?_⟩
    obtain ⟨ob1, hbo1⟩ := hb1.some
    have hlb2 : l2 ≠ b := fun z => by rw [z, hbo1] at hl2; cases hl2
    have e2 : Ex H1 (upd H1 l2 (.lst [.int 1, .int 2, .int 1, .int 3])) := Ex.new hl2
    refine ⟨b, L, l2, _, rfl, hb1.ex e2, hlb2, upd_same, by decide, by decide, fun j2 v2 H2 hj2 x2 hb2 => ?_⟩
    obtain ⟨w, rfl, w0, w1⟩ : ∃ w : Int, v2 = .int w ∧ 0 < w ∧ w ≤ 3 := by
      match j2, hj2 with
      | 0, hj => cases hj; exact ⟨1, rfl, by decide, by decide⟩
      | 1, hj => cases hj; exact ⟨2, rfl, by decide, by decide⟩
      | 2, hj => cases hj; exact ⟨1, rfl, by decide, by decide⟩
      | 3, hj => cases hj; exact ⟨3, rfl, by decide, by decide⟩
      | n + 4, hj => cases hj
    walk_at "tw"
    have x02 : ExB b H H2 := ((ExB.of e1).trans x1).trans ((ExB.of e2).trans x2)
    have lt : w.natAbs < 2 ^ 14 := by omega
    refine .inl ⟨hp0, t, w, rfl, w0, Nat.lt_of_lt_of_le lt (Nat.pow_le_pow_right (by decide) (by decide)), fun r H3 e3 hr => ?_⟩
    refine q (.f (Rat.divInt t w)) r H3 (x02.trans (ExB.of e3)) (hb2.ex e3) rfl ⟨?_, ?_⟩ (fun z => ?_) (hr.mono ?_)
    · have := frac_num_le t w w0
      omega
    · have := frac_den_le t w w0
      omega
    · rw [ofInt0_f rfl] at z
      have z2 : Rat.divInt t w = 0 := Nu.f.inj z
      rw [← Rat.zero_divInt w, Rat.divInt_eq_divInt_iff (by omega) (by omega), Int.zero_mul] at z2
      rcases Int.mul_eq_zero.mp z2 with z3 | z3
      · exact t0 z3
      · omega
    · intro a o h
      cases q2 : H2 a with
      | some u => rw [grow_old q2] at h; cases h
      | none =>
        obtain ⟨o2, hb2o⟩ := hb2.some
        have h0 : H a = none := x02.free hbo hb2o q2
        unfold grow at h
        rw [q2] at h
        exact grow_new h0 h
end Tw
namespace Tw
open PySem PySem.Spec PyProof.Rows L2 Evl RZ
/-! ### _law_same, of equal data -/
def spS : Nat → Sp
  | 0 => fun _ _ _ _ => False
  | n + 1 => fun vs H Q _ => ∃ (v w : V) (d : PyData), vs = [v, w] ∧ Dx H v d ∧ Dx H w d ∧ Dep n d ∧ ∀ H2, Ex H H2 → Q (.bl true) H2
def t_f_law_same (K : PySem.W.Frag) (sp__law_same : Sp) : TS :=
    (tSeq (tIfS (tOr (tAnd (tB (tCB (uIsi K) (tCons (tVar 1) (tCons (tC (.ty "list")) tNil)))) (tB (tCB (uIsi K) (tCons (tVar 0) (tCons (tC (.ty "list")) tNil))))) (tAnd (tB (tCB (uIsi K) (tCons (tVar 1) (tCons (tC (.ty "tuple")) tNil)))) (tB (tCB (uIsi K) (tCons (tVar 0) (tCons (tC (.ty "tuple")) tNil)))))) (tRet (tAndV (tOp (uEq K) (tCB (uLen K) (tCons (tVar 0) tNil)) (tCB (uLen K) (tCons (tVar 1) tNil))) (tOp (uEq K) (tLc (iRng1 (tCons (tCB (uLen K) (tCons (tVar 1) tNil)) tNil)) (gName 2) (tNot (tB (tCall sp__law_same [] E0 (tCons (tOp (uIx K) (tVar 0) (tVar 2)) (tCons (tOp (uIx K) (tVar 1) (tVar 2)) tNil))))) (tVar 2) [2]) (tLst tNil)))) tNext)
    (tSeq (tIfS (tOr (tB (tCB (uIsi K) (tCons (tVar 1) (tCons (tC (.ty "bool")) tNil)))) (tB (tCB (uIsi K) (tCons (tVar 0) (tCons (tC (.ty "bool")) tNil))))) (tRet (tAndV (tCB (uIsi K) (tCons (tVar 1) (tCons (tC (.ty "bool")) tNil))) (tAndV (tCB (uIsi K) (tCons (tVar 0) (tCons (tC (.ty "bool")) tNil))) (tOp (uEq K) (tVar 0) (tVar 1))))) tNext)
    (tSeq (tIfS (tOr (tAnd (tB (tCB (uIsi K) (tCons (tVar 1) (tCons (tC (.ty "int")) tNil)))) (tB (tCB (uIsi K) (tCons (tVar 0) (tCons (tC (.ty "int")) tNil))))) (tAnd (tB (tCB (uIsi K) (tCons (tVar 1) (tCons (tC (.ty "str")) tNil)))) (tB (tCB (uIsi K) (tCons (tVar 0) (tCons (tC (.ty "str")) tNil)))))) (tRet (tOp (uEq K) (tVar 0) (tVar 1))) tNext)
    (tRet (tAndV (tOp uIsN (tVar 0) (tC .non)) (tOp uIsN (tVar 1) (tC .non)))))))
theorem shaped_nil : SeqAt.shaped (.list []) = true := by decide +kernel
theorem Dep.sub {n : Nat} : ∀ {d : PyData} {ds : List PyData}, (d = .list ds ∨ d = .tuple ds) → Dep n d → ds.length ≤ 30000 ∧ ∀ d ∈ ds, ∃ m, n = m + 1 ∧ Dep m d := by
  intro d ds h hd
  rcases h with rfl | rfl
  · cases n with
    | zero => exact False.elim hd
    | succ m => exact ⟨hd.1, fun d hm => ⟨m, rfl, hd.2 d hm⟩⟩
  · cases n with
    | zero => exact False.elim hd
    | succ m => exact ⟨hd.1, fun d hm => ⟨m, rfl, hd.2 d hm⟩⟩
theorem zero_add_nat (i : Nat) : (0 : Int) + (i : Int) = (i : Int) := Int.zero_add _
theorem pure_same (K : PySem.W.Frag) (n : Nat) (vs : List V) (H : Hp) (Q : VK) (E : XK) (h : spS (n + 1) vs H Q E) : t_f_law_same K (spS n) { nx := fun _ H' => Q .non H', rt := Q } (start ["told", "due", "k"] vs) H := by
  obtain ⟨v, w, d, rfl, hv, hw, hd, q⟩ := h
  unfold t_f_law_same
  cases d with
  | dict _ => cases hv
  | none =>
    walk_at "tw"
    cases hv
    cases hw
    walk_at "tw"
    exact q _ (Ex.refl _)
  | bool b =>
    walk_at "tw"
    cases hv
    cases hw
    refine .inl ⟨rfl, ?_⟩
    walk_at "tw"
    rw [decide_eq_true rfl]
    exact q _ (Ex.refl _)
  | int i =>
    walk_at "tw"
    cases hv
    cases hw
    walk_at "tw"
    rw [decide_eq_true rfl]
    exact q _ (Ex.refl _)
  | str x =>
    walk_at "tw"
    cases hv
    cases hw
    walk_at "tw"
    rw [decide_eq_true rfl]
    exact q _ (Ex.refl _)
  | list ds =>
    obtain ⟨hz, hdp⟩ := hd.sub (.inl rfl)
    have hv' := hv
    have hw' := hw
    obtain ⟨a, xs, rfl, ha, hx⟩ := hv.lst_inv
    obtain ⟨b, ys, rfl, hb, hy⟩ := hw.lst_inv
    have lx := hx.length
    have ly := hy.length
    walk_at "tw"
    refine ⟨_, rfl, by omega, by omega, fun L hL => ?_⟩
    refine lc_range (lo := 0) (n := (ys.length : Int).toNat) (fun i H2 => Ex H H2 ∧ H2 L = some (.lst [])) ⟨Ex.new hL, upd_same⟩ ?_ ?_
    · rintro i H2 hi ⟨e2, h2⟩
      have hi' : i < ds.length := by omega
      obtain ⟨x, hx1, hx2⟩ := hx.get' (List.getElem?_eq_getElem hi')
      obtain ⟨y, hy1, hy2⟩ := hy.get' (List.getElem?_eq_getElem hi')
      obtain ⟨m, rfl, hm⟩ := hdp _ (List.getElem_mem hi')
      have ha2 := e2 _ _ ha
      have hb2 := e2 _ _ hb
      rw [zero_add_nat]
      refine ⟨rfl, ?_⟩
      walk_at "tw"
      refine ⟨x, y, ds[i], rfl, hx2.mono e2, hy2.mono e2, hm, fun H3 e3 => ?_⟩
      walk_at "tw"
      exact ⟨e2.trans e3, e3 _ _ h2⟩
    · rintro H2 ⟨e2, h2⟩
      walk_at "tw"
      refine ⟨Nat.zero_le _, fun p hp => ?_⟩
      refine c_eqD (d := .list []) (e := .list []) (.lst (Ex.new hp _ _ h2) .nil) (.lst upd_same .nil) shaped_nil shaped_nil ?_
      exact q _ (e2.trans (Ex.new hp))
  | tuple ds =>
    obtain ⟨hz, hdp⟩ := hd.sub (.inr rfl)
    have hv' := hv
    have hw' := hw
    obtain ⟨a, xs, rfl, ha, hx⟩ := hv.tup_inv
    obtain ⟨b, ys, rfl, hb, hy⟩ := hw.tup_inv
    have lx := hx.length
    have ly := hy.length
    walk_at "tw"
    refine ⟨_, rfl, by omega, by omega, fun L hL => ?_⟩
    refine lc_range (lo := 0) (n := (ys.length : Int).toNat) (fun i H2 => Ex H H2 ∧ H2 L = some (.lst [])) ⟨Ex.new hL, upd_same⟩ ?_ ?_
    · rintro i H2 hi ⟨e2, h2⟩
      have hi' : i < ds.length := by omega
      obtain ⟨x, hx1, hx2⟩ := hx.get' (List.getElem?_eq_getElem hi')
      obtain ⟨y, hy1, hy2⟩ := hy.get' (List.getElem?_eq_getElem hi')
      obtain ⟨m, rfl, hm⟩ := hdp _ (List.getElem_mem hi')
      have ha2 := e2 _ _ ha
      have hb2 := e2 _ _ hb
      rw [zero_add_nat]
      refine ⟨rfl, ?_⟩
      walk_at "tw"
      refine ⟨x, y, ds[i], rfl, hx2.mono e2, hy2.mono e2, hm, fun H3 e3 => ?_⟩
      walk_at "tw"
      exact ⟨e2.trans e3, e3 _ _ h2⟩
    · rintro H2 ⟨e2, h2⟩
      walk_at "tw"
      refine ⟨Nat.zero_le _, fun p hp => ?_⟩
      refine c_eqD (d := .list []) (e := .list []) (.lst (Ex.new hp _ _ h2) .nil) (.lst upd_same .nil) shaped_nil shaped_nil ?_
      exact q _ (e2.trans (Ex.new hp))
end Tw
namespace Tw
open PySem PySem.Spec PyProof.Rows L2 Evl RZ
/-! ### _law_due -/
def haltedL : List V := [.str "Stops", .str "Enough", .str "Endless", .str "NothingLeft"]
def sp__law_due : Sp := fun vs H Q _ => ∃ (G : Hp) (x : Str) (v : V) (d : PyData), vs = [.str x, v] ∧ Ex G H ∧ Dx G v d ∧ decide (x = "NoSuch") = false ∧ inV (.str x) haltedL = false ∧
  RetD (.list [.str "fault", .str "Refused", .list [.str x], d, .str x]) G H Q
def t_f_law_due (K : PySem.W.Frag) : TS :=
    (tSeq (tAsg (tIf (tTest (tOp (uEq K) (tVar 0) (tC (.str "NoSuch")))) (tC (.str "Missing")) (tIf (tTest (tOp (uIn K) (tVar 0) (tLst (tCons (tC (.str "Stops")) (tCons (tC (.str "Enough")) (tCons (tC (.str "Endless")) (tCons (tC (.str "NothingLeft")) tNil))))))) (tC (.str "Halted")) (tC (.str "Refused")))) (gName 2))
    (tRet (tLst (tCons (tC (.str "fault")) (tCons (tVar 2) (tCons (tLst (tCons (tVar 0) tNil)) (tCons (tVar 1) (tCons (tVar 0) tNil))))))))
theorem c_inL {K : PySem.W.Frag} {H : Hp} {Q : VK} {v : V} {p : Addr} {xs : List V} (h : H p = some (.lst xs)) (f : flatV v = true) (fs : xs.all flatV = true) (q : Q (.bl (inV v xs)) H) : uIn K v (.ref p) H Q := .inl ⟨p, xs, rfl, .inl (SqL.of h), f, fs, q⟩
theorem pure_due (K : PySem.W.Frag) (vs : List V) (H : Hp) (Q : VK) (E : XK) (h : sp__law_due vs H Q E) : t_f_law_due K { nx := fun _ H' => Q .non H', rt := Q } (start ["name", "fields", "base"] vs) H := by
  obtain ⟨G, x, v, d, rfl, eG, hv, h1, h2, q⟩ := h
  unfold t_f_law_due
  walk_at "tw"
  refine c_iteF h1 ?_
  walk_at "tw"
  refine ⟨by show 4 ≤ sizeLine; decide, fun l hl => ?_⟩
  refine c_inL (xs := haltedL) upd_same rfl rfl ?_
  walk_at "tw"
  refine c_iteF h2 ?_
  walk_at "tw"
  refine ⟨by show 1 ≤ sizeLine; decide, fun m hm => ?_⟩
  walk_at "tw"
  refine ⟨by show 5 ≤ sizeLine; decide, fun n hn => ?_⟩
  have e1 : Ex H (upd H l (.lst haltedL)) := Ex.new hl
  have e2 := e1.trans (Ex.new (o := .lst [.str x]) hm)
  have em : H m = none := fresh_back e1 hm
  have en : H n = none := fresh_back e2 hn
  have nm : m ≠ n := ne_of_none upd_same hn
  have e3 := e2.trans (Ex.new (o := .lst [.str "fault", .str "Refused", .ref m, v, .str x]) hn)
  refine q _ _ e3 (.lst (grow_new en upd_same) (.cons (.str _) (.cons (.str _) (.cons (.lst (grow_new em (by walk_at "look")) (.cons (.str _) .nil)) (.cons (hv.mono (grow_ex eG)) (.cons (.str _) .nil))))))
end Tw
namespace Tw
open PySem PySem.Spec PyProof.Rows L2 Evl RZ
/-! ## more operators: in a list of data, max of a tuple, a range as a list -/
theorem un65 {k : Nat} {A : Around} (r : Room k A) : A.units + 66 < cLine := by have := r.un; omega
def uInD (K : PySem.W.Frag) : R2 := fun x y H Q => ∃ p xs d ds, y = .ref p ∧ H p = some (.lst xs) ∧ Dx H x d ∧ DxA H xs ds ∧ SeqAt.shaped d = true ∧ (∀ e ∈ ds, SeqAt.shaped e = true) ∧ Q (.bl (ds.any fun e => PyData.eqv e d)) H
section
variable {X : Cx}
theorem u_inD (hu : X.A.units + 66 < cLine) : OpR X (compareOp .In) (uInD X.K) := by
  (intro pins s σ H x y v u Q I rx ry h)
  obtain ⟨p, xs, d, ds, rfl, hp, hd, hds, sd, sds, q⟩ := h
  cases ry
  obtain ⟨its, r, pl, hz⟩ := I.list (SqL.of hp)
  have l1 : xs.length = its.length := r.length
  have l2 : xs.length = ds.length := hds.length
  obtain ⟨as, rd⟩ := Dp.reads I d x v (Dx.dp d hd) rx
  have key : ∀ (i : Nat) (w : Value) (e : PyData), its[i]? = some w → ds[i]? = some e → SeqAt.EqAt X.A.in1 s w v (PyData.eqv e d) := fun i w e h1 h2 => by
    have hi : i < its.length := (List.getElem?_eq_some_iff.mp h1).1
    have hx : xs[i]? = some xs[i] := List.getElem?_eq_getElem (by omega)
    obtain ⟨e', he', hde⟩ := hds.get hx
    rw [h2] at he'
    cases he'
    obtain ⟨w', hw', rw'⟩ := r.get hx
    rw [h1] at hw'
    cases hw'
    obtain ⟨bs, re⟩ := Dp.reads I e _ w (Dx.dp e hde) rw'
    have se := sds e (List.mem_of_getElem? h2)
    exact SeqAt.eqAt_reads e d X.A.in1 s w v bs as re rd (SeqAt.canLay_of_shaped se) (SeqAt.canLay_of_shaped sd) (SeqAt.room_of_shaped se (by show X.A.units + 1 + 64 < cLine; omega))
  let P : Value → Prop := fun w => ∃ (i : Nat) (e : PyData), its[i]? = some w ∧ ds[i]? = some e ∧ PyData.eqv e d = true
  let f : Value → Bool := fun w => @decide (P w) (Classical.propDecidable _)
  have ft : ∀ w, f w = true → P w := fun w h => @of_decide_eq_true (P w) (Classical.propDecidable _) h
  have ff : ∀ w, P w → f w = true := fun w h => @decide_eq_true (P w) (Classical.propDecidable _) h
  refine SeqAt.in_listAt f pl.isList (fun w hw => ?_) ⟨.bl _, H, I, rfl, ?_⟩
  · have hw : w ∈ its := by simpa using hw
    obtain ⟨i, hi⟩ := List.mem_iff_getElem?.mp hw
    have hil : i < its.length := (List.getElem?_eq_some_iff.mp hi).1
    have he : ds[i]? = some ds[i] := List.getElem?_eq_getElem (by omega)
    cases hf : f w with
    | true =>
      obtain ⟨j, e, h1, h2, h3⟩ := ft w hf
      have z := key j w e h1 h2
      rw [h3] at z
      exact z
    | false =>
      have z := key i w _ hi he
      cases h3 : PyData.eqv ds[i] d with
      | true => rw [ff w ⟨i, _, hi, he, h3⟩] at hf; cases hf
      | false => rw [h3] at z; exact z
  · have e1 : its.toArray.any f = ds.any fun e => PyData.eqv e d := by
      rw [List.any_toArray]
      (rw [Bool.eq_iff_iff, List.any_eq_true, List.any_eq_true])
      constructor
      · rintro ⟨w, _, hf⟩
        obtain ⟨j, e, h1, h2, h3⟩ := ft w hf
        exact ⟨e, List.mem_of_getElem? h2, h3⟩
      · rintro ⟨e, he, h3⟩
        obtain ⟨i, hi⟩ := List.mem_iff_getElem?.mp he
        have hil : i < ds.length := (List.getElem?_eq_some_iff.mp hi).1
        have hw : its[i]? = some its[i] := List.getElem?_eq_getElem (by omega)
        exact ⟨its[i], List.getElem_mem _, ff _ ⟨i, e, hw, hi, h3⟩⟩
    rw [e1]
    exact q
/-- max of a tuple of ints -/
def rMaxT (K : PySem.W.Frag) : List V → Hp → VK → Prop := fun vs H Q => ∃ (a : Addr) (n : Int) (ns : List Int), vs = [V.ref a] ∧ SqT K H a ((n :: ns).map V.int) ∧ ∀ m, m ∈ n :: ns → Q (.int m) H
theorem cr_maxT (hc : X.calm = true) (hu : X.A.units + 66 < cLine) : CallR X (.builtin "max") (rMaxT X.K) := by
  (intro pins s σ H vs us Q I r h)
  obtain ⟨a, n, ns, rfl, hs, q⟩ := h
  obtain ⟨its, rv, hl, _⟩ := I.tuple hs
  rw [Vals.ref1 r]
  have dp : ∀ l : List Int, DpAll X.K H (l.map V.int) (l.map PyData.int) := fun l => by
    induction l with
    | nil => exact .nil
    | cons i l ih => exact .cons (.int i) ih
  obtain ⟨as, rs⟩ := Dp.readsAll I ((n :: ns).map PyData.int) _ its (dp _) rv
  refine PySem.W.max_tuple_datum (α := Int) (x := n) (xs := ns) (I.ok.hd hc) hl ⟨as, rs⟩ (by
    have e : PySem.W.Datum.depth Int ≤ 60 := by decide
    omega) fun i v h' tk hi _ hk => ?_
  have hi2 : its[i]? = some v := by simpa using hi
  have hil : i < its.length := (List.getElem?_eq_some_iff.mp hi2).1
  have hlen := rv.length
  have hx : ((n :: ns).map V.int)[i]? = some (((n :: ns).map V.int)[i]'(by omega)) := List.getElem?_eq_getElem (by omega)
  obtain ⟨w, hw, rw'⟩ := rv.get hx
  rw [hi2] at hw
  cases hw
  rw [List.getElem_map] at rw'
  exact ⟨.int _, H, I.kept hk, rw', q _ (List.getElem_mem _)⟩
theorem cr_range1 : CallR X (.type "range") (fun vs H Q => ∃ j, vs = [V.int j] ∧ ∀ p, H p = none → Q (.ref p) (upd H p (.rng 0 j))) := by
  (intro pins s σ H vs us Q I r h)
  obtain ⟨j, rfl, q⟩ := h
  obtain ⟨u1, rfl, rj⟩ := vals1 r
  obtain ⟨t, rfl⟩ := rj
  refine call_range_1 ⟨.ref s.heap.objs.size, upd H s.heap.objs.size (.rng 0 j), I.laid (t' := s.toks + 1 + 1) (fun b o e => Heap.get?_push_of_some _ e) (Nat.le_refl _) ?_, rfl, q _ (I.hok.fresh (Nat.le_refl _))⟩
  exact ⟨s.toks, t, s.toks + 1, Heap.get?_push_size _ rfl⟩
def rListR : List V → Hp → VK → Prop := fun xs H Q => ∃ (p : Addr) (n : Nat), xs = [.ref p] ∧ H p = some (.rng 0 (n : Int)) ∧ n ≤ 1000 ∧ ∀ l, H l = none → Q (.ref l) (upd H l (.lst ((List.range n).map fun i : Nat => V.int (i : Int))))
theorem call_list_rng (hc : X.calm = true) : CallR X (.type "list") rListR := by
  (intro pins s σ H vs us Q I r h)
  obtain ⟨p, n, rfl, hp, hn, q⟩ := h
  rw [Vals.ref1 r]
  obtain ⟨t, u, v, ho⟩ := I.hok p _ hp
  refine call_list_range (n := n) (I.ok.hd hc) ho (small_one (by omega) (by omega) (by omega) (by omega)) (by rw [rangeSize_one]; split <;> omega) (by omega) fun h' tk acc' c' hk hS hacc => ?_
  refine ⟨.ref s.heap.objs.size, _, I.laid (t' := tk) hk (Nat.le_refl _) (show ObjOk X.prog X.w _ h' _ (.lst ((List.range n).map fun i : Nat => V.int (i : Int))) from ⟨(Nat.le_trans (m := 100000) (by simp; omega) (by decide)), acc'.toList, c', ?_, by simpa using hS⟩), rfl, q _ (I.hok.fresh (Nat.le_refl _))⟩
  refine vals_of_at (by simp [hacc.1]) fun j x w h1 h2 => ?_
  rw [List.getElem?_map] at h1
  cases e : (List.range n)[j]? with
  | none => rw [e] at h1; cases h1
  | some i =>
    rw [e] at h1
    cases h1
    have ei : i = j := by
      have := List.getElem?_eq_some_iff.mp e
      obtain ⟨_, z⟩ := this
      rw [List.getElem_range] at z
      exact z.symm
    obtain ⟨tt, e2⟩ := hacc.2 j w (by simpa using h2)
    exact ⟨tt, by rw [e2, ei]; congr 1; omega⟩
end
def uListR (K : PySem.W.Frag) : List V → Hp → VK → Prop := fun xs H Q => uList K xs H Q ∨ rListR xs H Q
def uRng : List V → Hp → VK → Prop := fun vs H Q => ∃ j, vs = [V.int j] ∧ ∀ p, H p = none → Q (.ref p) (upd H p (.rng 0 j))
theorem u_listR {X : Cx} (hc : X.calm = true) : CallR X (.type "list") (uListR X.K) := u_list.or (call_list_rng hc)
def rInsert : V → List V → Hp → VK → Prop := fun x vs H Q => ∃ (l : Addr) (xs : List V) (i : Int) (y : V), x = .ref l ∧ vs = [.int i, y] ∧ H l = some (.lst xs) ∧ xs.length < sizeLine ∧ 0 ≤ i ∧ i < 2 ^ 63 ∧ Q .non (upd H l (.lst (xs.take i.toNat ++ [y] ++ xs.drop i.toNat)))
theorem u_insert {X : Cx} : MtR X "list.insert" rInsert := mt_insert
/-! ### a call in a try, the caller's slots told to what leaves -/
def tCallS (sp : Sp) (dvs : List V) (E : L2.St → XK) (t : TA) : TE := fun σ H Q => t σ H fun vs H1 => sp (vs ++ dvs) H1 Q (E σ)
theorem pe_callS {X : Cx} {CX : CXT} {k : Nat} {f : Addr} {fd : FuncData} {ps : List Str} {ds : List Value} {dvs : List V} {sp : Sp} {E : L2.St → XK} {x : Str} {p pos : Pos} {e : Expr} {es : List Expr} {t : TA} (fo : FnOk X.prog X.w X.K X.mg X.base CX k f fd ps sp) (room : Room k X.A) (gl : Gl X x) (mgx : X.mg x = some (.ref f)) (kp : PySem.W.keepIn X.K (.ref f) = true)
    (bd : Binds X.K fd ps ds) (vd : Vals dvs ds) (pass : ∀ σ, PassesAt CX X σ (E σ)) (dA : PA X (e :: es) t)
    (hdb : (x == ("__debug__" : Str)) = false := by decide) (hst : starEach (e :: es) X.env = (false, eval e X.env) :: starEach es X.env := by rfl) (hpl : (backTo pos (starEach es X.env)).any (·.1) = false := by rfl) :
    PE X (.Call (.Name x p) (e :: es) [] pos) (tCallS sp dvs E t) := by
  refine ⟨fun pns st sg G Qv iv hw => wpAny_Call_Name_kw (ld_glob iv gl mgx ?_ hdb)⟩
  refine PySem.W.callWith_K (h₀ := X.base) iv.ok.mod.kin kp (thn (dA.run pos pns st sg G _ iv hw) fun us st1 h1 => ?_) hst hpl
  obtain ⟨vs, G1, iv1, rel, w1⟩ := h1
  refine ⟨iv1.kIn, ?_⟩
  have rel2 := rel.append vd
  have len : (us ++ ds).length = ps.length := rel2.length.symm.trans (fo.len _ _ _ _ w1)
  refine wpAny_call (codeAny_mono (fo.run X.A X.stack st1 G1 ⟨us, []⟩ (us ++ ds) (vs ++ dvs) Qv (E sg) room iv1.env0 (bd st1 us iv1.kIn len) rel2 w1) fun r st3 told => ?_)
  cases r with
  | error er => exact pass sg pns G1 st1 er st3 iv1 told
  | ok fl =>
    cases fl with
    | ret u => exact iv1.after told
    | next => exact told.elim
    | brk => exact told.elim
    | cont => exact told.elim
/-- keywords given, keyword-only defaults there -/
theorem kbinds_of2 {K : PySem.W.Frag} {x qual : Str} {params : Arguments} {body : List Stmt} {scope : Scope} {f : Addr} {fd : FuncData} {ps ks : List Str} {kws : List (Str × V)} {n : Nat} (F : FunD K x qual params body scope [] kws f fd) (hp : ps ≠ [])
    (h : ∀ (kV doc pm : Value) (an : Option Addr) (cdv ct : Value) (us ws : List Value), us.length = n → ws.length = ks.length → bindArgs (PySem.W.fnOf x qual params body scope .none kV doc pm an cdv ct) ⟨us, ks.zip ws⟩ = pure (ps.zip (us ++ ws))) :
    KBinds K fd ps ks (kwG n ks.length) (kwG n ks.length) := by
  obtain ⟨oc, od, dV, kV, doc, pm, an, cdv, ct, osl, rfl, lk, hcd, hD, hK⟩ := (F.ex)
  refine ⟨fun s us ws inK len => ?_, fun r r2 => kwG_rel r r2⟩
  (rcases hD with ⟨_, rfl⟩ | ⟨e, _⟩)
  · unfold kwG at len ⊢
    split at len
    · rename_i hh
      rw [if_pos hh]
      exact .of_eq (h kV doc pm an cdv ct us ws hh.1 hh.2)
    · cases ps with
      | nil => exact absurd rfl hp
      | cons _ _ => cases len
  · exact absurd rfl e
theorem pe_omt0 {X : Cx} {k : Nat} {x m : Str} {ps : List Str} {sp : Sp} {dvs : List V} {E : XK} {ta : TE} {o : Expr} {apos pos : Pos} {pl : Sem Bool} (G : OkM X.prog X.w X.K X.mg X.base k x m ps sp dvs) (c : Cls X.K (He.ga X.K x)) (M : Meth X.K (He.ga X.K x) m (He.ma X.K (He.ga X.K x) m)) (hr : Room k X.A) (hx : Passes (L2N.CX X.prog X.w) X E) (he : PE X o ta)
    (ht : eval (.Call (.Attribute o m apos) ([]) ([]) pos) X.env = (do
      let v0 ← eval o X.env
      standAt apos.atName
      let (fn, fst) ← holding [v0] (getMethod v0 m pl)
      callWith pos fn fst (backTo pos (starEach [] X.env)) (backToKw pos (keywordEach [] X.env))) := by rfl) :
    PE X (.Call (.Attribute o m apos) [] [] pos) (tMeth (He.ga X.K x) m sp dvs E ta tNil) := by
  obtain ⟨fd, ds, fo, vd, b⟩ := G.ex
  exact pe_meth0 (pl := pl) he c M fo hr b vd hx ht
end Tw
/-! Own layer: a lambda with parameters that captures names, handed to a def and called there. -/
namespace Tw
open PySem PySem.Spec L2 LamX PyProof.Rows
section
variable {cl : List (Str × Addr)} {fr : List Str} {ws : List (Option V)} {h h' : Heap} {H H' : Hp} {fs : List Addr}
theorem cells_un (C : NdefX.CellsAt cl fr ws h H) (u : Un fs [] H H' h h') : NdefX.CellsAt cl fr ws h' H' := by
  have kp : ∀ y c, cl.lookup y = some c → ∀ v, h.IsCell c v → h'.IsCell c v := fun y c e v ⟨o, ho, hd⟩ => by
    obtain ⟨sl, q⟩ := u.any ho (C.all y c e).1 (by simp)
    exact ⟨_, q, hd⟩
  refine (⟨C.len, fun y c e => ?_, C.inj, fun i y e => ?_⟩)
  · obtain ⟨n, v, z⟩ := (C.all y c e)
    refine ⟨?_, v, kp y c e v z⟩
    obtain ⟨o, ho, _⟩ := z
    exact u.free c o ho n (by simp)
  · obtain ⟨c, hc, hv⟩ := (C.has i y e)
    refine (⟨c, hc, fun v ev => ?_⟩)
    obtain ⟨u, r, z⟩ := hv v ev
    exact ⟨u, r, kp y c hc _ z⟩
end
abbrev lamNF (q : Str) (params : Arguments) (scope : Scope) (cl : List (Str × Addr)) (c' : Addr) : NdefX.NF := ⟨"<lambda>", q, params, [], scope, cl, c'⟩
/-- the call of the lambda at f by the name at slot i -/
def tDue (f c' : Addr) (q : Str) (ws : List (Option V)) (i n : Nat) (NL : List Str) (tb : TE) (t : TA) : TE := fun σ H Q => σ[i]? = some (some (.ref f)) ∧ t σ H fun vs H1 => H1 c' = some (CodeO c' q) ∧ vs.length = n ∧ tb (NdefX.startF NL vs ws) H1 Q
section
variable {Z : Cx} {CX : CXT} {E : XK} {NL ps fr : List Str} {scope : Scope} {cl : List (Str × Addr)} {ws : List (Option V)} {q a : Str} {f c' : Addr} {pm ctv : Value} {params : Arguments} {body : Expr} {k i : Nat} {tb : TE} {ta : TA} {e : Expr} {es : List Expr} {p1 pos : Pos}
theorem pe_due (C : NdefX.CellsAt cl fr ws Z.s_0.heap Z.H_0) (hf : Z.s_0.heap.get? f = some (PySem.W.kla_obj "<lambda>" q params body scope cl pm c' ctv)) (hfn : Z.H_0 f = none) (hfr : f ∉ Z.fs) (hex : Z.ex = [])
    (S : NdefX.NScope NL ps fr scope) (hb : ∀ us : List Value, us.length = ps.length → bindArgs (PySem.W.kla_fn "<lambda>" q params body scope cl pm (.ref c') ctv) ⟨us, []⟩ = pure (ps.zip us)) (hr : Room (k + 1) Z.A) (hx : Passes CX Z E)
    (hbody : ∀ (A : Around) (outer : List Env) (s : Shared) (H : Hp), Room k (A.deeper (NdefX.envF (lamNF q params scope cl c') f s.heap.objs.size)) → PE (NdefX.ncx CX Z.prog Z.w Z.K Z.mg Z.base NL (lamNF q params scope cl c') f A outer s H E) body tb)
    (hN : Z.N[i]? = some a) (hv : Vis Z.env.scope a) (ha : PA Z (e :: es) ta)
    (hd : (a == ("__debug__" : Str)) = false := by decide) (hcd : (a == ("__classdict__" : Str)) = false := by decide)
    (he : starEach (e :: es) Z.env = (false, eval e Z.env) :: starEach es Z.env := by rfl) (hpl : (backTo pos (starEach es Z.env)).any (·.1) = false := by rfl) :
    PE Z (.Call (.Name a p1) (e :: es) [] pos) (tDue f c' q ws i ps.length NL tb ta) := by
  refine (⟨fun pins s σ H Q I h => ?_⟩)
  obtain ⟨hs, ht⟩ := h
  refine wpAny_Call_Name_kw (thn ((pe_var (pos := p1) hN hv hd hcd).run pins s σ H (fun v H1 => v = .ref f ∧ H1 = H) I ⟨.ref f, hs, rfl, rfl⟩) fun u s1 ⟨v, H1, I1, r1, q1⟩ => ?_)
  obtain ⟨ev, eH⟩ := q1
  subst ev
  rw [eH] at I1
  obtain rfl : u = Value.ref f := (r1)
  have nx : f ∉ Z.ex := by rw [hex]; simp
  have of1 : s1.heap.get? f = some (PySem.W.kla_obj "<lambda>" q params body scope cl pm c' ctv) := I1.base.keep f _ hf hfn hfr nx
  refine PySem.W.callWith_F (first := []) ⟨_, _, _, _, of1⟩ (thn (ha.run pos pins s1 σ H _ I1 ht) fun us s2 ⟨vs, H2, I2, r, h1, h2, qq⟩ => ?_) he hpl
  have of2 : s2.heap.get? f = some (PySem.W.kla_obj "<lambda>" q params body scope cl pm c' ctv) := I2.base.keep f _ hf hfn hfr nx
  refine ⟨⟨_, _, _, _, of2⟩, ?_⟩
  show (wpAny _ _ (call (.ref f) us) _ _ _)
  have un : Un Z.fs [] Z.H_0 H2 Z.s_0.heap s2.heap := by rw [← hex]; exact I2.base
  have rc : codeAny (model Z.prog Z.w) Z.A (.call (.ref f) ⟨us, []⟩) (CR CX Z.stack Z.prog Z.w H2 s2 Q E) s2 := by
    refine PySem.W.kla_callFunE hr.depth of2 rfl S.co S.gen rfl (NdefX.codeO_at I2.hok h1) ?_
    rw [hb us (by rw [← r.length]; exact h2)]
    refine wpAny_pure (wpAny_newFunctionEnv S.nocell (fun ⟨n, _⟩ hy => S.par n (List.of_mem_zip hy).1) (fun h₁ hns hsb => ⟨I2.nolimit.fresh _ hsb, ?_⟩) S.kind)
    show codeAny _ _ (.expr body (NdefX.envF (lamNF q params scope cl c') f s2.heap.objs.size)) _ _
    have kp : ∀ b o, s2.heap.get? b = some o → h₁.get? b = some o := fun b o e => hsb.extBut b o (Nat.ne_of_lt (Heap.lt_size e)) (Heap.get?_push_of_some _ e)
    have J : Inv (NdefX.ncx CX Z.prog Z.w Z.K Z.mg Z.base NL (lamNF q params scope cl c') f Z.A Z.stack s2 H2 E) [] (NdefX.startF NL vs ws) H2 { s2 with heap := h₁, toks := s2.toks + (ps.zip us).length } :=
      NdefX.inv_startN S hr.hd I2.env0 h2 r (cells_un C un) hns kp
    refine PySem.W.kla_codeExpr (wpAny_mono ((hbody _ _ s2 H2 (hr.deeper _)).run [] _ _ H2 Q J qq) (fun v s' hq => ?_) fun e s' hq => hq)
    obtain ⟨w', H', J', rv, q⟩ := (hq)
    exact (⟨w', H', J'.os, J'.bare, J'.base, J'.hok, rv, q⟩)
  refine wpAny_call (codeAny_mono rc fun r' s' hq => ?_)
  cases r' with
  | error e => exact hx pins σ H2 s2 e s' I2 hq
  | ok fl =>
    cases fl with
    | ret u => exact I2.after hq
    | next => exact False.elim hq
    | brk => exact False.elim hq
    | cont => exact False.elim hq
end
/-- x(e, lambda ..): what x makes of the lambda, TT told the first value, the lambda's place, its code object, the captured names' values -/
def tGive (T : List (Addr × Str)) (q : Str) (js : List Nat) (te : TE) (TT : V → Addr → Addr → List (Option V) → Hp → VK → Prop) : TE := fun σ H Q => te σ H fun v H0 => Tabs T H0 ∧ ∀ (f c' : Addr) (H1 : Hp), ExtN H0 H1 → Tabs T H1 → H1 c' = some (CodeO c' q) → TT v f c' (js.map (NdefX.slotAt σ)) H1 Q
section
variable {X : Cx} {CX : CXT}
theorem pe_give {T : List (Addr × Str)} {x a1 a2 : Str} {g c P : Addr} {k : Nat} {pg : Arguments} {bg : List Stmt} {sg : Scope} {dV kV doc pm cdv ct oc : Value} {an od : Option Addr} {osl : Array (Option Value)} {Ng : List Str} {e1 : Expr}
    {params : Arguments} {body : Expr} {scope : Scope} {fr : List Str} {js : List Nat} {te : TE} {TT : V → Addr → Addr → List (Option V) → Hp → VK → Prop} {E : XK} {p lpos pos : Pos} (hg : Gl X x) (hm : X.mg x = some (.ref g)) (hk : PySem.W.keepIn X.K (.ref g) = true)
    (lk : X.K.lookup g = some ⟨oc, od, .func (PySem.W.fnOf x x pg bg sg dV kV doc pm an cdv ct), osl⟩) (hcg : PySem.W.codeIn X.K cdv x = true) (hb : L2.Binds X.K (PySem.W.fnOf x x pg bg sg dV kV doc pm an cdv ct) [a1, a2] []) (Sg : FnScope Ng [a1, a2] sg)
    (TB : TabB X.base X.mg c P) (hcode : X.env.code = .ref c) (hmT : (P, X.env.qual ++ "<lambda>") ∈ T) (hu : ∀ p ∈ T, p.1 = P → p.2 = X.env.qual ++ "<lambda>") (hr : Room (k + 1) X.A) (hdef : defaultsOf params X.env = ([], []))
    (hfree : ∀ y ∈ scope.names, y.2 = .free → X.env.scope.names.lookup y.1 = some .cell ∨ X.env.scope.names.lookup y.1 = some .free) (hfr : ∀ y ∈ fr, (y, NameKind.free) ∈ scope.names) (hjs : js.map (fun j => X.N[j]?) = fr.map some)
    (hx : Passes CX X E) (h1 : PE X e1 te)
    (hG : ∀ (f c' : Addr) (pm' ctv : Value) (s : Shared) (H : Hp) (v : V) (ws : List (Option V)) (Q : VK), Room k (X.A.deeper (envOfC x sg s.heap.objs.size g cdv)) → NdefX.CellsAt (cloFrom X.env.cells scope.names []) fr ws s.heap H →
      s.heap.get? f = some (PySem.W.kla_obj "<lambda>" (X.env.qual ++ "<lambda>") params body scope (cloFrom X.env.cells scope.names []) pm' c' ctv) → H f = none → f ∉ frs X.stack → TT v f c' ws H Q →
      ∃ t, PSs (cxOf CX X.prog X.w X.K X.mg X.base Ng x sg g cdv X.A X.stack s H E) bg t ∧ t { nx := fun _ H' => Q .non H', rt := Q } (L2.start Ng [v, .ref f]) H)
    (hdb : (x == ("__debug__" : Str)) = false := by decide) (he : starEach (e1 :: [.Lambda params body scope lpos]) X.env = (false, eval e1 X.env) :: starEach [.Lambda params body scope lpos] X.env := by rfl) :
    PE X (.Call (.Name x p) [e1, .Lambda params body scope lpos] [] pos) (tGive T (X.env.qual ++ "<lambda>") js te TT) := by
  refine (⟨fun pins s σ H Q I h => ?_⟩)
  refine (wpAny_Call_Name_kw (ld_glob I hg hm ?_ hdb))
  refine PySem.W.callWith_K (h₀ := X.base) I.ok.mod.kin hk ?_ he (by rfl)
  rw [he]
  show wpAny _ _ (spliced [(false, eval e1 X.env), (false, eval (.Lambda params body scope lpos) X.env)]) _ _ s
  refine Calls.spliced_cons (thn (h1.run pins s σ H _ I h) fun u1 s1 ⟨v, H0, I0, r1, hT, h2⟩ => ?_)
  refine Calls.spliced_cons (lam_make2 I0 TB hcode hmT hu hT hdef (fun y hy e => (hfree y hy e).elim (fun z => I0.ok.has y.1 (.inl z)) fun z => I0.ok.has y.1 (.inr z)) fun f c' pm' ctv H1 s' I1 eN T1 hf hfn nfr hco => ?_)
  refine (Calls.spliced_nil ⟨I1.kIn, ?_⟩)
  have C : NdefX.CellsAt (cloFrom X.env.cells scope.names []) fr (js.map (NdefX.slotAt σ)) s'.heap H1 := NdefX.cells_of I1 (NdefX.Caps.made I1.ok hfree hfr hjs)
  have rc : codeAny (model X.prog X.w) X.A (.call (.ref g) ⟨[u1, .ref f], []⟩) (CR CX X.stack X.prog X.w H1 s' Q E) s' := by
    refine run_ofS (N := Ng) (ps := [a1, a2]) (us := [u1, .ref f]) (vs := [v, .ref f]) lk hcg Sg hr I1.env0 (hb s' [u1, .ref f] I1.kIn rfl) (.cons r1 (.cons rfl .nil)) rfl fun hr' => ?_
    exact hG f c' pm' ctv s' H1 v _ Q hr' C hf hfn nfr (h2 f c' H1 eN T1 hco)
  refine (wpAny_call (codeAny_mono rc fun r s2 hq => ?_))
  cases r with
  | error e => exact hx pins σ H1 s' e s2 I1 hq
  | ok fl =>
    cases fl with
    | ret u => exact I1.after hq
    | next => exact False.elim hq
    | brk => exact False.elim hq
    | cont => exact False.elim hq
end
end Tw
namespace Tw
open PySem PySem.Spec PyProof.Rows L2 Evl RZ
/-! ## The ground -/
def grV (p : Int) : V := if 0 < p then .int p else .non
def grF (p : Int) : List (Str × V) := putF "prime" (grV p) (putF "line" (.str (lineOf p)) [])
theorem ne_pl : ¬ (("prime" : Str) = "line") := by decide +kernel
theorem ne_lp : ¬ (("line" : Str) = "prime") := by decide +kernel
theorem grF_prime (p : Int) : (grF p).lookup ("prime" : Str) = some (grV p) := by
  unfold grF; rw [lookup_putF, if_pos rfl]
theorem grF_line (p : Int) : (grF p).lookup ("line" : Str) = some (.str (lineOf p)) := by
  unfold grF; rw [lookup_putF, if_neg ne_lp, lookup_putF, if_pos rfl]
theorem grF_no (p : Int) {m : Str} (h1 : ¬ m = "prime") (h2 : ¬ m = "line") : (grF p).lookup m = none := by
  unfold grF; rw [lookup_putF, if_neg h1, lookup_putF, if_neg h2]; rfl
def GrAt (K : PySem.W.Frag) (H : Hp) (g : Addr) (p : Int) : Prop := ∃ dx, H g = some (.ins (He.ga K "Ground") dx (grF p))
theorem GrAt.ex {K : PySem.W.Frag} {H H' : Hp} {g : Addr} {p : Int} (h : GrAt K H g p) (e : Ex H H') : GrAt K H' g p := by
  obtain ⟨dx, h⟩ := h; exact ⟨dx, e _ _ h⟩
/-- what the top says of the class -/
structure GrK (K : PySem.W.Frag) : Prop where
  cl : Cls K (He.ga K "Ground")
  nP : NoAttr K (He.ga K "Ground") "prime"
  nL : NoAttr K (He.ga K "Ground") "line"
section
variable {K : PySem.W.Frag} {σ : L2.St} {H : Hp} {Q : VK} {te : TE} {g : Addr} {p : Int}
theorem c_gpV {n : Nat} (hs : σ[n]? = some (some (.ref g))) (T : GrK K) (h : GrAt K H g p) (q : Q (grV p) H) : tFld K (tVar n) "prime" σ H Q := by
  obtain ⟨dx, h⟩ := h
  exact ⟨_, hs, g, _, dx, _, _, rfl, h, T.cl, T.nP, grF_prime p, q⟩
theorem c_gmV {n : Nat} {m : Str} {sp : Sp} {dvs : List V} {E : XK} {tr : TA} (hs : σ[n]? = some (some (.ref g))) (h : GrAt K H g p) (h1 : ¬ m = "prime") (h2 : ¬ m = "line") (q : tr σ H fun vs H2 => sp (.ref g :: (vs ++ dvs)) H2 Q E) : tMeth (He.ga K "Ground") m sp dvs E (tVar n) tr σ H Q := by
  obtain ⟨dx, h⟩ := h
  exact ⟨_, hs, g, dx, _, rfl, h, grF_no p h1 h2, q⟩
end
theorem grV_pos {p : Int} (h : 0 < p) : grV p = .int p := if_pos h
theorem grV_zero {p : Int} (h : p = 0) : grV p = .non := if_neg (by omega)
/-! ### inverse_modulo -/
structure Eu where
  h : Int
  l : Int
  a : Int
  b : Int
deriving DecidableEq
def Eu.step (e : Eu) : Eu := if e.l = 0 then e else ⟨e.l, e.h - e.h / e.l * e.l, e.b, e.a - e.h / e.l * e.b⟩
def Eu.it (p y : Nat) : Nat → Eu
  | 0 => ⟨p, y, 0, 1⟩
  | n + 1 => (Eu.it p y n).step
def Eu.okB (e : Eu) : Bool := decide (0 ≤ e.l) && decide (e.l ≤ 1000) && decide (-1000 ≤ e.b) && decide (e.b ≤ 1000) && decide (0 ≤ e.h / e.l) && decide (e.h / e.l ≤ 1000)
theorem eu_fin : ∀ p ∈ primesN, ∀ y < p, y ≠ 0 → (∀ n < 9, ((Eu.it p y n).okB = true) ∧ ((Eu.it p y n).l = 0 → (Eu.it p y n).a % (p : Int) = ((y ^ (p - 2) % p : Nat) : Int))) ∧ (Eu.it p y 8).l = 0 := by decide +kernel
def sp_inverse_modulo : Sp := fun vs H Q _ => ∃ p y : Nat, vs = [.int (y : Int), .int (p : Int)] ∧ p ∈ primesN ∧ y < p ∧ y ≠ 0 ∧ RetN (.int ((y ^ (p - 2) % p : Nat) : Int)) H Q
def t_f_inverse_modulo (K : PySem.W.Frag) : TS :=
    (tSeq (tPar 2 3 (tCons (tVar 1) (tCons (tOp uMod (tVar 0) (tVar 1)) tNil)))
    (tSeq (tAsg (tTup (tCons (tC (.int 0)) (tCons (tC (.int 1)) tNil))) (gTup K 2 (gCons (gName 4) (gCons (gName 5) gNil))))
    (tSeq (tWhile (tTest (tOp (uGt K) (tVar 3) (tC (.int 0)))) (tSeq (tAsg (tOp uFdiv (tVar 2) (tVar 3)) (gName 6))
    (tSeq (tPar 2 3 (tCons (tVar 3) (tCons (tOp uSub (tVar 2) (tOp (uMul K) (tVar 6) (tVar 3))) tNil)))
    (tPar 4 5 (tCons (tVar 5) (tCons (tOp uSub (tVar 4) (tOp (uMul K) (tVar 6) (tVar 5))) tNil))))))
    (tRet (tOp uMod (tVar 4) (tVar 1))))))
theorem Eu.ok_of {e : Eu} (h : e.okB = true) : 0 ≤ e.l ∧ e.l ≤ 1000 ∧ -1000 ≤ e.b ∧ e.b ≤ 1000 ∧ 0 ≤ e.h / e.l ∧ e.h / e.l ≤ 1000 := by
  unfold Eu.okB at h
  (simp only [Bool.and_eq_true, decide_eq_true_eq] at h)
  exact ⟨h.1.1.1.1.1, h.1.1.1.1.2, h.1.1.1.2, h.1.1.2, h.1.2, h.2⟩
theorem pure_inverse (K : PySem.W.Frag) (vs : List V) (H : Hp) (Q : VK) (E : XK) (h : sp_inverse_modulo vs H Q E) : t_f_inverse_modulo K { nx := fun _ H' => Q .non H', rt := Q } (start ["number", "modulus", "high", "low", "above", "below", "many"] vs) H := by
  obtain ⟨p, y, rfl, hp, y1, y0, q⟩ := h
  obtain ⟨fin, end_⟩ := eu_fin p hp y y1 y0
  have p0 : (0 : Int) < p := by omega
  unfold t_f_inverse_modulo
  walk_at "tw"
  refine ⟨by show 2 ≤ sizeLine; decide, fun l fl => ?_⟩
  walk_at "tw"
  refine ⟨fun m σ H' => ∃ (n : Nat) (o6 : Option V), n + m = 8 ∧ σ = [some (.int (y : Int)), some (.int (p : Int)), some (.int (Eu.it p y n).h), some (.int (Eu.it p y n).l), some (.int (Eu.it p y n).a), some (.int (Eu.it p y n).b), o6] ∧ H' = upd H l (.tup [.int 0, .int 1]), ⟨8, 0, none, rfl, ?_, rfl⟩, ?_⟩
  · have e : (y : Int) % (p : Int) = y := Int.emod_eq_of_lt (by omega) (by omega)
    rw [e]
    rfl
  · rintro m σ H' ⟨n, o6, nm, rfl, rfl⟩
    obtain ⟨ok, stop⟩ := fin n (by omega)
    obtain ⟨k1, k2, k3, k4, k5, k6⟩ := Eu.ok_of ok
    walk_at "tw"
    refine c_ite (fun hl => ?_) (fun hl => ?_)
    · have l0 : 0 < (Eu.it p y n).l := of_decide_eq_true hl
      have n8 : n < 8 := by
        rcases Nat.lt_or_ge n 8 with z | z
        · exact z
        · have : n = 8 := by omega
          rw [this, end_] at l0
          exact absurd l0 (by decide)
      refine ⟨_, fun _ _ z => z, ?_⟩
      have d1 : CDivW (Eu.it p y n).h (Eu.it p y n).l := wide_div (b := 63) l0 (by omega) (by decide) (by decide)
      have m1 : CMul ((Eu.it p y n).h / (Eu.it p y n).l) (Eu.it p y n).l ∨ CMulW ((Eu.it p y n).h / (Eu.it p y n).l) (Eu.it p y n).l := mul_wide (n := 100) (m := 100) (by omega) (by omega) (by decide)
      have m2 : CMul ((Eu.it p y n).h / (Eu.it p y n).l) (Eu.it p y n).b ∨ CMulW ((Eu.it p y n).h / (Eu.it p y n).l) (Eu.it p y n).b := mul_wide (n := 100) (m := 100) (by omega) (by omega) (by decide)
      have e1 : Eu.it p y (n + 1) = ⟨(Eu.it p y n).l, (Eu.it p y n).h - (Eu.it p y n).h / (Eu.it p y n).l * (Eu.it p y n).l, (Eu.it p y n).b, (Eu.it p y n).a - (Eu.it p y n).h / (Eu.it p y n).l * (Eu.it p y n).b⟩ := if_neg (by omega)
      walk_at "tw"
      refine ⟨m - 1, by omega, n + 1, some (.int ((Eu.it p y n).h / (Eu.it p y n).l)), by omega, ?_, rfl⟩
      rw [e1]
      rfl
    · have l0 : (Eu.it p y n).l = 0 := by have := of_decide_eq_false hl; omega
      walk_at "tw"
      rw [stop l0]
      exact q _ _ (Ex.new fl) (.int _)
/-! ### number, sub, mul, div -/
def spG0 (K : PySem.W.Frag) : Sp := fun vs H Q _ => ∃ (G : Hp) (g : Addr) (t b : Int), vs = [.ref g, .int t, .int b] ∧ GrAt K H g 0 ∧ 0 < b ∧ b.natAbs < 2 ^ 8000 ∧ RetD (Nu.f (Rat.divInt t b)).d G H Q
def spGN (K : PySem.W.Frag) : Sp := fun vs H Q _ => ∃ (G : Hp) (g : Addr) (t b : Int), vs = [.ref g, .int t, .int b] ∧ GrAt K H g 0 ∧ b < 0 ∧ Nat.gcd t.natAbs b.natAbs < 1073741824 ∧ RetD (Nu.f (Rat.divInt t b)).d G H Q
def spGP (K : PySem.W.Frag) : Sp := fun vs H Q _ => ∃ (G : Hp) (g : Addr) (p : Nat) (t : Int), vs = [.ref g, .int t, .int 1] ∧ GrAt K H g p ∧ p ∈ primesN ∧ RetD (Nu.r (t % (p : Int))).d G H Q
def sp_Ground_number (K : PySem.W.Frag) : Sp := fun vs H Q E => spG0 K vs H Q E ∨ spGN K vs H Q E ∨ spGP K vs H Q E
def t_m_Ground_number (K : PySem.W.Frag) : TS :=
    (tSeq (tIfS (tTest (tOp uNotN (tFld K (tVar 0) "prime") (tC .non))) (tSeq (tIfS (tTest (tOp (uEq K) (tOp uMod (tVar 2) (tFld K (tVar 0) "prime")) (tC (.int 0)))) tNever tNext)
    (tRet (tOp uMod (tOp (uMul K) (tVar 1) (tCall sp_inverse_modulo [] E0 (tCons (tVar 2) (tCons (tFld K (tVar 0) "prime") tNil)))) (tFld K (tVar 0) "prime")))) tNext)
    (tSeq (tIfS (tTest (tOp (uEq K) (tVar 2) (tC (.int 0)))) tNever tNext)
    (tSeq (tAsg (tCB rGcd (tCons (tVar 1) (tCons (tVar 2) tNil))) (gName 3))
    (tCut (tIfS (tTest (tOp (uLt K) (tVar 2) (tC (.int 0)))) (tAsg (tUn uNeg (tVar 3)) (gName 3)) tNext)
    (tRet (tTup (tCons (tOp uFdiv (tVar 1) (tVar 3)) (tCons (tOp uFdiv (tVar 2) (tVar 3)) tNil))))))))
theorem c_gcd {K : PySem.W.Frag} {H : Hp} {Q : VK} {a b : Int} (q : Q (.int ((Nat.gcd a.natAbs b.natAbs : Nat) : Int)) H) : rGcd [.int a, .int b] H Q := ⟨a, b, rfl, q⟩
theorem pow1_fin : ∀ p ∈ primesN, (1 : Nat) ^ (p - 2) % p = 1 := by decide
theorem c_mul1 {K : PySem.W.Frag} {H : Hp} {Q : VK} {t : Int} (q : Q (.int (t * 1)) H) : uMul K (.int t) (.int 1) H Q := c_mulI (.inl (.inr ⟨by decide, by decide⟩)) q
theorem pure_number (K : PySem.W.Frag) (T : GrK K) (vs : List V) (H : Hp) (Q : VK) (E : XK) (h : sp_Ground_number K vs H Q E) : t_m_Ground_number K { nx := fun _ H' => Q .non H', rt := Q } (start ["self", "top", "bottom", "common"] vs) H := by
  unfold t_m_Ground_number
  rcases h with ⟨G, g, t, b, rfl, hg, hb, hz, q⟩ | ⟨G, g, t, b, rfl, hg, hb, hz, q⟩ | ⟨G, g, p, t, rfl, hg, hp, q⟩
  · have d1 := gcd_bits t b hb hz
    have d2 : CDivW b ((Nat.gcd t.natAbs b.natAbs : Nat) : Int) := d1
    walk_at "tw"
    refine c_gpV rfl T hg ?_
    rw [grV_zero rfl]
    walk_at "tw"
    refine c_gcd (K := K) ?_
    walk_at "tw"
    refine c_cut (fun σ' H' => σ' = [some (.ref g), some (.int t), some (.int b), some (.int ((Nat.gcd t.natAbs b.natAbs : Nat) : Int))] ∧ H' = H) ?_ ?_
    · walk_at "tw"
      exact ⟨rfl, rfl⟩
    · rintro σ' H' ⟨rfl, rfl⟩
      walk_at "tw"
      exact ⟨by show 2 ≤ sizeLine; decide, fun a ha => q _ _ (Ex.new ha) (Dx.frac (grow_new ha upd_same) (frac_num t b hb).symm (frac_den t b hb).symm)⟩
  · have g0 : 0 < Nat.gcd t.natAbs b.natAbs := Nat.gcd_pos_of_pos_right _ (by omega)
    have dv1 : ((Nat.gcd t.natAbs b.natAbs : Nat) : Int) ∣ t := Int.ofNat_dvd_left.mpr (Nat.gcd_dvd_left _ _)
    have dv2 : ((Nat.gcd t.natAbs b.natAbs : Nat) : Int) ∣ b := Int.ofNat_dvd_left.mpr (Nat.gcd_dvd_right _ _)
    walk_at "tw"
    refine c_gpV rfl T hg ?_
    rw [grV_zero rfl]
    walk_at "tw"
    refine c_gcd (K := K) ?_
    walk_at "tw"
    refine c_cut (fun σ' H' => σ' = [some (.ref g), some (.int t), some (.int b), some (.int (-((Nat.gcd t.natAbs b.natAbs : Nat) : Int)))] ∧ H' = H) ?_ ?_
    · walk_at "tw"
      exact ⟨rfl, rfl⟩
    · rintro σ' H' ⟨rfl, rfl⟩
      walk_at "tw"
      refine c_fdivN ⟨by omega, by omega⟩ ?_
      walk_at "tw"
      refine c_fdivN ⟨by omega, by omega⟩ ?_
      walk_at "tw"
      have en : -((Nat.gcd t.natAbs b.natAbs : Nat) : Int) = ((Nat.gcd t.natAbs b.natAbs : Nat) : Int) * -1 := by omega
      rw [en, fdiv_gcd dv1, fdiv_gcd dv2]
      refine ⟨by show 2 ≤ sizeLine; decide, fun a ha => q _ _ (Ex.new ha) (Dx.frac (grow_new ha upd_same) ?_ ?_)⟩
      · rw [neg_frac, frac_num (-t) (-b) (by omega), Int.natAbs_neg, Int.natAbs_neg]
      · rw [neg_frac, frac_den (-t) (-b) (by omega), Int.natAbs_neg, Int.natAbs_neg]
  · have p1 := prb_fin p hp
    have p0 : (0 : Int) < p := by omega
    have e1 : (1 : Int) % (p : Int) = 1 := Int.emod_eq_of_lt (by decide) (by omega)
    walk_at "tw"
    refine c_gpV rfl T hg ?_
    rw [grV_pos p0]
    walk_at "tw"
    refine c_gpV rfl T hg ?_
    rw [grV_pos p0]
    walk_at "tw"
    refine c_gpV rfl T hg ?_
    rw [grV_pos p0]
    walk_at "tw"
    refine ⟨p, 1, rfl, hp, by omega, by decide, fun v H2 e2 d2 => ?_⟩
    cases d2.int_inv
    rw [pow1_fin p hp]
    refine c_mul1 ?_
    walk_at "tw"
    refine c_gpV rfl T (hg.ex e2) ?_
    rw [grV_pos p0]
    walk_at "tw"
    rw [Int.mul_one]
    exact q _ _ e2 (.int _)
theorem gnum {K : PySem.W.Frag} {G H : Hp} {g : Addr} {p k : Int} {Q : VK} {E : XK} (hg : GrAt K H g p) (hp : PrN p) (q : RetD (ofInt p k).d G H Q) : sp_Ground_number K [.ref g, .int k, .int 1] H Q E := by
  rcases hp with rfl | ⟨n, hn, rfl⟩
  · rw [ofInt_f rfl] at q
    refine .inl ⟨G, g, k, 1, rfl, hg, by decide, Nat.one_lt_two_pow (by decide), ?_⟩
    rw [show Rat.divInt k 1 = (k : Rat) from Rat.num_divInt_den (k : Rat)]
    exact q
  · have n1 := prb_fin n hn
    rw [ofInt_r (by omega)] at q
    exact .inr (.inr ⟨G, g, n, k, rfl, hg, hn, q⟩)
theorem nu_eqv (x y : Nu) : PyData.eqv x.d y.d = decide (x = y) := by
  cases x with
  | r i =>
    cases y with
    | r j =>
      show PyData.eqv (.int i) (.int j) = _
      simp only [PyData.eqv]
      by_cases e : i = j
      · subst e; simp
      · rw [decide_eq_false fun z => e (Nu.r.inj z)]
        simpa using e
    | f b => rw [decide_eq_false fun z => nomatch z]; rfl
  | f a =>
    cases y with
    | r j => rw [decide_eq_false fun z => nomatch z]; rfl
    | f b =>
      show PyData.eqv (.tuple [.int a.num, .int a.den]) (.tuple [.int b.num, .int b.den]) = _
      (simp only [PyData.eqv, PyData.eqvAll])
      by_cases e : a = b
      · subst e; simp
      · rw [decide_eq_false fun z => e (Nu.f.inj z)]
        by_cases e1 : a.num = b.num
        · by_cases e2 : a.den = b.den
          · exact absurd (Rat.ext e1 e2) e
          · have : ¬ (a.den : Int) = (b.den : Int) := fun z => e2 (Int.ofNat.inj z)
            simp [this]
        · simp [e1]
def spGop (K : PySem.W.Frag) (op : Int → Nu → Nu → Nu) : Sp := fun vs H Q _ => ∃ (G : Hp) (g : Addr) (p : Int) (x y : Nu) (v w : V) (n m : Nat), vs = [.ref g, v, w] ∧ GrAt K H g p ∧ 0 ≤ p ∧ x.ok p ∧ y.ok p ∧ Dx H v x.d ∧ Dx H w y.d ∧ x.le n ∧ y.le m ∧ n + m ≤ 8000 ∧ RetD (op p x y).d G H Q
def subN (p : Int) (x y : Nu) : Nu := Nu.add p x (Nu.neg p y)
def sp_Ground_sub (K : PySem.W.Frag) : Sp := spGop K subN
def sp_Ground_mul (K : PySem.W.Frag) : Sp := spGop K Nu.mul
def t_m_Ground_sub (K : PySem.W.Frag) : TS :=
    (tSeq (tIfS (tTest (tOp uNotN (tFld K (tVar 0) "prime") (tC .non))) (tRet (tOp uMod (tOp uSub (tVar 1) (tVar 2)) (tFld K (tVar 0) "prime"))) tNext)
    (tRet (tMeth (He.ga K "Ground") "number" (sp_Ground_number K) [] E0 (tVar 0) (tCons (tOp uSub (tOp (uMul K) (tOp (uIx K) (tVar 1) (tC (.int 0))) (tOp (uIx K) (tVar 2) (tC (.int 1)))) (tOp (uMul K) (tOp (uIx K) (tVar 2) (tC (.int 0))) (tOp (uIx K) (tVar 1) (tC (.int 1))))) (tCons (tOp (uMul K) (tOp (uIx K) (tVar 1) (tC (.int 1))) (tOp (uIx K) (tVar 2) (tC (.int 1)))) tNil)))))
def t_m_Ground_mul (K : PySem.W.Frag) : TS :=
    (tSeq (tIfS (tTest (tOp uNotN (tFld K (tVar 0) "prime") (tC .non))) (tRet (tOp uMod (tOp (uMul K) (tVar 1) (tVar 2)) (tFld K (tVar 0) "prime"))) tNext)
    (tRet (tMeth (He.ga K "Ground") "number" (sp_Ground_number K) [] E0 (tVar 0) (tCons (tOp (uMul K) (tOp (uIx K) (tVar 1) (tC (.int 0))) (tOp (uIx K) (tVar 2) (tC (.int 0)))) (tCons (tOp (uMul K) (tOp (uIx K) (tVar 1) (tC (.int 1))) (tOp (uIx K) (tVar 2) (tC (.int 1)))) tNil)))))
theorem ne_np : ¬ (("number" : Str) = "prime") := by decide +kernel
theorem ne_nl : ¬ (("number" : Str) = "line") := by decide +kernel
theorem sub_frac (a b : Rat) : a + -b = Rat.divInt (a.num * (b.den : Int) - b.num * (a.den : Int)) ((a.den : Int) * (b.den : Int)) := by
  rw [add_frac, Rat.neg_num, Rat.neg_den, Int.neg_mul, Int.sub_eq_add_neg]
theorem pure_gsub (K : PySem.W.Frag) (T : GrK K) (vs : List V) (H : Hp) (Q : VK) (E : XK) (h : sp_Ground_sub K vs H Q E) : t_m_Ground_sub K { nx := fun _ H' => Q .non H', rt := Q } (start ["self", "x", "y"] vs) H := by
  obtain ⟨G, g, p, x, y, v, w, n, m, rfl, hg, hp, hx, hy, dx, dy, lx, ly, hz, q⟩ := h
  unfold t_m_Ground_sub
  walk_at "tw"
  refine c_gpV rfl T hg ?_
  by_cases p0 : 0 < p
  · rw [grV_pos p0]
    obtain ⟨i, rfl, _⟩ := Nu.ok_r p0 hx
    obtain ⟨j, rfl, _⟩ := Nu.ok_r p0 hy
    cases Dx.int_inv dx
    cases Dx.int_inv dy
    walk_at "tw"
    refine c_gpV rfl T hg ?_
    rw [grV_pos p0]
    walk_at "tw"
    have e : (i - j) % p = (i + -j % p) % p := by
      obtain ⟨c, e⟩ := modE p (-j)
      rw [e]
      exact mod3 p0 ⟨c, by grind⟩
    rw [e]
    exact q _ _ (Ex.refl _) (.int _)
  · have p0 : p = 0 := by omega
    subst p0
    rw [grV_zero rfl]
    obtain ⟨a, rfl⟩ := Nu.ok_f rfl hx
    obtain ⟨b, rfl⟩ := Nu.ok_f rfl hy
    obtain ⟨va, rfl, ha⟩ := dx.frac_inv
    obtain ⟨vb, rfl, hb⟩ := dy.frac_inv
    obtain ⟨l1, l2⟩ := lx
    obtain ⟨k1, k2⟩ := ly
    walk_at "tw"
    refine c_gmV rfl hg ne_np ne_nl ?_
    walk_at "tw"
    refine c_mulI (mul_wide l1 k2 (by omega)) ?_
    walk_at "tw"
    refine c_mulI (mul_wide k1 l2 (by omega)) ?_
    walk_at "tw"
    refine c_mulI (mul_wide l2 k2 (by omega)) ?_
    walk_at "tw"
    refine .inl ⟨G, g, _, _, rfl, hg, den_mul_pos a b, ?_, ?_⟩
    · rw [Int.natAbs_mul]
      exact Nat.lt_of_lt_of_le (lt_pow_mul l2 k2) (Nat.pow_le_pow_right (by decide) hz)
    · rw [← sub_frac]; exact q
theorem pure_gmul (K : PySem.W.Frag) (T : GrK K) (vs : List V) (H : Hp) (Q : VK) (E : XK) (h : sp_Ground_mul K vs H Q E) : t_m_Ground_mul K { nx := fun _ H' => Q .non H', rt := Q } (start ["self", "x", "y"] vs) H := by
  obtain ⟨G, g, p, x, y, v, w, n, m, rfl, hg, hp, hx, hy, dx, dy, lx, ly, hz, q⟩ := h
  unfold t_m_Ground_mul
  walk_at "tw"
  refine c_gpV rfl T hg ?_
  by_cases p0 : 0 < p
  · rw [grV_pos p0]
    obtain ⟨i, rfl, _⟩ := Nu.ok_r p0 hx
    obtain ⟨j, rfl, _⟩ := Nu.ok_r p0 hy
    cases Dx.int_inv dx
    cases Dx.int_inv dy
    walk_at "tw"
    refine c_mulI (mul_wide lx ly (by omega)) ?_
    walk_at "tw"
    refine c_gpV rfl T hg ?_
    rw [grV_pos p0]
    walk_at "tw"
    exact q _ _ (Ex.refl _) (.int _)
  · have p0 : p = 0 := by omega
    subst p0
    rw [grV_zero rfl]
    obtain ⟨a, rfl⟩ := Nu.ok_f rfl hx
    obtain ⟨b, rfl⟩ := Nu.ok_f rfl hy
    obtain ⟨va, rfl, ha⟩ := dx.frac_inv
    obtain ⟨vb, rfl, hb⟩ := dy.frac_inv
    obtain ⟨l1, l2⟩ := lx
    obtain ⟨k1, k2⟩ := ly
    walk_at "tw"
    refine c_gmV rfl hg ne_np ne_nl ?_
    walk_at "tw"
    refine c_mulI (mul_wide l1 k1 (by omega)) ?_
    walk_at "tw"
    refine c_mulI (mul_wide l2 k2 (by omega)) ?_
    walk_at "tw"
    refine .inl ⟨G, g, _, _, rfl, hg, den_mul_pos a b, ?_, ?_⟩
    · rw [Int.natAbs_mul]
      exact Nat.lt_of_lt_of_le (lt_pow_mul l2 k2) (Nat.pow_le_pow_right (by decide) hz)
    · rw [← mul_frac]; exact q
/-- one divided by y -/
def sp_Ground_div (K : PySem.W.Frag) : Sp := fun vs H Q _ => ∃ (G : Hp) (g : Addr) (p : Int) (y : Nu) (v w : V), vs = [.ref g, v, w] ∧ GrAt K H g p ∧ PrN p ∧ y.ok p ∧ y ≠ ofInt p 0 ∧ y.le 7900 ∧ Dx H v (ofInt p 1).d ∧ Dx H w y.d ∧ RetD (Nu.inv p y).d G H Q
def t_m_Ground_div (K : PySem.W.Frag) : TS :=
    (tSeq (tIfS (tTest (tOp (uEq K) (tVar 2) (tMeth (He.ga K "Ground") "number" (sp_Ground_number K) [.int 1] E0 (tVar 0) (tCons (tC (.int 0)) tNil)))) tNever tNext)
    (tSeq (tIfS (tTest (tOp uNotN (tFld K (tVar 0) "prime") (tC .non))) (tRet (tOp uMod (tOp (uMul K) (tVar 1) (tCall sp_inverse_modulo [] E0 (tCons (tVar 2) (tCons (tFld K (tVar 0) "prime") tNil)))) (tFld K (tVar 0) "prime"))) tNext)
    (tRet (tMeth (He.ga K "Ground") "number" (sp_Ground_number K) [] E0 (tVar 0) (tCons (tOp (uMul K) (tOp (uIx K) (tVar 1) (tC (.int 0))) (tOp (uIx K) (tVar 2) (tC (.int 1)))) (tCons (tOp (uMul K) (tOp (uIx K) (tVar 1) (tC (.int 1))) (tOp (uIx K) (tVar 2) (tC (.int 0)))) tNil))))))
theorem pure_gdiv (K : PySem.W.Frag) (T : GrK K) (vs : List V) (H : Hp) (Q : VK) (E : XK) (h : sp_Ground_div K vs H Q E) : t_m_Ground_div K { nx := fun _ H' => Q .non H', rt := Q } (start ["self", "x", "y"] vs) H := by
  obtain ⟨G, g, p, y, v, w, rfl, hg, hp, hy, ne, le, dx, dy, q⟩ := h
  unfold t_m_Ground_div
  walk_at "tw"
  refine c_gmV rfl hg ne_np ne_nl ?_
  walk_at "tw"
  refine gnum (G := hp0) hg hp fun z H1 e1 d1 => ?_
  refine c_eqD (dy.mono e1) (d1.mono (grow_in (ex0 _))) sh_nu sh_nu ?_
  rw [nu_eqv, decide_eq_false ne]
  walk_at "tw"
  have hg1 := hg.ex e1
  refine c_gpV rfl T hg1 ?_
  rcases hp with rfl | ⟨n, hn, rfl⟩
  · rw [grV_zero rfl]
    obtain ⟨b, rfl⟩ := Nu.ok_f rfl hy
    rw [ofInt_f rfl] at dx
    obtain ⟨va, rfl, ha⟩ := (dx.mono e1).frac_inv
    obtain ⟨vb, rfl, hb⟩ := (dy.mono e1).frac_inv
    walk_at "tw"
    refine c_gmV rfl hg1 ne_np ne_nl ?_
    have o1 : ((1 : Int) : Rat).num = 1 := rfl
    have o2 : (((1 : Int) : Rat).den : Int) = 1 := rfl
    rw [o1, o2] at ha
    walk_at "tw"
    rw [Int.one_mul, Int.one_mul]
    have b0 : b ≠ 0 := fun z => ne (by rw [ofInt0_f rfl, z])
    have n0 : b.num ≠ 0 := fun z => b0 (Rat.num_eq_zero.mp z)
    have le1 : b.num.natAbs < 2 ^ 8000 := Nat.lt_of_lt_of_le le.1 (Nat.pow_le_pow_right (by decide) (by decide))
    have q2 : RetD (Nu.f (Rat.divInt (b.den : Int) b.num)).d (grow G H H1) H1 Q := by rw [← inv_frac]; exact q.go e1
    rcases Int.lt_or_lt_of_ne n0 with neg | pos
    · refine .inr (.inl ⟨_, g, _, _, rfl, hg1, neg, ?_, q2⟩)
      have gg : Nat.gcd (b.den : Int).natAbs b.num.natAbs = 1 := by
        rw [Int.natAbs_natCast, Nat.gcd_comm]
        exact b.reduced
      rw [gg]
      decide
    · exact .inl ⟨_, g, _, _, rfl, hg1, pos, le1, q2⟩
  · have n1 := prb_fin n hn
    have p0 : (0 : Int) < n := by omega
    rw [grV_pos p0]
    obtain ⟨j, rfl, j0, j1⟩ := Nu.ok_r p0 hy
    obtain ⟨b, rfl⟩ : ∃ b : Nat, j = (b : Int) := ⟨j.toNat, by omega⟩
    have e11 : (1 : Int) % (n : Int) = 1 := Int.emod_eq_of_lt (by decide) (by omega)
    rw [ofInt_r p0, e11] at dx
    cases dx.int_inv
    cases dy.int_inv
    have b0 : b ≠ 0 := fun z => ne (by rw [ofInt0_r p0, z]; rfl)
    walk_at "tw"
    refine c_gpV rfl T hg1 ?_
    rw [grV_pos p0]
    walk_at "tw"
    refine ⟨n, b, rfl, hn, by omega, b0, fun v H2 e2 d2 => ?_⟩
    cases d2.int_inv
    walk_at "tw"
    refine c_gpV rfl T (hg1.ex e2) ?_
    rw [grV_pos p0]
    walk_at "tw"
    rw [Int.one_mul]
    have e : ((b ^ (n - 2) % n : Nat) : Int) % (n : Int) = (b : Int) ^ ((n : Int) - 2).toNat % (n : Int) := by
      rw [show ((n : Int) - 2).toNat = n - 2 from by omega, ← Int.natCast_emod, Nat.mod_mod, Int.natCast_emod, Int.natCast_pow]
    rw [e]
    exact q _ _ (e1.trans e2) (.int _)
end Tw
namespace Tw
open PySem PySem.Spec PyProof.Rows L2 Evl RZ
/-! ## zip, of two lists or two tuples -/
structure ZipJ (J : It) (xs ys : List V) (P : Hp → Prop) : Prop where
  go : ∀ i H, P H → i < xs.length → J.go i H
  stop : ∀ H, P H → J.stop xs.length H
  yld : ∀ i H v H', P H → i < xs.length → J.yld i H v H' → ∃ T x y, v = .ref T ∧ H T = none ∧ H' = upd H T (.tup [x, y]) ∧ xs[i]? = some x ∧ ys[i]? = some y
theorem zipJ_L {K : PySem.W.Frag} {a b : Addr} {xs ys : List V} (hl : xs.length = ys.length) : ZipJ (Itz K a b) xs ys fun H => SqL K H a xs ∧ SqL K H b ys where
  go := fun i H p hi => ⟨xs, ys, _, _, p.1, p.2, List.getElem?_eq_getElem hi, List.getElem?_eq_getElem (by omega)⟩
  stop := fun H p => ⟨xs, ys, p.1, p.2, .inl (Nat.le_refl _)⟩
  yld := fun i H v H' p hi y => by
    obtain ⟨T, x, z, e, hT, e2, f1, f2⟩ := y
    exact ⟨T, x, z, e, hT, e2, f1 _ p.1, f2 _ p.2⟩
theorem zipJ_T {K : PySem.W.Frag} {a b : Addr} {xs ys : List V} (hl : xs.length = ys.length) : ZipJ (ItzT K a b) xs ys fun H => SqT K H a xs ∧ SqT K H b ys where
  go := fun i H p hi => ⟨xs, ys, _, _, p.1, p.2, List.getElem?_eq_getElem hi, List.getElem?_eq_getElem (by omega)⟩
  stop := fun H p => ⟨xs, ys, p.1, p.2, .inl (Nat.le_refl _)⟩
  yld := fun i H v H' p hi y => by
    obtain ⟨T, x, z, e, hT, e2, f1, f2⟩ := y
    exact ⟨T, x, z, e, hT, e2, f1 _ p.1, f2 _ p.2⟩
theorem forZ {J : It} {xs ys : List V} {P : Hp → Prop} (Z : ZipJ J xs ys P) {g : TG} {tb : TS} {D : Ends} {σ : L2.St} {H : Hp} (Pv : Nat → L2.St → Hp → Prop) (h0 : Pv 0 σ H) (hq : ∀ i σ H, Pv i σ H → P H)
    (hs : ∀ (i : Nat) (x y : V) (A0 : Addr) (σ : L2.St) (H : Hp), xs[i]? = some x → ys[i]? = some y → Pv i σ H → H A0 = none → g (.ref A0) σ (upd H A0 (.tup [x, y])) fun σ2 H2 => tb { D with nx := Pv (i + 1), ct := Pv (i + 1), bk := D.nx } σ2 H2) (hd : ∀ σ H, Pv xs.length σ H → D.nx σ H) :
    ∃ Wz : Nat → Nat → L2.St → Hp → Prop, (∃ m, Wz 0 m σ H) ∧ ∀ i m σ H, Wz i m σ H →
      (J.stop i H ∧ D.nx σ H) ∨ (J.go i H ∧ ∃ N : L2.St → Hp → Prop, (∀ σ' H', N σ' H' → ∃ m', m' < m ∧ Wz (i + 1) m' σ' H') ∧ ∀ v H', J.yld i H v H' → g v σ H' fun σ2 H2 => tb { D with nx := N, ct := N, bk := D.nx } σ2 H2) := by
  refine ⟨fun i m σ H => m = xs.length - i ∧ i ≤ xs.length ∧ Pv i σ H, ⟨_, rfl, Nat.zero_le _, h0⟩, fun i m σ1 H1 hw => ?_⟩
  obtain ⟨rfl, hi, pv⟩ := hw
  have hp := hq i σ1 H1 pv
  rcases Nat.lt_or_ge i xs.length with lt | ge
  · refine .inr ⟨Z.go i H1 hp lt, Pv (i + 1), fun σ2 H2 p2 => ⟨xs.length - (i + 1), by omega, rfl, lt, p2⟩, fun v H2 yv => ?_⟩
    obtain ⟨T, x, y, rfl, hT, rfl, hx, hy⟩ := Z.yld i H1 v H2 hp lt yv
    exact hs i x y T σ1 H1 hx hy pv hT
  · obtain rfl : i = xs.length := Nat.le_antisymm hi ge
    exact .inl ⟨Z.stop H1 hp, hd σ1 H1 pv⟩
theorem lcZ {J : It} {xs ys : List V} {P : Hp → Prop} (Z : ZipJ J xs ys P) {g : TG} {tt : TT} {te : TE} {ws : List Nat} {σ : L2.St} {H1 : Hp} {L : Addr} {Qd : Hp → Prop} (Pv : Nat → Hp → Prop) (h0 : Pv 0 (upd H1 L (.lst []))) (hq : ∀ i H, Pv i H → P H)
    (hs : ∀ (i : Nat) (x y : V) (T : Addr) (H : Hp), xs[i]? = some x → ys[i]? = some y → Pv i H → H T = none → g (.ref T) (wipe σ ws) (upd H T (.tup [x, y])) fun σ2 H2 => wipe σ2 ws = wipe σ ws ∧ tt σ2 H2 fun b H3 =>
      if b = true then te σ2 H3 fun y H4 => ∃ acc, H4 L = some (.lst acc) ∧ acc.length < sizeLine ∧ Pv (i + 1) (upd H4 L (.lst (acc ++ [y]))) else Pv (i + 1) H3) (hd : ∀ H, Pv xs.length H → Qd H) :
    ∃ W : Nat → Nat → Hp → Prop, (∃ m, W 0 m (upd H1 L (.lst []))) ∧ ∀ i m H, W i m H →
      (J.stop i H ∧ Qd H) ∨ (J.go i H ∧ ∃ Nx : Hp → Prop, (∀ H', Nx H' → ∃ m', m' < m ∧ W (i + 1) m' H') ∧ ∀ x H', J.yld i H x H' → g x (wipe σ ws) H' fun σ2 H2 => wipe σ2 ws = wipe σ ws ∧ tt σ2 H2 fun b H3 =>
        if b = true then te σ2 H3 fun y H4 => ∃ acc, H4 L = some (.lst acc) ∧ acc.length < sizeLine ∧ Nx (upd H4 L (.lst (acc ++ [y]))) else Nx H3) := by
  refine ⟨fun i m H => m = xs.length - i ∧ i ≤ xs.length ∧ Pv i H, ⟨_, rfl, Nat.zero_le _, h0⟩, fun i m H2 hw => ?_⟩
  obtain ⟨rfl, hi, pv⟩ := hw
  have hp := hq i H2 pv
  rcases Nat.lt_or_ge i xs.length with lt | ge
  · refine .inr ⟨Z.go i H2 hp lt, Pv (i + 1), fun H3 p2 => ⟨xs.length - (i + 1), by omega, rfl, lt, p2⟩, fun v H3 yv => ?_⟩
    obtain ⟨T, x, y, rfl, hT, rfl, hx, hy⟩ := Z.yld i H2 v H3 hp lt yv
    exact hs i x y T H2 hx hy pv hT
  · obtain rfl : i = xs.length := Nat.le_antisymm hi ge
    exact .inl ⟨Z.stop H2 hp, hd H2 pv⟩
theorem c_zipV {K : PySem.W.Frag} {G : Hp} {σ : L2.St} {m n : Nat} {v w : V} {xs ys : List Nu} (hm : σ[m]? = some (some v)) (hn : σ[n]? = some (some w)) (h : (Dx G v (.list (xs.map Nu.d)) ∧ Dx G w (.list (ys.map Nu.d))) ∨ (Dx G v (.tuple (xs.map Nu.d)) ∧ Dx G w (.tuple (ys.map Nu.d)))) (hl : xs.length = ys.length) {R : It → Hp → Prop} {H : Hp} (eH : Ex G H)
    (q : ∀ us ws J P, DxA G us (xs.map Nu.d) → DxA G ws (ys.map Nu.d) → ZipJ J us ws P → (∀ H', Ex G H' → P H') → R J H) : iZipA K (tCons (tVar m) (tCons (tVar n) tNil)) σ H R := by
  refine ⟨v, hm, w, hn, ?_⟩
  (rcases h with ⟨h1, h2⟩ | ⟨h1, h2⟩)
  · obtain ⟨a, us, rfl, ha, ru⟩ := h1.lst_inv
    obtain ⟨b, ws, rfl, hb, rw'⟩ := h2.lst_inv
    have l : us.length = ws.length := by rw [ru.length, rw'.length, List.length_map, List.length_map, hl]
    exact ⟨a, b, us, ws, rfl, .inl ⟨SqL.of (eH _ _ ha), SqL.of (eH _ _ hb), q us ws _ _ ru rw' (zipJ_L l) fun H' e => ⟨SqL.of (e _ _ ha), SqL.of (e _ _ hb)⟩⟩⟩
  · obtain ⟨a, us, rfl, ha, ru⟩ := h1.tup_inv
    obtain ⟨b, ws, rfl, hb, rw'⟩ := h2.tup_inv
    have l : us.length = ws.length := by rw [ru.length, rw'.length, List.length_map, List.length_map, hl]
    exact ⟨a, b, us, ws, rfl, .inr ⟨SqT.of (eH _ _ ha), SqT.of (eH _ _ hb), q us ws _ _ ru rw' (zipJ_T l) fun H' e => ⟨SqT.of (e _ _ ha), SqT.of (e _ _ hb)⟩⟩⟩
/-! ## comprehensions that build data -/
theorem BldP.ext {L : Addr} {G H H2 H3 : Hp} {vs : List V} {ds : List PyData} (B : BldP L G H H2 vs ds) (x : Ex H2 H3) : BldP L G H H3 vs ds :=
  ⟨B.ex.trans x, B.new, x _ _ B.at_, B.data.mono (grow_mono (Ex.refl _) x)⟩
theorem BldP.push {L : Addr} {G H H2 H3 : Hp} {vs : List V} {ds : List PyData} {v : V} {d : PyData} (B : BldP L G H H2 vs ds) (eG : Ex G H) (x : Ex H2 H3) (hd : Dx (grow G H2 H3) v d) : BldP L G H (upd H3 L (.lst (vs ++ [v]))) (vs ++ [v]) (ds ++ [d]) :=
  B.step eG x (hd.mono (grow_mono (grow_ex (eG.trans (Ex.new B.new))) (Ex.refl _)))
section
variable {K : PySem.W.Frag} {a L : Addr} {us : List V} {G H : Hp} {g : TG} {tt : TT} {te : TE} {vs : List Nat} {σ : L2.St} {Qd : Hp → Prop}
/-- what one turn owes: an item of d put behind, or nothing -/
abbrev TurnD (G H2 : Hp) (pre pre' : List PyData) (Q2 : VK) (N : Hp → Prop) : Prop := (∀ y d H5, pre' = pre ++ [d] → Ex H2 H5 → Dx (grow G H2 H5) y d → Q2 y H5) ∧ (pre' = pre → ∀ H5, Ex H2 H5 → N H5)
theorem BldP.turn {ws : List V} {H2 : Hp} {pre pre' : List PyData} (B : BldP L G H H2 ws pre) (eG : Ex G H) (hz : pre.length ≤ 30000) :
    TurnD G H2 pre pre' (fun y H4 => ∃ acc, H4 L = some (.lst acc) ∧ acc.length < sizeLine ∧ ∃ ws, BldP L G H (upd H4 L (.lst (acc ++ [y]))) ws pre') (fun H4 => ∃ ws, BldP L G H H4 ws pre') :=
  ⟨fun y d H5 e e5 dy => ⟨ws, e5 _ _ B.at_, sz_of_le (by rw [B.len]; omega), ws ++ [y], by rw [e]; exact B.push eG e5 dy⟩, fun e H5 e5 => ⟨ws, by rw [e]; exact B.ext e5⟩⟩
theorem lcB_list (pre : Nat → List PyData) (eG : Ex G H) (hL : H L = none) (ha : H a = some (.lst us)) (p0 : pre 0 = []) (pz : ∀ i, i < us.length → (pre i).length ≤ 30000)
    (hs : ∀ i x H2 (Q2 : VK) (N : Hp → Prop), us[i]? = some x → Ex H H2 → TurnD G H2 (pre i) (pre (i + 1)) Q2 N → g x (wipe σ vs) H2 fun σ2 H3 => wipe σ2 vs = wipe σ vs ∧ tt σ2 H3 fun b H4 => if b = true then te σ2 H4 Q2 else N H4)
    (hd : ∀ H2, Ex H H2 → Dx (grow G H H2) (.ref L) (.list (pre us.length)) → Qd H2) :
    ∃ W : Nat → Nat → Hp → Prop, (∃ m, W 0 m (upd H L (.lst []))) ∧ ∀ i m H, W i m H →
      (((Itl K a).stop i H) ∧ Qd H) ∨ ((Itl K a).go i H ∧ ∃ Nx : Hp → Prop, (∀ H', Nx H' → ∃ m', m' < m ∧ W (i + 1) m' H') ∧ ∀ x H', (Itl K a).yld i H x H' → g x (wipe σ vs) H' fun σ2 H2 => wipe σ2 vs = wipe σ vs ∧ tt σ2 H2 fun b H3 =>
        if b = true then te σ2 H3 fun y H4 => ∃ acc, H4 L = some (.lst acc) ∧ acc.length < sizeLine ∧ Nx (upd H4 L (.lst (acc ++ [y]))) else Nx H3) :=
  lc_list (xs := us) (fun i H2 => ∃ ws, BldP L G H H2 ws (pre i)) ⟨[], by rw [p0]; exact BldP.start hL⟩ (fun i H2 _ ⟨_, B⟩ => SqL.of (B.ex _ _ ha))
    (fun i x H2 hx ⟨ws, B⟩ => hs i x H2 _ _ hx B.ex (B.turn eG (pz i (List.getElem?_eq_some_iff.mp hx).1))) (fun H2 ⟨ws, B⟩ => hd H2 B.ex (B.done eG))
theorem lcB_tup (pre : Nat → List PyData) (eG : Ex G H) (hL : H L = none) (ha : H a = some (.tup us)) (p0 : pre 0 = []) (pz : ∀ i, i < us.length → (pre i).length ≤ 30000)
    (hs : ∀ i x H2 (Q2 : VK) (N : Hp → Prop), us[i]? = some x → Ex H H2 → TurnD G H2 (pre i) (pre (i + 1)) Q2 N → g x (wipe σ vs) H2 fun σ2 H3 => wipe σ2 vs = wipe σ vs ∧ tt σ2 H3 fun b H4 => if b = true then te σ2 H4 Q2 else N H4)
    (hd : ∀ H2, Ex H H2 → Dx (grow G H H2) (.ref L) (.list (pre us.length)) → Qd H2) :
    ∃ W : Nat → Nat → Hp → Prop, (∃ m, W 0 m (upd H L (.lst []))) ∧ ∀ i m H, W i m H →
      (((Itt K a).stop i H) ∧ Qd H) ∨ ((Itt K a).go i H ∧ ∃ Nx : Hp → Prop, (∀ H', Nx H' → ∃ m', m' < m ∧ W (i + 1) m' H') ∧ ∀ x H', (Itt K a).yld i H x H' → g x (wipe σ vs) H' fun σ2 H2 => wipe σ2 vs = wipe σ vs ∧ tt σ2 H2 fun b H3 =>
        if b = true then te σ2 H3 fun y H4 => ∃ acc, H4 L = some (.lst acc) ∧ acc.length < sizeLine ∧ Nx (upd H4 L (.lst (acc ++ [y]))) else Nx H3) :=
  lc_tup (xs := us) (fun i H2 => ∃ ws, BldP L G H H2 ws (pre i)) ⟨[], by rw [p0]; exact BldP.start hL⟩ (fun i H2 _ ⟨_, B⟩ => SqT.of (B.ex _ _ ha))
    (fun i x H2 hx ⟨ws, B⟩ => hs i x H2 _ _ hx B.ex (B.turn eG (pz i (List.getElem?_eq_some_iff.mp hx).1))) (fun H2 ⟨ws, B⟩ => hd H2 B.ex (B.done eG))
theorem lcB_range {n : Nat} (pre : Nat → List PyData) (eG : Ex G H) (hL : H L = none) (p0 : pre 0 = []) (pz : ∀ i, i < n → (pre i).length ≤ 30000)
    (hs : ∀ i H2 (Q2 : VK) (N : Hp → Prop), i < n → Ex H H2 → TurnD G H2 (pre i) (pre (i + 1)) Q2 N → g (.int (0 + (i : Int))) (wipe σ vs) H2 fun σ2 H3 => wipe σ2 vs = wipe σ vs ∧ tt σ2 H3 fun b H4 => if b = true then te σ2 H4 Q2 else N H4)
    (hd : ∀ H2, Ex H H2 → Dx (grow G H H2) (.ref L) (.list (pre n)) → Qd H2) :
    ∃ W : Nat → Nat → Hp → Prop, (∃ m, W 0 m (upd H L (.lst []))) ∧ ∀ i m H, W i m H →
      ((Itr 0 n).stop i H ∧ Qd H) ∨ ((Itr 0 n).go i H ∧ ∃ Nx : Hp → Prop, (∀ H', Nx H' → ∃ m', m' < m ∧ W (i + 1) m' H') ∧ ∀ x H', (Itr 0 n).yld i H x H' → g x (wipe σ vs) H' fun σ2 H2 => wipe σ2 vs = wipe σ vs ∧ tt σ2 H2 fun b H3 =>
        if b = true then te σ2 H3 fun y H4 => ∃ acc, H4 L = some (.lst acc) ∧ acc.length < sizeLine ∧ Nx (upd H4 L (.lst (acc ++ [y]))) else Nx H3) :=
  lc_range (lo := 0) (n := n) (fun i H2 => ∃ ws, BldP L G H H2 ws (pre i)) ⟨[], by rw [p0]; exact BldP.start hL⟩
    (fun i H2 hi ⟨ws, B⟩ => hs i H2 _ _ hi B.ex (B.turn eG (pz i hi))) (fun H2 ⟨ws, B⟩ => hd H2 B.ex (B.done eG))
theorem lcB_zip {J : It} {xs ys : List V} {P : Hp → Prop} (Z : ZipJ J xs ys P) (pre : Nat → List PyData) (eG : Ex G H) (hL : H L = none) (hP : ∀ H', Ex H H' → P H') (p0 : pre 0 = []) (pz : ∀ i, i < xs.length → (pre i).length ≤ 30000)
    (hs : ∀ i x y T H2 (Q2 : VK) (N : Hp → Prop), xs[i]? = some x → ys[i]? = some y → H2 T = none → Ex H H2 → TurnD G H2 (pre i) (pre (i + 1)) Q2 N → g (.ref T) (wipe σ vs) (upd H2 T (.tup [x, y])) fun σ2 H3 => wipe σ2 vs = wipe σ vs ∧ tt σ2 H3 fun b H4 => if b = true then te σ2 H4 Q2 else N H4)
    (hd : ∀ H2, Ex H H2 → Dx (grow G H H2) (.ref L) (.list (pre xs.length)) → Qd H2) :
    ∃ W : Nat → Nat → Hp → Prop, (∃ m, W 0 m (upd H L (.lst []))) ∧ ∀ i m H, W i m H →
      ((J).stop i H ∧ Qd H) ∨ ((J).go i H ∧ ∃ Nx : Hp → Prop, (∀ H', Nx H' → ∃ m', m' < m ∧ W (i + 1) m' H') ∧ ∀ x H', (J).yld i H x H' → g x (wipe σ vs) H' fun σ2 H2 => wipe σ2 vs = wipe σ vs ∧ tt σ2 H2 fun b H3 =>
        if b = true then te σ2 H3 fun y H4 => ∃ acc, H4 L = some (.lst acc) ∧ acc.length < sizeLine ∧ Nx (upd H4 L (.lst (acc ++ [y]))) else Nx H3) :=
  lcZ Z (fun i H2 => ∃ ws, BldP L G H H2 ws (pre i)) ⟨[], by rw [p0]; exact BldP.start hL⟩ (fun i H2 ⟨_, B⟩ => hP H2 B.ex)
    (fun i x y T H2 hx hy ⟨ws, B⟩ hT => hs i x y T H2 _ _ hx hy hT B.ex (B.turn eG (pz i (List.getElem?_eq_some_iff.mp hx).1))) (fun H2 ⟨ws, B⟩ => hd H2 B.ex (B.done eG))
end
/-- over data, unfiltered -/
theorem pre_take {ds : List PyData} {i : Nat} {d : PyData} (h : ds[i]? = some d) : ds.take (i + 1) = ds.take i ++ [d] := take_succ h
theorem pre_len (ds : List PyData) (h : ds.length ≤ 30000) (i : Nat) : (ds.take i).length ≤ 30000 := Nat.le_trans (List.length_take_le' _ _) h
theorem pre_map {α : Type} {f : α → PyData} {n i : Nat} {h : Nat → α} (hi : i < n) : (((List.range n).map h).map f)[i]? = some (f (h i)) := by
  rw [List.map_map, List.getElem?_map, List.getElem?_range hi]
  rfl
end Tw
namespace Tw
open PySem
/-! ### how large a dot's sums get: by the number of places, or by a common bottom -/
def DotP (nm : Nat) (zs : List (Nu × Nu)) : Prop := (nm + 2) * zs.length ≤ 7000 ∨ ∃ D : Nat, 0 < D ∧ D < 2 ^ 3900 ∧ ∀ a b : Rat, (Nu.f a, Nu.f b) ∈ zs → a.den * b.den ∣ D
structure DotBd (nm : Nat) (zs : List (Nu × Nu)) (Bd : Nat → Int → Int → Prop) : Prop where
  zero : Bd 0 0 1
  up : ∀ i tp bt, Bd i tp bt → Bd (i + 1) tp bt
  same : ∀ i tp bt (a b : Rat), zs[i]? = some (.f a, .f b) → 0 < bt → (a.num * b.num).natAbs < 2 ^ nm → Bd i tp bt → Bd (i + 1) (tp + a.num * b.num) bt
  new : ∀ i tp bt (a b : Rat), zs[i]? = some (.f a, .f b) → 0 < bt → (a.num * b.num).natAbs < 2 ^ nm → ((a.den : Int) * (b.den : Int)).natAbs < 2 ^ nm → Bd i tp bt →
    Bd (i + 1) (Rat.divInt (tp * ((a.den : Int) * (b.den : Int)) + a.num * b.num * bt) (bt * ((a.den : Int) * (b.den : Int)))).num ((Rat.divInt (tp * ((a.den : Int) * (b.den : Int)) + a.num * b.num * bt) (bt * ((a.den : Int) * (b.den : Int)))).den : Int) ∧ (bt * ((a.den : Int) * (b.den : Int))).natAbs < 2 ^ 8000
  newL : ∀ i tp bt (a b : Rat), zs[i]? = some (.f a, .f b) → 0 < bt → (a.num * b.num).natAbs < 2 ^ nm → ((a.den : Int) * (b.den : Int)).natAbs < 2 ^ nm → Bd i tp bt → ∀ g : Nat, g = Nat.gcd bt.natAbs ((a.den : Int) * (b.den : Int)).natAbs →
    Bd (i + 1) (tp * (((a.den : Int) * (b.den : Int)) / (g : Int)) + a.num * b.num * (bt / (g : Int))) (bt / (g : Int) * ((a.den : Int) * (b.den : Int))) ∧ (bt / (g : Int) * ((a.den : Int) * (b.den : Int))).natAbs < 2 ^ 8000
  lim : ∀ i tp bt, i ≤ zs.length → Bd i tp bt → tp.natAbs < 2 ^ 100000 ∧ bt.natAbs < 2 ^ 8000
theorem pow_mono2 {a n m : Nat} (h : a < 2 ^ n) (e : n ≤ m) : a < 2 ^ m := Nat.lt_of_lt_of_le h (Nat.pow_le_pow_right (by decide) e)
theorem natAbs_ediv_g (b : Int) (g : Nat) : (b / (g : Int)).natAbs ≤ b.natAbs := Int.natAbs_ediv_le_natAbs _ _
theorem bd_naive {nm : Nat} {zs : List (Nu × Nu)} (h : (nm + 2) * zs.length ≤ 7000) : DotBd nm zs fun i tp bt => tp.natAbs < 2 ^ ((nm + 2) * i + 1) ∧ bt.natAbs < 2 ^ ((nm + 2) * i + 1) := by
  have len : ∀ {i : Nat} {z : Nu × Nu}, zs[i]? = some z → (nm + 2) * (i + 1) ≤ 7000 := fun {i z} e => Nat.le_trans (Nat.mul_le_mul_left _ (List.getElem?_eq_some_iff.mp e).1) h
  have st : ∀ i, (nm + 2) * (i + 1) = (nm + 2) * i + nm + 2 := fun i => by rw [Nat.mul_add, Nat.mul_one]; omega
  refine ⟨⟨by rw [Nat.mul_zero]; decide, by rw [Nat.mul_zero]; decide⟩, fun i tp bt ⟨k1, k2⟩ => ⟨pow_mono2 k1 (by rw [st]; omega), pow_mono2 k2 (by rw [st]; omega)⟩, ?_, ?_, ?_, ?_⟩
  · rintro i tp bt a b e b0 pb ⟨k1, k2⟩
    refine ⟨Nat.lt_of_le_of_lt (Int.natAbs_add_le _ _) ?_, pow_mono2 k2 (by rw [st]; omega)⟩
    exact pow_mono2 (lt_pow_add (n := (nm + 2) * i + 1 + nm) (pow_mono2 k1 (by omega)) (pow_mono2 pb (by omega))) (by rw [st]; omega)
  · rintro i tp bt a b e b0 pb bb ⟨k1, k2⟩
    have be0 : 0 < (a.den : Int) * (b.den : Int) := den_mul_pos a b
    generalize (a.den : Int) * (b.den : Int) = be at bb be0 ⊢
    have bp : 0 < bt * be := Int.mul_pos b0 be0
    have kb : (bt * be).natAbs < 2 ^ ((nm + 2) * (i + 1) + 1) := by
      rw [Int.natAbs_mul]
      exact pow_mono2 (lt_pow_mul k2 bb) (by rw [st]; omega)
    have kt : (tp * be + a.num * b.num * bt).natAbs < 2 ^ ((nm + 2) * (i + 1) + 1) := by
      refine Nat.lt_of_le_of_lt (Int.natAbs_add_le _ _) ?_
      rw [Int.natAbs_mul, Int.natAbs_mul (a.num * b.num)]
      have z1 : tp.natAbs * be.natAbs < 2 ^ ((nm + 2) * i + 1 + nm) := lt_pow_mul k1 bb
      have z2 : (a.num * b.num).natAbs * bt.natAbs < 2 ^ ((nm + 2) * i + 1 + nm) := by
        rw [Nat.add_comm ((nm + 2) * i + 1)]
        exact lt_pow_mul pb k2
      exact pow_mono2 (lt_pow_add z1 z2) (by rw [st]; omega)
    refine ⟨⟨Nat.lt_of_le_of_lt (frac_num_le _ _ bp) kt, ?_⟩, pow_mono2 kb (by have := len e; omega)⟩
    rw [Int.natAbs_natCast]
    exact Nat.lt_of_le_of_lt (frac_den_le _ _ bp) kb
  · rintro i tp bt a b e b0 pb bb ⟨k1, k2⟩ g hg
    generalize (a.den : Int) * (b.den : Int) = be at bb hg ⊢
    have q1 := natAbs_ediv_g be g
    have q2 := natAbs_ediv_g bt g
    have kb : (bt / (g : Int) * be).natAbs < 2 ^ ((nm + 2) * (i + 1) + 1) := by
      rw [Int.natAbs_mul]
      exact pow_mono2 (lt_pow_mul (Nat.lt_of_le_of_lt q2 k2) bb) (by rw [st]; omega)
    refine ⟨⟨Nat.lt_of_le_of_lt (Int.natAbs_add_le _ _) ?_, kb⟩, pow_mono2 kb (by have := len e; omega)⟩
    rw [Int.natAbs_mul, Int.natAbs_mul (a.num * b.num)]
    have z1 : tp.natAbs * (be / (g : Int)).natAbs < 2 ^ ((nm + 2) * i + 1 + nm) := lt_pow_mul k1 (Nat.lt_of_le_of_lt q1 bb)
    have z2 : (a.num * b.num).natAbs * (bt / (g : Int)).natAbs < 2 ^ ((nm + 2) * i + 1 + nm) := by
      rw [Nat.add_comm ((nm + 2) * i + 1)]
      exact lt_pow_mul pb (Nat.lt_of_le_of_lt q2 k2)
    exact pow_mono2 (lt_pow_add z1 z2) (by rw [st]; omega)
  · rintro i tp bt hi ⟨k1, k2⟩
    have := Nat.mul_le_mul_left (nm + 2) hi
    exact ⟨pow_mono2 k1 (by omega), pow_mono2 k2 (by omega)⟩
theorem den_dvd (N : Int) {D : Nat} (hD : 0 < D) : (Rat.divInt N (D : Int)).den ∣ D := by
  have e := frac_den N (D : Int) (by omega)
  rw [Int.natAbs_natCast] at e
  have e2 : (Rat.divInt N (D : Int)).den = D / Nat.gcd N.natAbs D := by
    have : (((Rat.divInt N (D : Int)).den : Nat) : Int) = ((D / Nat.gcd N.natAbs D : Nat) : Int) := by rw [e, Int.natCast_ediv]
    omega
  rw [e2]
  exact Nat.div_dvd_of_dvd (Nat.gcd_dvd_right _ _)
/-- a fraction of a bound size, in lowest terms -/
theorem frac_abs (N B : Int) (hB : 0 < B) (c : Nat) (h : N.natAbs ≤ B.natAbs * c) : (Rat.divInt N B).num.natAbs ≤ (Rat.divInt N B).den * c := by
  have g0 : 0 < Nat.gcd N.natAbs B.natAbs := Nat.gcd_pos_of_pos_right _ (by omega)
  have e1 : (Rat.divInt N B).num.natAbs * Nat.gcd N.natAbs B.natAbs = N.natAbs := by
    rw [frac_num N B hB]
    have d : ((Nat.gcd N.natAbs B.natAbs : Nat) : Int) ∣ N := Int.ofNat_dvd_left.mpr (Nat.gcd_dvd_left _ _)
    have := Int.ediv_mul_cancel d
    have h2 := congrArg Int.natAbs this
    rw [Int.natAbs_mul, Int.natAbs_natCast] at h2
    exact h2
  have e2 : (Rat.divInt N B).den * Nat.gcd N.natAbs B.natAbs = B.natAbs := by
    have e := frac_den N B hB
    have d : ((Nat.gcd N.natAbs B.natAbs : Nat) : Int) ∣ B := Int.ofNat_dvd_left.mpr (Nat.gcd_dvd_right _ _)
    have := Int.ediv_mul_cancel d
    rw [← e] at this
    have h2 := congrArg Int.natAbs this
    rw [Int.natAbs_mul, Int.natAbs_natCast, Int.natAbs_natCast] at h2
    exact h2
  refine Nat.le_of_mul_le_mul_right ?_ g0
  rw [e1, Nat.mul_right_comm, e2]
  exact h
theorem bd_common {nm : Nat} {zs : List (Nu × Nu)} {D : Nat} (D0 : 0 < D) (D1 : D < 2 ^ 3900) (hn : nm ≤ 7000) (hz : zs.length ≤ 10000) (hd : ∀ a b : Rat, (Nu.f a, Nu.f b) ∈ zs → a.den * b.den ∣ D) :
    DotBd nm zs fun i tp bt => bt.natAbs ∣ D ∧ tp.natAbs ≤ bt.natAbs * (i * 2 ^ nm) := by
  have be : ∀ {i : Nat} {a b : Rat}, zs[i]? = some (.f a, .f b) → ((a.den : Int) * (b.den : Int)).natAbs ∣ D := fun {i a b} e => by
    have := hd a b (List.mem_of_getElem? e)
    rw [Int.natAbs_mul, Int.natAbs_natCast, Int.natAbs_natCast]
    exact this
  have grow1 : ∀ (B i : Nat), B * (i * 2 ^ nm) ≤ B * ((i + 1) * 2 ^ nm) := fun B i => Nat.mul_le_mul_left _ (Nat.mul_le_mul_right _ (by omega))
  refine ⟨⟨Nat.one_dvd _, Nat.zero_le _⟩, fun i tp bt ⟨k1, k2⟩ => ⟨k1, Nat.le_trans k2 (grow1 _ _)⟩, ?_, ?_, ?_, ?_⟩
  · rintro i tp bt a b e b0 pb ⟨k1, k2⟩
    refine ⟨k1, Nat.le_trans (Int.natAbs_add_le _ _) ?_⟩
    have z : 2 ^ nm ≤ bt.natAbs * 2 ^ nm := Nat.le_mul_of_pos_left _ (by omega)
    rw [Nat.add_mul, Nat.one_mul, Nat.mul_add]
    omega
  · rintro i tp bt a b e b0 pb bb ⟨k1, k2⟩
    have hbe := be e
    have be0 : 0 < (a.den : Int) * (b.den : Int) := den_mul_pos a b
    generalize (a.den : Int) * (b.den : Int) = be at bb hbe be0 ⊢
    have bp : 0 < bt * be := Int.mul_pos b0 be0
    obtain ⟨c, hc⟩ := k1
    obtain ⟨d, hd'⟩ := hbe
    have ec : (D : Int) = bt * (c : Int) := by
      have : ((D : Nat) : Int) = ((bt.natAbs * c : Nat) : Int) := by rw [← hc]
      rw [this, Int.natCast_mul, Int.natAbs_of_nonneg (by omega)]
    have ed : (D : Int) = be * (d : Int) := by
      have : ((D : Nat) : Int) = ((be.natAbs * d : Nat) : Int) := by rw [← hd']
      rw [this, Int.natCast_mul, Int.natAbs_of_nonneg (by omega)]
    have eq : Rat.divInt (tp * be + a.num * b.num * bt) (bt * be) = Rat.divInt (tp * (c : Int) + a.num * b.num * (d : Int)) (D : Int) := by
      rw [Rat.divInt_eq_divInt_iff (by omega) (by omega)]
      have e1 : tp * be * (D : Int) = tp * (c : Int) * (bt * be) := by rw [ec]; grind
      have e2 : a.num * b.num * bt * (D : Int) = a.num * b.num * (d : Int) * (bt * be) := by rw [ed]; grind
      rw [Int.add_mul, Int.add_mul, e1, e2]
    refine ⟨⟨?_, ?_⟩, ?_⟩
    · rw [Int.natAbs_natCast, eq]
      exact den_dvd _ D0
    · rw [Int.natAbs_natCast]
      refine frac_abs _ _ bp _ (Nat.le_trans (Int.natAbs_add_le _ _) ?_)
      rw [Int.natAbs_mul, Int.natAbs_mul (a.num * b.num), Int.natAbs_mul bt]
      have z1 : tp.natAbs * be.natAbs ≤ bt.natAbs * (i * 2 ^ nm) * be.natAbs := Nat.mul_le_mul_right _ k2
      have z2 : (a.num * b.num).natAbs * bt.natAbs ≤ 2 ^ nm * bt.natAbs := Nat.mul_le_mul_right _ (Nat.le_of_lt pb)
      have z3 : 2 ^ nm * bt.natAbs ≤ 2 ^ nm * bt.natAbs * be.natAbs := Nat.le_mul_of_pos_right _ (by omega)
      have e3 : bt.natAbs * be.natAbs * ((i + 1) * 2 ^ nm) = bt.natAbs * (i * 2 ^ nm) * be.natAbs + 2 ^ nm * bt.natAbs * be.natAbs := by grind
      omega
    · rw [Int.natAbs_mul]
      have l1 : bt.natAbs ≤ D := Nat.le_of_dvd D0 ⟨c, hc⟩
      have l2 : be.natAbs ≤ D := Nat.le_of_dvd D0 ⟨d, hd'⟩
      exact pow_mono2 (lt_pow_mul (n := 3900) (m := 3900) (by omega) (by omega)) (by decide)
  · rintro i tp bt a b e b0 pb bb ⟨k1, k2⟩ g hg
    have hbe := be e
    have be0 : 0 < (a.den : Int) * (b.den : Int) := den_mul_pos a b
    generalize (a.den : Int) * (b.den : Int) = be at bb hbe be0 hg ⊢
    have g0 : 0 < g := by rw [hg]; exact Nat.gcd_pos_of_pos_right _ (by omega)
    have gb : g ∣ bt.natAbs := by rw [hg]; exact Nat.gcd_dvd_left _ _
    have ge : g ∣ be.natAbs := by rw [hg]; exact Nat.gcd_dvd_right _ _
    have n1 : (bt / (g : Int)).natAbs = bt.natAbs / g := by
      have : bt = ((bt.natAbs : Nat) : Int) := by omega
      rw [this, ← Int.natCast_ediv, Int.natAbs_natCast, Int.natAbs_natCast]
    have n2 : (be / (g : Int)).natAbs = be.natAbs / g := by
      have : be = ((be.natAbs : Nat) : Int) := by omega
      rw [this, ← Int.natCast_ediv, Int.natAbs_natCast, Int.natAbs_natCast]
    have lc : (bt / (g : Int) * be).natAbs = Nat.lcm bt.natAbs be.natAbs := by
      rw [Int.natAbs_mul, n1, hg]
      unfold Nat.lcm
      exact (Nat.mul_div_right_comm (Nat.gcd_dvd_left _ _) _).symm
    have dv : (bt / (g : Int) * be).natAbs ∣ D := by rw [lc]; exact Nat.lcm_dvd k1 hbe
    refine ⟨⟨dv, Nat.le_trans (Int.natAbs_add_le _ _) ?_⟩, ?_⟩
    · rw [Int.natAbs_mul, Int.natAbs_mul (a.num * b.num), Int.natAbs_mul (bt / (g : Int)), n1, n2]
      have z1 : tp.natAbs * (be.natAbs / g) ≤ bt.natAbs * (i * 2 ^ nm) * (be.natAbs / g) := Nat.mul_le_mul_right _ k2
      have z2 : (a.num * b.num).natAbs * (bt.natAbs / g) ≤ 2 ^ nm * (bt.natAbs / g) := Nat.mul_le_mul_right _ (Nat.le_of_lt pb)
      have z3 : 2 ^ nm * (bt.natAbs / g) ≤ 2 ^ nm * (bt.natAbs / g) * be.natAbs := Nat.le_mul_of_pos_right _ (by omega)
      have e4 : bt.natAbs * (be.natAbs / g) = bt.natAbs / g * be.natAbs := by rw [← Nat.mul_div_assoc _ ge, Nat.mul_div_right_comm gb]
      have e3 : bt.natAbs / g * be.natAbs * ((i + 1) * 2 ^ nm) = bt.natAbs / g * be.natAbs * (i * 2 ^ nm) + 2 ^ nm * (bt.natAbs / g) * be.natAbs := by grind
      have e5 : bt.natAbs * (i * 2 ^ nm) * (be.natAbs / g) = bt.natAbs / g * be.natAbs * (i * 2 ^ nm) := by rw [← e4]; grind
      refine Nat.le_trans (Nat.add_le_add z1 (Nat.le_trans z2 z3)) ?_
      rw [e3, e5]
      exact Nat.le_refl _
    · exact pow_mono2 (n := 3900) (by have := Nat.le_of_dvd D0 dv; omega) (by decide)
  · rintro i tp bt hi ⟨k1, k2⟩
    have l1 : bt.natAbs ≤ D := Nat.le_of_dvd D0 k1
    refine ⟨?_, pow_mono2 (n := 3900) (by omega) (by decide)⟩
    have h2 : i * 2 ^ nm < 2 ^ (14 + nm) := by
      rw [Nat.pow_add]
      exact Nat.mul_lt_mul_of_pos_right (by omega) (Nat.pow_pos (by decide))
    exact pow_mono2 (Nat.lt_of_le_of_lt k2 (lt_pow_mul (n := 3900) (by omega) h2)) (by omega)
theorem DotP.bd {nm : Nat} {zs : List (Nu × Nu)} (h : DotP nm zs) (hn : nm ≤ 7000) (hz : zs.length ≤ 10000) : ∃ Bd, DotBd nm zs Bd := by
  rcases h with h | ⟨D, D0, D1, hd⟩
  · exact ⟨_, bd_naive h⟩
  · exact ⟨_, bd_common D0 D1 hn hz hd⟩
theorem DotP.sub {nm : Nat} {zs ws : List (Nu × Nu)} (h : DotP nm zs) (s : ws.Sublist zs) : DotP nm ws := by
  rcases h with h | ⟨D, D0, D1, hd⟩
  · exact .inl (Nat.le_trans (Nat.mul_le_mul_left _ s.length_le) h)
  · exact .inr ⟨D, D0, D1, fun a b m => hd a b (s.subset m)⟩
theorem DotP.naive {n m : Nat} {xs ys : List Nu} (h : (n + m + 2) * xs.length ≤ 7000) : DotP (n + m) (xs.zip ys) := .inl (Nat.le_trans (Nat.mul_le_mul_left _ (by rw [List.length_zip]; omega)) h)
/-! rows over one bottom -/
def Sc (A B D : Nat) (xs : List Nu) : Prop := 0 < D ∧ D < 2 ^ A ∧ ∀ x ∈ xs, ∀ q, x = .f q → ∃ N : Int, q = Rat.divInt N (D : Int) ∧ N.natAbs < 2 ^ B
theorem Sc.dot {A B D A' B' D' nm : Nat} {xs ys : List Nu} (h : Sc A B D xs) (h' : Sc A' B' D' ys) (hA : A + A' ≤ 3900) : DotP nm (xs.zip ys) := by
  refine .inr ⟨D * D', Nat.mul_pos h.1 h'.1, pow_mono2 (lt_pow_mul h.2.1 h'.2.1) hA, fun a b m => ?_⟩
  obtain ⟨m1, m2⟩ := List.of_mem_zip m
  obtain ⟨N, e, _⟩ := h.2.2 _ m1 a rfl
  obtain ⟨M, e', _⟩ := h'.2.2 _ m2 b rfl
  rw [e, e']
  exact Nat.mul_dvd_mul (den_dvd N h.1) (den_dvd M h'.1)
end Tw
namespace Tw
open PySem PySem.Spec PyProof.Rows L2 Evl RZ
/-! ### rowsums: noughts, ones, unit rows, lowest terms -/
def sp_zero_of (K : PySem.W.Frag) : Sp := fun vs H Q _ => ∃ (g : Addr) (p : Int), vs = [.ref g] ∧ GrAt K H g p ∧ 0 ≤ p ∧ RetN (ofInt p 0).d H Q
def sp_one_of (K : PySem.W.Frag) : Sp := fun vs H Q _ => ∃ (g : Addr) (p : Int), vs = [.ref g] ∧ GrAt K H g p ∧ PrN p ∧ RetN (ofInt p 1).d H Q
def t_f_zero_of (K : PySem.W.Frag) : TS :=
    (tRet (tIf (tTest (tOp uIsN (tFld K (tVar 0) "prime") (tC .non))) (tTup (tCons (tC (.int 0)) (tCons (tC (.int 1)) tNil))) (tC (.int 0))))
def t_f_one_of (K : PySem.W.Frag) : TS :=
    (tRet (tIf (tTest (tOp uIsN (tFld K (tVar 0) "prime") (tC .non))) (tTup (tCons (tC (.int 1)) (tCons (tC (.int 1)) tNil))) (tC (.int 1))))
theorem pure_zero_of (K : PySem.W.Frag) (T : GrK K) (vs : List V) (H : Hp) (Q : VK) (E : XK) (h : sp_zero_of K vs H Q E) : t_f_zero_of K { nx := fun _ H' => Q .non H', rt := Q } (start ["ground"] vs) H := by
  obtain ⟨g, p, rfl, hg, p0, q⟩ := h
  unfold t_f_zero_of
  walk_at "tw"
  refine c_gpV rfl T hg ?_
  rcases Int.lt_or_eq_of_le p0 with hp | hp
  · rw [grV_pos hp]
    walk_at "tw"
    rw [ofInt0_r hp] at q
    exact q _ _ (Ex.refl _) (.int _)
  · rw [grV_zero hp.symm]
    walk_at "tw"
    rw [ofInt_f hp.symm] at q
    exact ⟨by show 2 ≤ sizeLine; decide, fun a ha => q _ _ (Ex.new ha) (Dx.frac (grow_new ha upd_same) rfl rfl)⟩
theorem pure_one_of (K : PySem.W.Frag) (T : GrK K) (vs : List V) (H : Hp) (Q : VK) (E : XK) (h : sp_one_of K vs H Q E) : t_f_one_of K { nx := fun _ H' => Q .non H', rt := Q } (start ["ground"] vs) H := by
  obtain ⟨g, p, rfl, hg, hp, q⟩ := h
  unfold t_f_one_of
  walk_at "tw"
  refine c_gpV rfl T hg ?_
  rcases hp with rfl | ⟨n, hn, rfl⟩
  · rw [grV_zero rfl]
    walk_at "tw"
    rw [ofInt_f rfl] at q
    exact ⟨by show 2 ≤ sizeLine; decide, fun a ha => q _ _ (Ex.new ha) (Dx.frac (grow_new ha upd_same) rfl rfl)⟩
  · have n1 := prb_fin n hn
    rw [grV_pos (by omega)]
    walk_at "tw"
    rw [ofInt_r (by omega), Int.emod_eq_of_lt (a := 1) (by omega) (by omega)] at q
    exact q _ _ (Ex.refl _) (.int _)
def baseN (p : Int) (n : Nat) (k : Int) : List Nu := (List.range n).map fun i : Nat => ofInt p (if (i : Int) = k then 1 else 0)
def sp_unit_row (K : PySem.W.Frag) : Sp := fun vs H Q _ => ∃ (g : Addr) (p k : Int) (n : Nat), vs = [.ref g, .int (n : Int), .int k] ∧ GrAt K H g p ∧ PrN p ∧ n ≤ 10000 ∧ RetN (rowN (baseN p n k)) H Q
def t_f_unit_row (K : PySem.W.Frag) : TS :=
    (tSeq (tAsg (tTup (tCons (tCall (sp_zero_of K) [] E0 (tCons (tVar 0) tNil)) (tCons (tCall (sp_one_of K) [] E0 (tCons (tVar 0) tNil)) tNil))) (gTup K 2 (gCons (gName 3) (gCons (gName 4) gNil))))
    (tRet (tLc (iRng1 (tCons (tVar 1) tNil)) (gName 5) tYes (tIf (tTest (tOp (uEq K) (tVar 5) (tVar 2))) (tVar 4) (tVar 3)) [5])))
theorem pure_unit_row (K : PySem.W.Frag) (vs : List V) (H : Hp) (Q : VK) (E : XK) (h : sp_unit_row K vs H Q E) : t_f_unit_row K { nx := fun _ H' => Q .non H', rt := Q } (start ["ground", "places", "at", "zero", "one", "k"] vs) H := by
  obtain ⟨g, p, k, n, rfl, hg, hp, hn, q⟩ := h
  unfold t_f_unit_row
  walk_at "tw"
  refine ⟨g, p, rfl, hg, hp.nonneg, fun z H1 e1 d1 => ?_⟩
  walk_at "tw"
  refine ⟨g, p, rfl, hg.ex e1, hp, fun o H2 e2 d2 => ?_⟩
  walk_at "tw"
  refine ⟨by show 2 ≤ sizeLine; decide, fun t ft => ?_⟩
  walk_at "tw"
  have e3 : Ex H (upd H2 t (.tup [z, o])) := (e1.trans e2).trans (Ex.new ft)
  refine ⟨_, rfl, by omega, by omega, fun L hL => ?_⟩
  have hn2 : ((n : Nat) : Int).toNat = n := by omega
  rw [hn2]
  have dz : Dx (grow hp0 H (upd H2 t (.tup [z, o]))) z (ofInt p 0).d := d1.mono (grow_mono (Ex.refl _) (e2.trans (Ex.new ft)))
  have do_ : Dx (grow hp0 H (upd H2 t (.tup [z, o]))) o (ofInt p 1).d := by
    rw [← grow_ex2 e1 (e2.trans (Ex.new ft))]
    exact d2.mono (grow_mono (ex0 _) (Ex.new ft))
  refine lcB_range (G := grow hp0 H (upd H2 t (.tup [z, o]))) (fun i => ((baseN p n k).map Nu.d).take i) (grow_in (ex0 _)) hL rfl (fun i _ => pre_len _ (by unfold baseN; simp; omega) i) ?_ ?_
  · intro i H4 Q2 N hi e4 td
    walk_at "tw"
    refine ⟨rfl, ?_⟩
    have hs : ((baseN p n k).map Nu.d)[i]? = some (ofInt p (if (i : Int) = k then 1 else 0)).d := pre_map hi
    walk_at "tw"
    refine c_ite (fun h1 => ?_) (fun h1 => ?_)
    · have ek : (i : Int) = k := by have := of_decide_eq_true h1; omega
      rw [if_pos ek] at hs
      walk_at "tw"
      exact td.1 _ _ _ (take_succ hs) (Ex.refl _) (do_.mono (grow_ex (grow_in (ex0 _) |>.trans e4)))
    · have ek : ¬ (i : Int) = k := by have := of_decide_eq_false h1; omega
      rw [if_neg ek] at hs
      walk_at "tw"
      exact td.1 _ _ _ (take_succ hs) (Ex.refl _) (dz.mono (grow_ex (grow_in (ex0 _) |>.trans e4)))
  · intro H4 e4 d4
    rw [List.take_of_length_le (by unfold baseN; simp)] at d4
    refine q _ _ (e3.trans e4) ?_
    rw [← grow_ex2 e3 e4]
    exact d4
def sp_lowest : Sp := fun vs H Q _ => ∃ (G : Hp) (t b : Int), vs = [.int t, .int b] ∧ 0 < b ∧ b.natAbs < 2 ^ 8000 ∧ RetD (Nu.f (Rat.divInt t b)).d G H Q
def t_f_lowest (K : PySem.W.Frag) : TS :=
    (tSeq (tAsg (tCB rGcd (tCons (tVar 0) (tCons (tVar 1) tNil))) (gName 2))
    (tRet (tTup (tCons (tOp uFdiv (tVar 0) (tVar 2)) (tCons (tOp uFdiv (tVar 1) (tVar 2)) tNil)))))
theorem pure_lowest (K : PySem.W.Frag) (vs : List V) (H : Hp) (Q : VK) (E : XK) (h : sp_lowest vs H Q E) : t_f_lowest K { nx := fun _ H' => Q .non H', rt := Q } (start ["top", "bottom", "common"] vs) H := by
  obtain ⟨G, t, b, rfl, hb, hz, q⟩ := h
  have d1 := gcd_bits t b hb hz
  have d2 : CDivW b ((Nat.gcd t.natAbs b.natAbs : Nat) : Int) := d1
  unfold t_f_lowest
  walk_at "tw"
  refine c_gcd (K := K) ?_
  walk_at "tw"
  exact ⟨by show 2 ≤ sizeLine; decide, fun a ha => q _ _ (Ex.new ha) (Dx.frac (grow_new ha upd_same) (frac_num t b hb).symm (frac_den t b hb).symm)⟩
/-! ### dot -/
def sp_dot (K : PySem.W.Frag) : Sp := fun vs H Q _ => ∃ (g : Addr) (p : Int) (xs ys : List Nu) (v w : V) (n m : Nat), vs = [.ref g, v, w] ∧ GrAt K H g p ∧ 0 ≤ p ∧ p ≤ 10007 ∧ OkN p n xs ∧ OkN p m ys ∧ xs.length = ys.length ∧ xs.length ≤ 10000 ∧ (p = 0 → DotP (n + m) (xs.zip ys)) ∧ n + m ≤ 7000 ∧ Dx H v (rowN xs) ∧ Dx H w (rowN ys) ∧ RetN (dotN p xs ys).d H Q
def t_f_dot (K : PySem.W.Frag) : TS :=
    (tSeq (tIfS (tTest (tOp uNotN (tFld K (tVar 0) "prime") (tC .non))) (tRet (tOp uMod (tCB (uSum K) (tCons (tLc (iZipA K (tCons (tVar 1) (tCons (tVar 2) tNil))) (gTup K 2 (gCons (gName 10) (gCons (gName 11) gNil))) tYes (tOp (uMul K) (tVar 10) (tVar 11)) [10, 11]) tNil)) (tFld K (tVar 0) "prime"))) tNext)
    (tSeq (tAsg (tTup (tCons (tC (.int 0)) (tCons (tC (.int 1)) tNil))) (gTup K 2 (gCons (gName 3) (gCons (gName 4) gNil))))
    (tSeq (tFor (iZipA K (tCons (tVar 1) (tCons (tVar 2) tNil))) (gTup K 2 (gCons (gTup K 2 (gCons (gName 5) (gCons (gName 6) gNil))) (gCons (gTup K 2 (gCons (gName 7) (gCons (gName 8) gNil))) gNil))) (tIfS (tAnd (tTru K (tVar 5)) (tTru K (tVar 7))) (tSeq (tAsg (tOp (uMul K) (tVar 6) (tVar 8)) (gName 9))
    (tIfS (tTest (tOp (uEq K) (tVar 9) (tVar 4))) (tAug 3 (tOp (uMul K) (tVar 5) (tVar 7)) (ipI fun i j => i + j)) (tAsg (tCall sp_lowest [] E0 (tCons (tOp (uAdd K) (tOp (uMul K) (tVar 3) (tVar 9)) (tOp (uMul K) (tOp (uMul K) (tVar 5) (tVar 7)) (tVar 4))) (tCons (tOp (uMul K) (tVar 4) (tVar 9)) tNil))) (gTup K 2 (gCons (gName 3) (gCons (gName 4) gNil)))))) tNext))
    (tRet (tCall sp_lowest [] E0 (tCons (tVar 3) (tCons (tVar 4) tNil)))))))
theorem c_truI {K : PySem.W.Frag} {σ : L2.St} {H : Hp} {QT : Bool → Hp → Prop} {n : Nat} {i : Int} (hs : σ[n]? = some (some (.int i))) (q : QT (i != 0) H) : tTru K (tVar n) σ H QT := ⟨_, hs, _, rfl, q⟩
theorem pure_dotp (K : PySem.W.Frag) (T : GrK K) (vs : List V) (H : Hp) (Q : VK) (E : XK) (h : sp_dot K vs H Q E) : t_f_dot K { nx := fun _ H' => Q .non H', rt := Q } (start ["ground", "row", "other", "top", "bottom", "a", "b", "c", "d", "below", "x", "y"] vs) H := by
  obtain ⟨g, p, xs, ys, v, w, n, m, rfl, hg, p0, p1, ox, oy, hl, lx, hz, hnm, dv, dw, q⟩ := h
  unfold dotN at q
  unfold t_f_dot
  walk_at "tw"
  refine c_gpV rfl T hg ?_
  rcases Int.lt_or_eq_of_le p0 with hp | hp
  · rw [grV_pos hp]
    walk_at "tw"
    refine c_zipV (G := H) rfl rfl (.inl ⟨dv, dw⟩) hl (Ex.refl _) fun us ws J P ru rw' Z hP => ?_
    intro L hL
    have lu : us.length = xs.length := by rw [ru.length, List.length_map]
    refine lcZ Z (fun i H2 => Ex H H2 ∧ H2 L = some (.lst ((((xs.zip ys).take i).map prodR).map V.int))) ⟨Ex.new hL, upd_same⟩ (fun i H2 p2 => hP H2 p2.1) ?_ ?_
    · rintro i x y A H2 hx hy ⟨e2, h2⟩ hA
      obtain ⟨nx, ex, mx, dx⟩ := ru.nu2 hx
      obtain ⟨ny, ey, my, dy⟩ := rw'.nu2 hy
      obtain ⟨i1, rfl, i0, i2⟩ := Nu.ok_r hp (ox _ mx).1
      obtain ⟨j1, rfl, j0, j2⟩ := Nu.ok_r hp (oy _ my).1
      cases dx.int_inv
      cases dy.int_inv
      walk_at "tw"
      refine ⟨rfl, ?_⟩
      walk_at "tw"
      have nL : L ≠ A := fun z => by rw [z] at h2; rw [hA] at h2; cases h2
      refine ⟨_, by walk_at "look", ?_, (e2.trans (Ex.new hA)).mut hL, ?_⟩
      · rw [List.length_map, List.length_map]
        exact sz_of_le (Nat.le_trans (List.length_take_le' _ _) (by rw [List.length_zip]; omega))
      · rw [take_succ (zip_get2 ex ey), List.map_append, List.map_append]
        exact upd_same
    · rintro H2 ⟨e2, h2⟩
      walk_at "tw"
      have ez : (xs.zip ys).take us.length = xs.zip ys := List.take_of_length_le (by rw [List.length_zip]; omega)
      rw [ez] at h2
      refine ⟨L, _, rfl, SqL.of h2, ?_⟩
      refine c_gpV rfl T (hg.ex e2) ?_
      rw [grV_pos hp]
      walk_at "tw"
      have fin := dotL_rests hp (xs.zip ys) 0 fun z hz => ⟨(ox _ (List.of_mem_zip hz).1).1, (oy _ (List.of_mem_zip hz).2).1⟩
      rw [← ofInt_r hp, Int.zero_add] at fin
      rw [fin] at q
      exact q _ _ e2 (.int _)
  · have hp2 : p = 0 := hp.symm
    subst hp2
    rw [grV_zero rfl]
    walk_at "tw"
    refine ⟨by show 2 ≤ sizeLine; decide, fun t0 ht0 => ?_⟩
    have e0 : Ex H (upd H t0 (.tup [.int 0, .int 1])) := Ex.new ht0
    walk_at "tw"
    refine c_zipV (G := H) rfl rfl (.inl ⟨dv, dw⟩) hl e0 fun us ws J P ru rw' Z hP => ?_
    have lu : us.length = xs.length := by rw [ru.length, List.length_map]
    obtain ⟨Bd, B⟩ := (hz rfl).bd hnm (Nat.le_trans (by rw [List.length_zip]; omega) lx)
    have lz : (xs.zip ys).length = xs.length := by rw [List.length_zip]; omega
    refine forZ Z (fun i σ' H2 => ∃ (tp bt : Int) (o5 o6 o7 o8 o9 : Option V) (qq : Rat), σ' = [some (.ref g), some v, some w, some (.int tp), some (.int bt), o5, o6, o7, o8, o9, none, none] ∧ Ex H H2 ∧ 0 < bt ∧ dotL 0 (ofInt 0 0) ((xs.zip ys).take i) = .f qq ∧ Rat.divInt tp bt = qq ∧ Bd i tp bt)
      ⟨0, 1, none, none, none, none, none, 0, rfl, e0, by decide, rfl, rfl, B.zero⟩ (fun i σ' H2 ⟨_, _, _, _, _, _, _, _, _, e2, _⟩ => hP H2 e2) ?_ ?_
    · rintro i xv yv A σ' H2 hx hy ⟨tp, bt, o5, o6, o7, o8, o9, qq, rfl, e2, b0, val, vq, kB⟩ hA
      obtain ⟨nx, ex, mx, dx⟩ := ru.nu2 hx
      obtain ⟨ny, ey, my, dy⟩ := rw'.nu2 hy
      have hi : i < xs.length := (List.getElem?_eq_some_iff.mp ex).1
      obtain ⟨x, rfl⟩ := Nu.ok_f rfl (ox _ mx).1
      obtain ⟨y, rfl⟩ := Nu.ok_f rfl (oy _ my).1
      obtain ⟨l1, l2⟩ := (ox _ mx).2
      obtain ⟨l3, l4⟩ := (oy _ my).2
      have ez2 := zip_get2 ex ey
      obtain ⟨k1, k2⟩ := B.lim i tp bt (by omega) kB
      obtain ⟨vx, rfl, hvx⟩ := dx.frac_inv
      obtain ⟨vy, rfl, hvy⟩ := dy.frac_inv
      have e3 : Ex H (upd H2 A (.tup [.ref vx, .ref vy])) := e2.trans (Ex.new hA)
      have hvx' := e3 _ _ hvx
      have hvy' := e3 _ _ hvy
      have be0 : 0 < (x.den : Int) * (y.den : Int) := den_mul_pos x y
      have pb : (x.num * y.num).natAbs < 2 ^ (n + m) := by rw [Int.natAbs_mul]; exact lt_pow_mul l1 l3
      have bb : ((x.den : Int) * (y.den : Int)).natAbs < 2 ^ (n + m) := by rw [Int.natAbs_mul]; exact lt_pow_mul l2 l4
      have vxy : x * y = Rat.divInt (x.num * y.num) ((x.den : Int) * (y.den : Int)) := mul_frac x y
      have val2 : dotL 0 (ofInt 0 0) ((xs.zip ys).take (i + 1)) = .f (qq + x * y) := by
        rw [take_succ ez2, dotL_append, val]
        rfl
      have stay : x.num * y.num = 0 → Rat.divInt tp bt = qq + x * y := fun z0 => by rw [vxy, z0, Rat.zero_divInt, Rat.add_zero]; exact vq
      have kU := B.up _ _ _ kB
      walk_at "tw"
      refine c_truI rfl ?_
      refine c_ite (fun h1 => ?_) (fun h1 => ?_)
      · refine c_truI rfl ?_
        refine c_ite (fun h2 => ?_) (fun h2 => ?_)
        · walk_at "tw"
          refine c_mulI (mul_wide l2 l4 (by omega)) ?_
          walk_at "tw"
          refine c_ite (fun h3 => ?_) (fun h3 => ?_)
          · have eb : (x.den : Int) * (y.den : Int) = bt := of_decide_eq_true h3
            refine ⟨_, rfl, ?_⟩
            walk_at "tw"
            refine c_mulI (mul_wide l1 l3 (by omega)) ?_
            refine ⟨_, _, rfl, rfl, ?_⟩
            refine ⟨_, _, _, _, _, _, _, _, rfl, e3, b0, val2, ?_, B.same _ _ _ _ _ ez2 b0 pb kB⟩
            rw [vxy, ← vq, eb, dot_same _ _ _ (by omega)]
          · obtain ⟨kN, kb⟩ := B.new _ _ _ _ _ ez2 b0 pb bb kB
            generalize hbe : (x.den : Int) * (y.den : Int) = be at be0 bb vxy kN kb ⊢
            walk_at "tw"
            refine c_mulI (mul_wide k1 bb (by omega)) ?_
            walk_at "tw"
            refine c_mulI (mul_wide l1 l3 (by omega)) ?_
            walk_at "tw"
            refine c_mulI (mul_wide pb k2 (by omega)) ?_
            walk_at "tw"
            refine c_mulI (mul_wide k2 bb (by omega)) ?_
            walk_at "tw"
            have bp : 0 < bt * be := Int.mul_pos b0 be0
            have vn : Rat.divInt (tp * be + x.num * y.num * bt) (bt * be) = qq + x * y := by
              rw [vxy, ← vq, Rat.divInt_add_divInt _ _ (by omega) (by omega)]
            refine ⟨hp0, _, _, rfl, bp, kb, fun v4 H4 e4 d4 => ?_⟩
            obtain ⟨va, rfl, hva⟩ := (d4.mono (grow_in (ex0 _))).frac_inv
            walk_at "tw"
            refine ⟨_, _, _, _, _, _, _, _, rfl, e3.trans e4, den_pos' _, val2, ?_, kN⟩
            rw [Rat.num_divInt_den, vn]
        · walk_at "tw"
          refine ⟨tp, bt, _, _, _, _, _, _, rfl, e3, b0, val2, stay ?_, kU⟩
          have : y.num = 0 := by simpa using h2
          rw [this, Int.mul_zero]
      · walk_at "tw"
        refine ⟨tp, bt, _, _, _, _, _, _, rfl, e3, b0, val2, stay ?_, kU⟩
        have : x.num = 0 := by simpa using h1
        rw [this, Int.zero_mul]
    · rintro σ' H2 ⟨tp, bt, o5, o6, o7, o8, o9, qq, rfl, e2, b0, val, vq, kB⟩
      walk_at "tw"
      rw [List.take_of_length_le (by rw [List.length_zip]; omega)] at val
      rw [val] at q
      refine ⟨hp0, tp, bt, rfl, b0, (B.lim _ _ _ (by omega) kB).2, ?_⟩
      rw [vq]
      exact RetN.back0 q e2
end Tw
namespace Tw
open PySem PySem.Spec PyProof.Rows L2 Evl RZ
/-! ### blend, scaled -/
theorem Dx.pair_inv {H : Hp} {v : V} {d1 d2 : PyData} (h : Dx H v (.tuple [d1, d2])) : ∃ a v1 v2, v = .ref a ∧ H a = some (.tup [v1, v2]) ∧ Dx H v1 d1 ∧ Dx H v2 d2 := by
  obtain ⟨a, xs, e, ha, r⟩ := h.tup_inv
  cases r with
  | cons h1 r =>
    cases r with
    | cons h2 r =>
      cases r
      exact ⟨a, _, _, e, ha, h1, h2⟩
theorem Dx.three_inv {H : Hp} {v : V} {d1 d2 d3 : PyData} (h : Dx H v (.tuple [d1, d2, d3])) : ∃ a v1 v2 v3, v = .ref a ∧ H a = some (.tup [v1, v2, v3]) ∧ Dx H v1 d1 ∧ Dx H v2 d2 ∧ Dx H v3 d3 := by
  obtain ⟨a, xs, e, ha, r⟩ := h.tup_inv
  cases r with
  | cons h1 r =>
    cases r with
    | cons h2 r =>
      cases r with
      | cons h3 r =>
        cases r
        exact ⟨a, _, _, _, e, ha, h1, h2, h3⟩
theorem DxA.map_get {α : Type} {f : α → PyData} {G : Hp} {us : List V} {xs : List α} {i : Nat} {u : V} (h : DxA G us (xs.map f)) (e : us[i]? = some u) : ∃ x, xs[i]? = some x ∧ x ∈ xs ∧ Dx G u (f x) := by
  obtain ⟨d, h1, h2⟩ := h.get e
  rw [List.getElem?_map] at h1
  cases q : xs[i]? with
  | none => rw [q] at h1; cases h1
  | some x =>
    rw [q] at h1
    cases h1
    exact ⟨x, rfl, List.mem_of_getElem? q, h2⟩
theorem Dx.lst_map {α : Type} {f : α → PyData} {H : Hp} {v : V} {xs : List α} (h : Dx H v (.list (xs.map f))) : ∃ a us, v = .ref a ∧ H a = some (.lst us) ∧ DxA H us (xs.map f) ∧ us.length = xs.length := by
  obtain ⟨a, us, e, ha, r⟩ := h.lst_inv
  exact ⟨a, us, e, ha, r, by rw [r.length, List.length_map]⟩
theorem nuMul0 {p : Int} (h : 0 ≤ p) {y : Nu} (hy : y.ok p) : Nu.mul p (ofInt p 0) y = ofInt p 0 := congrArg Subtype.val (g_mul0 h ⟨y, hy⟩)
theorem nuAdd0 {p : Int} (h : 0 ≤ p) {x : Nu} (hx : x.ok p) : Nu.add p x (ofInt p 0) = x := congrArg Subtype.val (g_add0 h ⟨x, hx⟩)
theorem dotL_filter {p : Int} (h : 0 ≤ p) : ∀ (zs : List (Nu × Nu)) (t : Nu), t.ok p → (∀ z ∈ zs, z.1.ok p ∧ z.2.ok p) → dotL p t (zs.filter fun z => decide (z.1 ≠ ofInt p 0)) = dotL p t zs
  | [], t, _, _ => rfl
  | z :: zs, t, ht, hz => by
    obtain ⟨h1, h2⟩ := hz z List.mem_cons_self
    by_cases e : z.1 = ofInt p 0
    · rw [List.filter_cons_of_neg (by simpa using e)]
      show _ = dotL p (Nu.add p t (Nu.mul p z.1 z.2)) zs
      rw [e, nuMul0 h h2, nuAdd0 h ht]
      exact dotL_filter h zs t ht fun z hz' => hz z (List.mem_cons_of_mem _ hz')
    · rw [List.filter_cons_of_pos (by simpa using e)]
      exact dotL_filter h zs (Nu.add p t (Nu.mul p z.1 z.2)) (Nu.add_ok ht (Nu.mul_ok h1 h2)) fun z hz' => hz z (List.mem_cons_of_mem _ hz')
theorem zip_map_col (k : Nat) (z : Nu) : ∀ (fs : List Nu) (rs : List (List Nu)), fs.zip (rs.map fun r => r.getD k z) = (fs.zip rs).map fun q => (q.1, q.2.getD k z)
  | [], _ => rfl
  | f :: fs, [] => rfl
  | f :: fs, r :: rs => by
    show (f, r.getD k z) :: fs.zip (rs.map fun r => r.getD k z) = _
    rw [zip_map_col k z fs rs]
    rfl
theorem zip_maps {α β γ : Type} (f : α → β) (g : α → γ) : ∀ l : List α, (l.map f).zip (l.map g) = l.map fun a => (f a, g a)
  | [] => rfl
  | a :: l => by
    show (f a, g a) :: (l.map f).zip (l.map g) = _
    rw [zip_maps f g l]
    rfl
theorem filter_map_fst {α : Type} (c : Nu → Bool) (f : α → Nu) : ∀ l : List (Nu × α), (l.map fun q => (q.1, f q.2)).filter (fun z => c z.1) = (l.filter fun q => c q.1).map fun q => (q.1, f q.2)
  | [] => rfl
  | q :: l => by
    have ih := filter_map_fst c f l
    (rw [List.map_cons, List.filter_cons, List.filter_cons, ih])
    cases c q.1 <;> rfl
/-- the used pairs give the same sums -/
theorem dot_used {p : Int} (h : 0 ≤ p) {fs : List Nu} {rs : List (List Nu)} (k : Nat) (of : ∀ x ∈ fs, x.ok p) (ors : ∀ r ∈ rs, ∀ x ∈ r, x.ok p) :
    dotN p (((fs.zip rs).filter fun q => decide (q.1 ≠ ofInt p 0)).map Prod.fst) (((fs.zip rs).filter fun q => decide (q.1 ≠ ofInt p 0)).map fun q => q.2.getD k (ofInt p 0)) = dotN p fs (col p k rs) := by
  unfold dotN col
  rw [zip_map_col, zip_maps, ← filter_map_fst (fun x => decide (x ≠ ofInt p 0)) (fun r : List Nu => r.getD k (ofInt p 0))]
  refine dotL_filter h _ _ (ofInt_ok h) fun z hz => ?_
  obtain ⟨q, hq, rfl⟩ := List.mem_map.mp hz
  refine ⟨of _ (List.of_mem_zip hq).1, ?_⟩
  show (q.2.getD k (ofInt p 0)).ok p
  (rw [List.getD_eq_getElem?_getD])
  cases e : q.2[k]? with
  | none => exact ofInt_ok h
  | some x => exact ors _ (List.of_mem_zip hq).2 x (List.mem_of_getElem? e)
def pairD (q : Nu × List Nu) : PyData := .tuple [q.1.d, rowN q.2]
def sp_blend (K : PySem.W.Frag) : Sp := fun vs H Q _ => ∃ (g : Addr) (p : Int) (fs : List Nu) (rs : List (List Nu)) (v w : V) (size n m : Nat), vs = [.ref g, v, w, .int (size : Int)] ∧ GrAt K H g p ∧ 0 ≤ p ∧ p ≤ 10007 ∧ OkN p n fs ∧ (∀ r ∈ rs, OkN p m r ∧ r.length = size) ∧ fs.length = rs.length ∧ fs.length ≤ 10000 ∧ size ≤ 10000 ∧
  (p = 0 → ∀ k, k < size → DotP (n + m) (fs.zip (col p k rs))) ∧ n + m ≤ 7000 ∧ Dx H v (rowN fs) ∧ Dx H w (tblN rs) ∧ RetN (rowN (combN p fs rs size)) H Q
def t_f_blend (K : PySem.W.Frag) : TS :=
    (tSeq (tAsg (tCall (sp_zero_of K) [] E0 (tCons (tVar 0) tNil)) (gName 4))
    (tSeq (tAsg (tLc (iZipA K (tCons (tVar 1) (tCons (tVar 2) tNil))) (gTup K 2 (gCons (gName 7) (gCons (gName 8) gNil))) (tTest (tOp (uNe K) (tVar 7) (tVar 4))) (tTup (tCons (tVar 7) (tCons (tVar 8) tNil))) [7, 8]) (gName 5))
    (tSeq (tAsg (tLc (iSeq K (tVar 5)) (gTup K 2 (gCons (gName 7) (gCons (gName 8) gNil))) tYes (tVar 7) [7, 8]) (gName 6))
    (tRet (tLc (iRng1 (tCons (tVar 3) tNil)) (gName 9) tYes (tCall (sp_dot K) [] E0 (tCons (tVar 0) (tCons (tVar 6) (tCons (tLc (iSeq K (tVar 5)) (gTup K 2 (gCons (gName 7) (gCons (gName 8) gNil))) tYes (tOp (uIx K) (tVar 8) (tVar 9)) [7, 8]) tNil)))) [9])))))
theorem c_zipM {α β : Type} {f : α → PyData} {f' : β → PyData} {K : PySem.W.Frag} {G : Hp} {σ : L2.St} {m n : Nat} {v w : V} {xs : List α} {ys : List β} (hm : σ[m]? = some (some v)) (hn : σ[n]? = some (some w)) (h1 : Dx G v (.list (xs.map f))) (h2 : Dx G w (.list (ys.map f'))) (hl : xs.length = ys.length) {R : It → Hp → Prop} {H : Hp} (eH : Ex G H)
    (q : ∀ us ws J P, us.length = xs.length → DxA G us (xs.map f) → DxA G ws (ys.map f') → ZipJ J us ws P → (∀ H', Ex G H' → P H') → R J H) : iZipA K (tCons (tVar m) (tCons (tVar n) tNil)) σ H R := by
  refine ⟨v, hm, w, hn, ?_⟩
  obtain ⟨a, us, rfl, ha, ru, lu⟩ := h1.lst_map
  obtain ⟨b, ws, rfl, hb, rw', lw⟩ := h2.lst_map
  exact ⟨a, b, us, ws, rfl, .inl ⟨SqL.of (eH _ _ ha), SqL.of (eH _ _ hb), q us ws _ _ lu ru rw' (zipJ_L (by omega)) fun H' e => ⟨SqL.of (e _ _ ha), SqL.of (e _ _ hb)⟩⟩⟩
theorem filter_take_succ {α : Type} {c : α → Bool} {l : List α} {i : Nat} {x : α} (h : l[i]? = some x) : (l.take (i + 1)).filter c = if c x = true then (l.take i).filter c ++ [x] else (l.take i).filter c := by
  rw [take_succ h, List.filter_append]
  split
  · rename_i e; rw [List.filter_cons_of_pos e]; rfl
  · rename_i e; rw [List.filter_cons_of_neg e]; simp
theorem zip_get3 {α β : Type} {xs : List α} {ys : List β} {i : Nat} {x : α} {y : β} (hx : xs[i]? = some x) (hy : ys[i]? = some y) : (xs.zip ys)[i]? = some (x, y) := by
  rw [List.getElem?_zip_eq_some]; exact ⟨hx, hy⟩
theorem pure_blend (K : PySem.W.Frag) (vs : List V) (H : Hp) (Q : VK) (E : XK) (h : sp_blend K vs H Q E) : t_f_blend K { nx := fun _ H' => Q .non H', rt := Q } (start ["ground", "numbers", "rows", "places", "zero", "used", "heads", "x", "row", "k"] vs) H := by
  obtain ⟨g, p, fs, rs, v, w, size, n, m, rfl, hg, p0, p1, of, ors, hl, lf, lz, hz, hnm, dv, dw, q⟩ := h
  unfold t_f_blend
  walk_at "tw"
  refine ⟨g, p, rfl, hg, p0, fun z H1 e1 d1 => ?_⟩
  walk_at "tw"
  have dz : Dx H1 z (ofInt p 0).d := d1.mono (grow_in (ex0 _))
  refine c_zipM (G := H) rfl rfl dv dw hl e1 fun us ws J P lu ru rw' Z hP => ?_
  intro L hL
  have lzip : (fs.zip rs).length = fs.length := by rw [List.length_zip]; omega
  refine lcB_zip Z (G := H) (fun i => (((fs.zip rs).take i).filter fun q => decide (q.1 ≠ ofInt p 0)).map pairD) e1 hL (fun H' e => hP H' (e1.trans e)) rfl (fun i hi => ?_) ?_ ?_
  · rw [List.length_map]
    refine Nat.le_trans (List.length_filter_le _ _) (Nat.le_trans (List.length_take_le' _ _) (by omega))
  · intro i x y T H2 Q2 N hx hy hT e2 td
    obtain ⟨nx, ex, mx, dx⟩ := ru.map_get hx
    obtain ⟨r, er, mr, dr⟩ := rw'.map_get hy
    have hzi := zip_get3 ex er
    have e3 := (e1.trans e2).trans (Ex.new (o := .tup [x, y]) hT)
    walk_at "tw"
    refine ⟨rfl, ?_⟩
    walk_at "tw"
    refine c_neD (dx.mono e3) (dz.mono (e2.trans (Ex.new hT))) sh_nu sh_nu ?_
    rw [nu_eqv]
    walk_at "tw"
    refine c_ite (fun h1 => ?_) (fun h1 => ?_)
    · have ne : decide (nx ≠ ofInt p 0) = true := by simpa using h1
      walk_at "tw"
      refine ⟨by show 2 ≤ sizeLine; decide, fun u fu => ?_⟩
      refine td.1 _ (pairD (nx, r)) _ (by rw [filter_take_succ hzi, if_pos ne, List.map_append]; rfl) ((Ex.new hT).trans (Ex.new fu)) ?_
      exact .tup (grow_new (fresh_back (Ex.new hT) fu) upd_same) (.cons (dx.mono (grow_ex (e1.trans e2))) (.cons (dr.mono (grow_ex (e1.trans e2))) .nil))
    · have ne : ¬ decide (nx ≠ ofInt p 0) = true := by simpa using h1
      refine td.2 (by rw [filter_take_succ hzi, if_neg ne]) _ (Ex.new hT)
  · intro H2 e2 d2
    rw [lu, List.take_of_length_le (by omega)] at d2
    have d3 := d2.mono (grow_in (e1.trans e2))
    obtain ⟨prs, hprs⟩ : ∃ prs, prs = (fs.zip rs).filter fun q => decide (q.1 ≠ ofInt p 0) := ⟨_, rfl⟩
    rw [← hprs] at d3
    have lp : prs.length ≤ fs.length := by
      rw [hprs]
      exact Nat.le_trans (List.length_filter_le _ _) (by omega)
    have mem : ∀ q ∈ prs, q.1 ∈ fs ∧ q.2 ∈ rs := fun q hq => by
      rw [hprs] at hq
      exact List.of_mem_zip (List.mem_filter.mp hq).1
    obtain ⟨_, ps, eL, hps, rp, lps⟩ := d3.lst_map
    cases eL
    clear d2
    walk_at "tw"
    refine ⟨L, rfl, .inl ⟨⟨_, SqL.of hps⟩, ?_⟩⟩
    intro M hM
    refine lcB_list (G := H2) (fun i => ((prs.map Prod.fst).map Nu.d).take i) (Ex.refl _) hM hps rfl (fun i _ => pre_len _ (by simp; omega) i) ?_ ?_
    · intro i x H3 Q2 N hx e3 td
      obtain ⟨q, eq, mq, dq⟩ := rp.map_get hx
      obtain ⟨a, v1, v2, rfl, ha, k1, k2⟩ := dq.pair_inv
      have ha3 := e3 _ _ ha
      walk_at "tw"
      refine ⟨rfl, ?_⟩
      walk_at "tw"
      exact td.1 _ _ _ (take_succ (by rw [List.getElem?_map, List.getElem?_map, eq]; rfl)) (Ex.refl _) (k1.mono (grow_ex e3))
    · intro H3 e3 d4
      rw [List.take_of_length_le (by simp; omega)] at d4
      have dh : Dx H3 (.ref M) (rowN (prs.map Prod.fst)) := d4.mono (grow_in e3)
      clear d4
      walk_at "tw"
      refine ⟨_, rfl, by omega, by omega, fun O hO => ?_⟩
      rw [show ((size : Nat) : Int).toNat = size from by omega]
      refine lcB_range (G := hp0) (fun i => ((combN p fs rs size).map Nu.d).take i) (ex0 _) hO rfl (fun i _ => pre_len _ (by unfold combN; simp; omega) i) ?_ ?_
      · intro i H4 Q2 N hi e4 td
        have ei : (0 : Int) + (i : Int) = (i : Int) := by omega
        have hps4 := (e3.trans e4) _ _ hps
        walk_at "tw"
        refine ⟨rfl, ?_⟩
        walk_at "tw"
        refine ⟨L, rfl, .inl ⟨⟨_, SqL.of hps4⟩, ?_⟩⟩
        intro O2 hO2
        refine lcB_list (G := H4) (fun j => ((prs.map fun q => q.2.getD i (ofInt p 0)).map Nu.d).take j) (Ex.refl _) hO2 hps4 rfl (fun i _ => pre_len _ (by simp; omega) i) ?_ ?_
        · intro j x H5 Q3 N2 hx e5 td5
          obtain ⟨q, eq, mq, dq⟩ := rp.map_get hx
          obtain ⟨a, v1, v2, rfl, ha, k1, k2⟩ := dq.pair_inv
          obtain ⟨or_, lr⟩ := ors _ (mem q mq).2
          obtain ⟨b, ts, rfl, hb, rt, lt⟩ := rowN_inv k2
          have ha5 := ((e3.trans e4).trans e5) _ _ ha
          have hb5 := ((e3.trans e4).trans e5) _ _ hb
          have hti : ts[i]? = some ts[i] := List.getElem?_eq_getElem (by omega)
          obtain ⟨y, hy, my, dy⟩ := rt.nu2 hti
          walk_at "tw"
          refine ⟨rfl, ?_⟩
          walk_at "tw"
          refine c_ixL (v := ts[i]) (SqL.of hb5) (by rw [ei]; exact atI_nat hti) ?_
          refine td5.1 _ y.d _ (take_succ ?_) (Ex.refl _) (dy.mono ((e3.trans e4).trans (grow_ex e5)))
          rw [List.getElem?_map, List.getElem?_map, eq]
          show some (Nu.d (q.2.getD i (ofInt p 0))) = _
          rw [List.getD_eq_getElem?_getD, hy]
          rfl
        · intro H5 e5 d5
          rw [List.take_of_length_le (by simp; omega)] at d5
          have dc : Dx H5 (.ref O2) (rowN (prs.map fun q => q.2.getD i (ofInt p 0))) := d5.mono (grow_in e5)
          clear d5
          walk_at "tw"
          refine ⟨g, p, prs.map Prod.fst, prs.map fun q => q.2.getD i (ofInt p 0), .ref M, .ref O2, n, m, rfl, hg.ex ((((e1.trans e2).trans e3).trans e4).trans e5), p0, p1, ?_, ?_, by rw [List.length_map, List.length_map], by simp; omega, ?_, hnm, dh.mono (e4.trans e5), dc, fun r H6 e6 d6 => ?_⟩
          · intro x hx
            obtain ⟨q, hq, rfl⟩ := List.mem_map.mp hx
            exact of _ (mem q hq).1
          · intro x hx
            obtain ⟨q, hq, rfl⟩ := List.mem_map.mp hx
            obtain ⟨or_, lr⟩ := ors _ (mem q hq).2
            rw [List.getD_eq_getElem?_getD, List.getElem?_eq_getElem (by omega)]
            exact or_ _ (List.getElem_mem _)
          · intro z
            have hk := hz z i hi
            unfold col at hk
            rw [zip_map_col] at hk
            rw [zip_maps]
            refine hk.sub ?_
            rw [hprs]
            exact (List.filter_sublist).map _
          · refine td.1 _ _ _ (take_succ (pre_map hi)) (e5.trans e6) ?_
            rw [hprs] at d6
            rw [dot_used p0 i (fun x hx => (of x hx).1) (fun r hr x hx => ((ors r hr).1 x hx).1)] at d6
            exact d6.mono (grow0_back0 e5)
      · intro H4 e4 d4
        rw [List.take_of_length_le (by unfold combN; simp)] at d4
        exact q _ _ (((e1.trans e2).trans e3).trans e4) (d4.mono (grow0_back0 ((e1.trans e2).trans e3)))
def sp_scaled (K : PySem.W.Frag) : Sp := fun vs H Q _ => ∃ (g : Addr) (p : Int) (x : Nu) (xs : List Nu) (v w : V) (n m : Nat), vs = [.ref g, v, w] ∧ GrAt K H g p ∧ 0 ≤ p ∧ x.ok p ∧ x.le n ∧ OkN p m xs ∧ n + m ≤ 8000 ∧ xs.length ≤ 10000 ∧ Dx H v x.d ∧ Dx H w (rowN xs) ∧ RetN (rowN (xs.map (Nu.mul p x))) H Q
def t_f_scaled (K : PySem.W.Frag) : TS :=
    (tSeq (tIfS (tTest (tOp uNotN (tFld K (tVar 0) "prime") (tC .non))) (tRet (tLc (iSeq K (tVar 2)) (gName 7) tYes (tOp uMod (tOp (uMul K) (tVar 1) (tVar 7)) (tFld K (tVar 0) "prime")) [7])) tNext)
    (tSeq (tAsg (tVar 1) (gTup K 2 (gCons (gName 3) (gCons (gName 4) gNil))))
    (tRet (tLc (iSeq K (tVar 2)) (gTup K 2 (gCons (gName 5) (gCons (gName 6) gNil))) tYes (tCall sp_lowest [] E0 (tCons (tOp (uMul K) (tVar 3) (tVar 5)) (tCons (tOp (uMul K) (tVar 4) (tVar 6)) tNil))) [5, 6]))))
theorem pure_scaled (K : PySem.W.Frag) (T : GrK K) (vs : List V) (H : Hp) (Q : VK) (E : XK) (h : sp_scaled K vs H Q E) : t_f_scaled K { nx := fun _ H' => Q .non H', rt := Q } (start ["ground", "x", "row", "top", "bottom", "a", "b", "y"] vs) H := by
  obtain ⟨g, p, x, xs, v, w, n, m, rfl, hg, p0, ok, le, oxs, nm, lx, dv, dw, q⟩ := h
  obtain ⟨a, us, rfl, ha, ru, lu⟩ := rowN_inv dw
  unfold t_f_scaled
  walk_at "tw"
  refine c_gpV rfl T hg ?_
  rcases Int.lt_or_eq_of_le p0 with hp | hp
  · rw [grV_pos hp]
    obtain ⟨i, rfl, _⟩ := Nu.ok_r hp ok
    cases dv.int_inv
    walk_at "tw"
    refine ⟨a, rfl, .inl ⟨⟨_, SqL.of ha⟩, ?_⟩⟩
    intro L hL
    refine lcB_list (G := hp0) (fun i' => ((xs.map (Nu.mul p (.r i))).map Nu.d).take i') (ex0 _) hL ha rfl (fun i _ => pre_len _ (by simp; omega) i) ?_ ?_
    · intro j u H2 Q2 N hu e2 td
      obtain ⟨y, hy, my, dy⟩ := ru.nu2 hu
      obtain ⟨oy, ly⟩ := oxs y my
      obtain ⟨j1, rfl, _⟩ := Nu.ok_r hp oy
      cases dy.int_inv
      walk_at "tw"
      refine ⟨rfl, ?_⟩
      walk_at "tw"
      refine c_mulI (mul_wide le ly (by omega)) ?_
      walk_at "tw"
      refine c_gpV rfl T (hg.ex e2) ?_
      rw [grV_pos hp]
      walk_at "tw"
      exact td.1 _ (Nu.mul p (.r i) (.r j1)).d _ (take_succ (by rw [List.getElem?_map, List.getElem?_map, hy]; rfl)) (Ex.refl _) (.int _)
    · intro H2 e2 d2
      rw [List.take_of_length_le (by simp; omega)] at d2
      exact q _ _ e2 d2
  · have hp2 : p = 0 := hp.symm
    subst hp2
    rw [grV_zero rfl]
    obtain ⟨c, rfl⟩ := Nu.ok_f rfl ok
    obtain ⟨va, rfl, hva⟩ := dv.frac_inv
    obtain ⟨l1, l2⟩ := le
    walk_at "tw"
    refine ⟨a, rfl, .inl ⟨⟨_, SqL.of ha⟩, ?_⟩⟩
    intro L hL
    refine lcB_list (G := hp0) (fun i' => ((xs.map (Nu.mul 0 (.f c))).map Nu.d).take i') (ex0 _) hL ha rfl (fun i _ => pre_len _ (by simp; omega) i) ?_ ?_
    · intro j u H2 Q2 N hu e2 td
      obtain ⟨y, hy, my, dy⟩ := ru.nu2 hu
      obtain ⟨oy, ly⟩ := oxs y my
      obtain ⟨b, rfl⟩ := Nu.ok_f rfl oy
      obtain ⟨k1, k2⟩ := ly
      obtain ⟨vb, rfl, hvb⟩ := (dy.mono e2).frac_inv
      walk_at "tw"
      refine ⟨rfl, ?_⟩
      walk_at "tw"
      refine c_mulI (mul_wide l1 k1 (by omega)) ?_
      walk_at "tw"
      refine c_mulI (mul_wide l2 k2 (by omega)) ?_
      walk_at "tw"
      refine ⟨hp0, _, _, rfl, den_mul_pos c b, ?_, fun v4 H4 e4 d4 => ?_⟩
      · rw [Int.natAbs_mul]
        exact Nat.lt_of_lt_of_le (lt_pow_mul l2 k2) (Nat.pow_le_pow_right (by decide) (by omega))
      · rw [← mul_frac] at d4
        exact td.1 _ (Nu.mul 0 (.f c) (.f b)).d _ (take_succ (by rw [List.getElem?_map, List.getElem?_map, hy]; rfl)) e4 d4
    · intro H2 e2 d2
      rw [List.take_of_length_le (by simp; omega)] at d2
      exact q _ _ e2 d2
end Tw
namespace Tw
open PySem PySem.Spec PyProof.Rows L2 Evl RZ
/-! ## Left-right programs -/
abbrev Trip := List Nu × List Nu × List Nu
def tripD (q : Trip) : PyData := .tuple [rowN q.1, rowN q.2.1, rowN q.2.2]
def lrF (g t l : Addr) : List (Str × V) := putF "_triples" (.ref l) (putF "_sizes" (.ref t) (putF "ground" (.ref g) []))
theorem ne_ts : ¬ (("_triples" : Str) = "_sizes") := by decide +kernel
theorem ne_tg : ¬ (("_triples" : Str) = "ground") := by decide +kernel
theorem ne_st : ¬ (("_sizes" : Str) = "_triples") := by decide +kernel
theorem ne_sg : ¬ (("_sizes" : Str) = "ground") := by decide +kernel
theorem ne_gt : ¬ (("ground" : Str) = "_triples") := by decide +kernel
theorem ne_gs : ¬ (("ground" : Str) = "_sizes") := by decide +kernel
theorem lrF_g (g t l : Addr) : (lrF g t l).lookup ("ground" : Str) = some (.ref g) := by
  unfold lrF; rw [lookup_putF, if_neg ne_gt, lookup_putF, if_neg ne_gs, lookup_putF, if_pos rfl]
theorem lrF_s (g t l : Addr) : (lrF g t l).lookup ("_sizes" : Str) = some (.ref t) := by
  unfold lrF; rw [lookup_putF, if_neg ne_st, lookup_putF, if_pos rfl]
theorem lrF_t (g t l : Addr) : (lrF g t l).lookup ("_triples" : Str) = some (.ref l) := by
  unfold lrF; rw [lookup_putF, if_pos rfl]
theorem lrF_no (g t l : Addr) {m : Str} (h1 : ¬ m = "_triples") (h2 : ¬ m = "_sizes") (h3 : ¬ m = "ground") : (lrF g t l).lookup m = none := by
  unfold lrF; rw [lookup_putF, if_neg h1, lookup_putF, if_neg h2, lookup_putF, if_neg h3]; rfl
structure LrObj (K : PySem.W.Frag) (H : Hp) (x g t l : Addr) (p : Int) (m r n : Nat) (tr : List Trip) : Prop where
  at_ : ∃ dx, H x = some (.ins (He.ga K "LeftRight") dx (lrF g t l))
  gr : GrAt K H g p
  sz : H t = some (.tup [.int (m : Int), .int (r : Int), .int (n : Int)])
  tr : Dx H (.ref l) (.list (tr.map tripD))
def LrAt (K : PySem.W.Frag) (H : Hp) (x : Addr) (p : Int) (m r n : Nat) (tr : List Trip) : Prop := ∃ g t l, LrObj K H x g t l p m r n tr
theorem LrObj.ex {K : PySem.W.Frag} {H H' : Hp} {x g t l : Addr} {p : Int} {m r n : Nat} {tr : List Trip} (h : LrObj K H x g t l p m r n tr) (e : Ex H H') : LrObj K H' x g t l p m r n tr := by
  obtain ⟨⟨dx, h1⟩, h2, h3, h4⟩ := h
  exact ⟨⟨dx, e _ _ h1⟩, h2.ex e, e _ _ h3, h4.mono e⟩
theorem LrAt.ex {K : PySem.W.Frag} {H H' : Hp} {x : Addr} {p : Int} {m r n : Nat} {tr : List Trip} (h : LrAt K H x p m r n tr) (e : Ex H H') : LrAt K H' x p m r n tr := by
  obtain ⟨g, t, l, h⟩ := h
  exact ⟨g, t, l, h.ex e⟩
structure LrK (K : PySem.W.Frag) : Prop where
  cl : Cls K (He.ga K "LeftRight")
  nG : NoAttr K (He.ga K "LeftRight") "ground"
  nS : NoAttr K (He.ga K "LeftRight") "_sizes"
  nT : NoAttr K (He.ga K "LeftRight") "_triples"
section
variable {K : PySem.W.Frag} {σ : L2.St} {H : Hp} {Q : VK} {x g t l : Addr} {p : Int} {m r n i : Nat} {tr : List Trip}
theorem c_lrG (hs : σ[i]? = some (some (.ref x))) (T : LrK K) (h : LrObj K H x g t l p m r n tr) (q : Q (.ref g) H) : tFld K (tVar i) "ground" σ H Q := by
  obtain ⟨dx, h⟩ := h.at_
  exact ⟨_, hs, x, _, dx, _, _, rfl, h, T.cl, T.nG, lrF_g g t l, q⟩
theorem c_lrS (hs : σ[i]? = some (some (.ref x))) (T : LrK K) (h : LrObj K H x g t l p m r n tr) (q : Q (.ref t) H) : tFld K (tVar i) "_sizes" σ H Q := by
  obtain ⟨dx, h⟩ := h.at_
  exact ⟨_, hs, x, _, dx, _, _, rfl, h, T.cl, T.nS, lrF_s g t l, q⟩
theorem c_lrT (hs : σ[i]? = some (some (.ref x))) (T : LrK K) (h : LrObj K H x g t l p m r n tr) (q : Q (.ref l) H) : tFld K (tVar i) "_triples" σ H Q := by
  obtain ⟨dx, h⟩ := h.at_
  exact ⟨_, hs, x, _, dx, _, _, rfl, h, T.cl, T.nT, lrF_t g t l, q⟩
end
/-- the sizes fit -/
def TrOk (m r n : Nat) (tr : List Trip) : Prop := ∀ q ∈ tr, q.1.length = m ∧ q.2.1.length = r ∧ q.2.2.length = n
def sp_BadProgram_init (K : PySem.W.Frag) : Sp := fun _ _ _ _ => False
def sp_LeftRight_init (K : PySem.W.Frag) : Sp := fun vs H Q _ => ∃ (G : Hp) (x g dx : Addr) (p : Int) (m r n : Nat) (tr : List Trip) (vz vt : V), vs = [.ref x, .ref g, vz, vt] ∧ H x = some (.ins (He.ga K "LeftRight") dx []) ∧ Ex G H ∧ G x = none ∧ GrAt K G g p ∧ Dx G vz (.list [.int (m : Int), .int (r : Int), .int (n : Int)]) ∧ Dx G vt (.list (tr.map tripD)) ∧
  TrOk m r n tr ∧ tr.length ≤ 60 ∧ m ≤ 12 ∧ r ≤ 12 ∧ n ≤ 12 ∧ ∀ H2 t l, ExB x H H2 → H2 x = some (.ins (He.ga K "LeftRight") dx (lrF g t l)) → grow G H H2 t = some (.tup [.int (m : Int), .int (r : Int), .int (n : Int)]) → Dx (grow G H H2) (.ref l) (.list (tr.map tripD)) → Q .non H2
def t_m_LeftRight_init (K : PySem.W.Frag) : TS :=
    (tSeq (sFld K (tVar 0) (tVar 1) "ground")
    (tSeq (sFld K (tVar 0) (tCB (uTuple K) (tCons (tVar 2) tNil)) "_sizes")
    (tSeq (sFld K (tVar 0) (tLc (iSeq K (tVar 3)) (gTup K 3 (gCons (gName 4) (gCons (gName 5) (gCons (gName 6) gNil)))) tYes (tTup (tCons (tCB (uList K) (tCons (tVar 4) tNil)) (tCons (tCB (uList K) (tCons (tVar 5) tNil)) (tCons (tCB (uList K) (tCons (tVar 6) tNil)) tNil)))) [4, 5, 6]) "_triples")
    (tSeq (tFor (iSeq K (tFld K (tVar 0) "_triples")) (gTup K 3 (gCons (gName 4) (gCons (gName 5) (gCons (gName 6) gNil)))) (tIfS (tTest (tOp (uNe K) (tTup (tCons (tCB (uLen K) (tCons (tVar 4) tNil)) (tCons (tCB (uLen K) (tCons (tVar 5) tNil)) (tCons (tCB (uLen K) (tCons (tVar 6) tNil)) tNil)))) (tFld K (tVar 0) "_sizes"))) tNever tNext))
    (tSeq (tIfS (tTest (tOp (uGt K) (tCB (uLen K) (tCons (tFld K (tVar 0) "_triples") tNil)) (tC (.int 60)))) tNever tNext)
    (tIfS (tTest (tOp (uGt K) (tCB (rMaxT K) (tCons (tFld K (tVar 0) "_sizes") tNil)) (tC (.int 12)))) tNever tNext))))))
theorem c_copy3 {K : PySem.W.Frag} {σ : L2.St} {G H : Hp} {Q : VK} {i j k : Nat} {v1 v2 v3 : V} {q : Trip} (h1 : σ[i]? = some (some v1)) (h2 : σ[j]? = some (some v2)) (h3 : σ[k]? = some (some v3)) (eG : Ex G H) (d1 : Dx G v1 (rowN q.1)) (d2 : Dx G v2 (rowN q.2.1)) (d3 : Dx G v3 (rowN q.2.2))
    (hq : ∀ y H5, Ex H H5 → Dx (grow G H H5) y (tripD q) → Q y H5) : tTup (tCons (tCB (uList K) (tCons (tVar i) tNil)) (tCons (tCB (uList K) (tCons (tVar j) tNil)) (tCons (tCB (uList K) (tCons (tVar k) tNil)) tNil))) σ H Q := by
  obtain ⟨a1, us1, rfl, ha1, ru1, _⟩ := rowN_inv d1
  obtain ⟨a2, us2, rfl, ha2, ru2, _⟩ := rowN_inv d2
  obtain ⟨a3, us3, rfl, ha3, ru3, _⟩ := rowN_inv d3
  refine c_tup (c_cons (c_cb (c_cons (c_var h1 (c_nil ?_)))))
  refine c_listL (SqL.of (eG _ _ ha1)) fun l1 f1 => ?_
  refine c_cons (c_cb (c_cons (c_var h2 (c_nil ?_))))
  have e1 : Ex H (upd H l1 (.lst us1)) := Ex.new f1
  refine c_listL (SqL.of (e1 _ _ (eG _ _ ha2))) fun l2 f2 => ?_
  refine c_cons (c_cb (c_cons (c_var h3 (c_nil ?_))))
  have e2 := e1.trans (Ex.new (o := .lst us2) f2)
  refine c_listL (SqL.of (e2 _ _ (eG _ _ ha3))) fun l3 f3 => ?_
  refine c_nil ?_
  have e3 := e2.trans (Ex.new (o := .lst us3) f3)
  refine ⟨by show 3 ≤ sizeLine; decide, fun T fT => ?_⟩
  have e4 := e3.trans (Ex.new (o := .tup [.ref l1, .ref l2, .ref l3]) fT)
  have n12 : l1 ≠ l2 := ne_of_none upd_same f2
  have n13 : l1 ≠ l3 := ne_of_none (by rw [upd_ne n12]; exact upd_same) f3
  have n23 : l2 ≠ l3 := ne_of_none upd_same f3
  have n3T : l3 ≠ T := ne_of_none upd_same fT
  have n2T : l2 ≠ T := ne_of_none (by rw [upd_ne n23]; exact upd_same) fT
  have n1T : l1 ≠ T := ne_of_none (by rw [upd_ne n13, upd_ne n12]; exact upd_same) fT
  refine hq _ _ e4 (.tup (grow_new (fresh_back e3 fT) upd_same) (.cons (.lst (grow_new f1 ?_) (ru1.mono (grow_ex eG))) (.cons (.lst (grow_new (fresh_back e1 f2) ?_) (ru2.mono (grow_ex eG))) (.cons (.lst (grow_new (fresh_back e2 f3) ?_) (ru3.mono (grow_ex eG))) .nil))))
  · rw [upd_ne n1T, upd_ne n13, upd_ne n12, upd_same]
  · rw [upd_ne n2T, upd_ne n23, upd_same]
  · rw [upd_ne n3T, upd_same]
theorem eqv3 (a b c : Int) : PyData.eqv (.tuple [.int a, .int b, .int c]) (.tuple [.int a, .int b, .int c]) = true := by
  simp [PyData.eqv, PyData.eqvAll]
theorem pure_linit (K : PySem.W.Frag) (T : LrK K) (vs : List V) (H : Hp) (Q : VK) (E : XK) (h : sp_LeftRight_init K vs H Q E) : t_m_LeftRight_init K { nx := fun _ H' => Q .non H', rt := Q } (start ["self", "ground", "sizes", "triples", "u", "v", "w"] vs) H := by
  obtain ⟨G, x, g, dx, p, m, r, n, tr, vz, vt, rfl, hx, eG, gx, hg, dz, dt, tok, l60, m12, r12, n12, q⟩ := h
  obtain ⟨az, zs, rfl, haz, rz⟩ := dz.lst_inv
  obtain rfl : zs = [.int (m : Int), .int (r : Int), .int (n : Int)] := by
    cases rz with
    | cons h1 rz => cases rz with
      | cons h2 rz => cases rz with
        | cons h3 rz =>
          cases rz
          rw [h1.int_inv, h2.int_inv, h3.int_inv]
  obtain ⟨at_, us, rfl, hat, ru, lu⟩ := dt.lst_map
  have nx : ∀ {a : Addr} {o : HO}, G a = some o → a ≠ x := fun h z => by rw [z, gx] at h; cases h
  unfold t_m_LeftRight_init
  walk_at "tw"
  refine ⟨x, _, dx, [], rfl, hx, T.cl, T.nG, by show 0 < 1000; decide, ?_⟩
  have x1 : ExB x H (upd H x (.ins (He.ga K "LeftRight") dx (putF "ground" (.ref g) []))) := fun a o ne h => by rw [upd_ne ne]; exact h
  have k1 : upd H x (.ins (He.ga K "LeftRight") dx (putF "ground" (.ref g) [])) x = some (.ins (He.ga K "LeftRight") dx (putF "ground" (.ref g) [])) := upd_same
  generalize upd H x (.ins (He.ga K "LeftRight") dx (putF "ground" (.ref g) [])) = H1 at x1 k1 ⊢
  walk_at "tw"
  refine c_tupleL (SqL.of (x1 _ _ (nx haz) (eG _ _ haz))) fun t ft => ?_
  have tx : t ≠ x := fun z => by rw [z, k1] at ft; cases ft
  walk_at "tw"
  refine ⟨x, _, dx, _, rfl, by rw [upd_ne tx.symm]; exact k1, T.cl, T.nS, by show 1 < 1000; decide, ?_⟩
  have ht0 : H t = none := x1.free hx k1 ft
  have x2 : ExB x H (upd (upd H1 t (.tup [.int (m : Int), .int (r : Int), .int (n : Int)])) x (.ins (He.ga K "LeftRight") dx (putF "_sizes" (.ref t) (putF "ground" (.ref g) [])))) := fun a o ne h => by
    have at' : a ≠ t := fun z => by rw [z, ht0] at h; cases h
    rw [upd_ne ne, upd_ne at']; exact x1 _ _ ne h
  have k2 : upd (upd H1 t (.tup [.int (m : Int), .int (r : Int), .int (n : Int)])) x (.ins (He.ga K "LeftRight") dx (putF "_sizes" (.ref t) (putF "ground" (.ref g) []))) x = some (.ins (He.ga K "LeftRight") dx (putF "_sizes" (.ref t) (putF "ground" (.ref g) []))) := upd_same
  have t2 : upd (upd H1 t (.tup [.int (m : Int), .int (r : Int), .int (n : Int)])) x (.ins (He.ga K "LeftRight") dx (putF "_sizes" (.ref t) (putF "ground" (.ref g) []))) t = some (.tup [.int (m : Int), .int (r : Int), .int (n : Int)]) := by rw [upd_ne tx, upd_same]
  generalize upd (upd H1 t (.tup [.int (m : Int), .int (r : Int), .int (n : Int)])) x (.ins (He.ga K "LeftRight") dx (putF "_sizes" (.ref t) (putF "ground" (.ref g) []))) = H2 at x2 k2 t2 ⊢
  clear x1 k1 ft
  have eG2 : Ex G H2 := fun a o h => x2 _ _ (nx h) (eG _ _ h)
  walk_at "tw"
  refine ⟨at_, rfl, .inl ⟨⟨_, SqL.of (eG2 _ _ hat)⟩, ?_⟩⟩
  intro L hL
  refine lcB_list (G := G) (fun i => (tr.map tripD).take i) eG2 hL (eG2 _ _ hat) rfl (fun i _ => pre_len _ (by simp; omega) i) ?_ ?_
  · intro i u H3 Q2 N hu e3 td
    obtain ⟨w, ew, mw, dw⟩ := ru.map_get hu
    obtain ⟨A, v1, v2, v3, rfl, hA, d1, d2, d3⟩ := dw.three_inv
    have hA3 := e3 _ _ (eG2 _ _ hA)
    walk_at "tw"
    refine ⟨rfl, ?_⟩
    refine c_yes ?_
    refine c_iteT rfl ?_
    refine c_copy3 (q := w) rfl rfl rfl (eG2.trans e3) d1 d2 d3 fun y H5 e5 dy => ?_
    exact td.1 _ _ _ (take_succ (by rw [List.getElem?_map, ew]; rfl)) e5 dy
  · intro H3 e3 d3
    rw [List.take_of_length_le (by simp; omega)] at d3
    have k3 := e3 _ _ k2
    walk_at "tw"
    refine ⟨x, _, dx, _, rfl, k3, T.cl, T.nT, by show 2 < 1000; decide, ?_⟩
    obtain ⟨_, ls, eL, hls, rl, ll⟩ := d3.lst_map
    cases eL
    have Lx : L ≠ x := fun z => by rw [z, k2] at hL; cases hL
    have LG : grow G H2 H3 L = some (.lst ls) := hls
    have hL3 : H3 L = some (.lst ls) := grow_in (eG2.trans e3) _ _ hls
    have x4 : ExB x H3 (upd H3 x (.ins (He.ga K "LeftRight") dx (lrF g t L))) := fun a o ne h => by rw [upd_ne ne]; exact h
    have k4 : upd H3 x (.ins (He.ga K "LeftRight") dx (lrF g t L)) x = some (.ins (He.ga K "LeftRight") dx (lrF g t L)) := upd_same
    show (tSeq _ _) _ _ (upd H3 x (.ins (He.ga K "LeftRight") dx (lrF g t L)))
    generalize upd H3 x (.ins (He.ga K "LeftRight") dx (lrF g t L)) = H4 at x4 k4 ⊢
    have x04 : ExB x H H4 := fun a o ne h => x4 _ _ ne (e3 _ _ (x2 _ _ ne h))
    have hL4 : H4 L = some (.lst ls) := x4 _ _ Lx hL3
    have ht4 : H4 t = some (.tup [.int (m : Int), .int (r : Int), .int (n : Int)]) := x4 _ _ tx (e3 _ _ t2)
    -- what is solid behind
    have sol : Ex (grow G H2 H3) (grow G H H4) := fun a o h => by
      cases z : H2 a with
      | some u =>
        rw [grow_old z] at h
        rw [grow_old (eG _ _ h)]
        exact h
      | none =>
        unfold grow at h
        rw [z] at h
        have ax : a ≠ x := fun e => by rw [e, k2] at z; cases z
        have h0 : H a = none := x2.free hx k2 z
        exact grow_new h0 (x4 _ _ ax h)
    have solH4 : Ex (grow G H2 H3) H4 := sol.trans (grow_in (fun a o h => x4 _ _ (nx h) (e3 _ _ (eG2 _ _ h))))
    have fT : ∀ {σ : L2.St} {Q' : VK}, σ[0]? = some (some (.ref x)) → Q' (.ref L) H4 → tFld K (tVar 0) "_triples" σ H4 Q' := fun hs q' => ⟨_, hs, x, _, dx, _, _, rfl, k4, T.cl, T.nT, lrF_t g t L, q'⟩
    walk_at "tw"
    refine fT rfl ?_
    refine ⟨L, rfl, .inl ⟨⟨_, SqL.of hL4⟩, ?_⟩⟩
    refine for_list (K := K) (a := L) (xs := ls) (fun i σ' H' => ∃ o4 o5 o6 : Option V, σ' = [some (.ref x), some (.ref g), some (.ref az), some (.ref at_), o4, o5, o6] ∧ Ex H4 H') ⟨none, none, none, rfl, Ex.refl _⟩ (fun i σ' H' _ ⟨_, _, _, _, e⟩ => SqL.of (e _ _ hL4)) ?_ ?_
    · rintro i u σ' H5 hu ⟨o4, o5, o6, rfl, e5⟩
      obtain ⟨w, ew, mw, dw⟩ := rl.map_get hu
      obtain ⟨A, v1, v2, v3, rfl, hA, d1, d2, d3⟩ := (dw.mono (solH4.trans e5)).three_inv
      obtain ⟨b1, t1, rfl, hb1, _, l1⟩ := rowN_inv d1
      obtain ⟨b2, t2', rfl, hb2, _, l2⟩ := rowN_inv d2
      obtain ⟨b3, t3, rfl, hb3, _, l3⟩ := rowN_inv d3
      obtain ⟨w1, w2, w3⟩ := tok w mw
      have k5 := e5 _ _ k4
      have ht5 := e5 _ _ ht4
      walk_at "tw"
      refine ⟨by show 3 ≤ sizeLine; decide, fun B fB => ?_⟩
      refine ⟨_, rfl, x, _, dx, _, _, rfl, (Ex.new fB) _ _ k5, T.cl, T.nS, lrF_s g t L, ?_⟩
      have e6 : Ex H5 (upd H5 B (.tup [.int (t1.length : Int), .int (t2'.length : Int), .int (t3.length : Int)])) := Ex.new fB
      refine c_neD (d := .tuple [.int (m : Int), .int (r : Int), .int (n : Int)]) (e := .tuple [.int (m : Int), .int (r : Int), .int (n : Int)]) ?_ (.tup (e6 _ _ ht5) (.cons (.int _) (.cons (.int _) (.cons (.int _) .nil)))) rfl rfl ?_
      · refine .tup upd_same ?_
        rw [l1, l2, l3, w1, w2, w3]
        exact .cons (.int _) (.cons (.int _) (.cons (.int _) .nil))
      · rw [eqv3]
        walk_at "tw"
        exact ⟨_, _, _, rfl, e5.trans e6⟩
    · rintro σ' H5 ⟨o4, o5, o6, rfl, e5⟩
      have k5 := e5 _ _ k4
      have ht5 := e5 _ _ ht4
      have hL5 := e5 _ _ hL4
      walk_at "tw"
      refine ⟨_, rfl, x, _, dx, _, _, rfl, k5, T.cl, T.nT, lrF_t g t L, ?_⟩
      walk_at "tw"
      refine ⟨_, rfl, x, _, dx, _, _, rfl, k5, T.cl, T.nS, lrF_s g t L, ?_⟩
      walk_at "tw"
      refine ⟨t, (m : Int), [(r : Int), (n : Int)], rfl, SqT.of ht5, fun z hz => ?_⟩
      have z12 : z ≤ 12 := by
        (rcases List.mem_cons.mp hz with rfl | hz)
        · omega
        (rcases List.mem_cons.mp hz with rfl | hz)
        · omega
        (rcases List.mem_cons.mp hz with rfl | hz)
        · omega
        · cases hz
      walk_at "tw"
      refine q H5 t L (fun a o ne h => e5 _ _ (x04 _ _ ne h)) k5 (grow_new ht0 ht5) ((Dx.lst LG rl).mono (sol.trans (grow_mono (Ex.refl _) e5)))
def sp_LeftRight_sizes (K : PySem.W.Frag) : Sp := fun vs H Q _ => ∃ (x g t l : Addr) (p : Int) (m r n : Nat) (tr : List Trip), vs = [.ref x] ∧ LrObj K H x g t l p m r n tr ∧ Q (.ref t) H
def t_m_LeftRight_sizes (K : PySem.W.Frag) : TS :=
    (tRet (tFld K (tVar 0) "_sizes"))
theorem pure_sizes (K : PySem.W.Frag) (T : LrK K) (vs : List V) (H : Hp) (Q : VK) (E : XK) (h : sp_LeftRight_sizes K vs H Q E) : t_m_LeftRight_sizes K { nx := fun _ H' => Q .non H', rt := Q } (start ["self"] vs) H := by
  obtain ⟨x, g, t, l, p, m, r, n, tr, rfl, ho, q⟩ := h
  unfold t_m_LeftRight_sizes
  walk_at "tw"
  exact c_lrS rfl T ho q
def sp_LeftRight_triples (K : PySem.W.Frag) : Sp := fun vs H Q _ => ∃ (G : Hp) (x g t l : Addr) (p : Int) (m r n : Nat) (tr : List Trip), vs = [.ref x] ∧ Ex G H ∧ LrObj K G x g t l p m r n tr ∧ tr.length ≤ 30000 ∧ RetD (.list (tr.map tripD)) G H Q
def t_m_LeftRight_triples (K : PySem.W.Frag) : TS :=
    (tRet (tLc (iSeq K (tFld K (tVar 0) "_triples")) (gTup K 3 (gCons (gName 1) (gCons (gName 2) (gCons (gName 3) gNil)))) tYes (tTup (tCons (tCB (uList K) (tCons (tVar 1) tNil)) (tCons (tCB (uList K) (tCons (tVar 2) tNil)) (tCons (tCB (uList K) (tCons (tVar 3) tNil)) tNil)))) [1, 2, 3]))
theorem pure_triples (K : PySem.W.Frag) (T : LrK K) (vs : List V) (H : Hp) (Q : VK) (E : XK) (h : sp_LeftRight_triples K vs H Q E) : t_m_LeftRight_triples K { nx := fun _ H' => Q .non H', rt := Q } (start ["self", "u", "v", "w"] vs) H := by
  obtain ⟨G, x, g, t, l, p, m, r, n, tr, rfl, eG, ho, hz, q⟩ := h
  obtain ⟨_, us, el, hl, ru, lu⟩ := ho.tr.lst_map
  cases el
  unfold t_m_LeftRight_triples
  walk_at "tw"
  refine c_lrT rfl T (ho.ex eG) ?_
  refine ⟨l, rfl, .inl ⟨⟨_, SqL.of (eG _ _ hl)⟩, ?_⟩⟩
  intro L hL
  refine lcB_list (G := G) (fun i => (tr.map tripD).take i) eG hL (eG _ _ hl) rfl (fun i _ => pre_len _ (by simp; omega) i) ?_ ?_
  · intro i u H3 Q2 N hu e3 td
    obtain ⟨w, ew, mw, dw⟩ := ru.map_get hu
    obtain ⟨A, v1, v2, v3, rfl, hA, d1, d2, d3⟩ := dw.three_inv
    have hA3 := e3 _ _ (eG _ _ hA)
    walk_at "tw"
    refine ⟨rfl, ?_⟩
    refine c_yes ?_
    refine c_iteT rfl ?_
    refine c_copy3 (q := w) rfl rfl rfl (eG.trans e3) d1 d2 d3 fun y H5 e5 dy => ?_
    exact td.1 _ _ _ (take_succ (by rw [List.getElem?_map, ew]; rfl)) e5 dy
  · intro H3 e3 d3
    rw [List.take_of_length_le (by simp; omega)] at d3
    exact q _ _ e3 d3
end Tw
namespace Tw
open PySem PySem.Spec PyProof.Rows L2 Evl RZ
/-! ## Plain: value rows, as numbers -/
theorem c_catL {K : PySem.W.Frag} {H : Hp} {Q : VK} {a b : Addr} {xs ys : List V} (h1 : H a = some (.lst xs)) (h2 : H b = some (.lst ys)) (hz : xs.length + ys.length ≤ sizeLine) (q : ∀ p, H p = none → Q (.ref p) (upd H p (.lst (xs ++ ys)))) : uAdd K (.ref a) (.ref b) H Q :=
  .inr (.inr (.inl ⟨a, b, xs, ys, rfl, rfl, h1, h2, hz, q⟩))
/-- one step: times (t - o) -/
def stepN (p : Int) (o : Nu) (c : List Nu) : List Nu := List.zipWith (fun x y => subN p x (Nu.mul p o y)) (ofInt p 0 :: c) (c ++ [ofInt p 0])
def polyN (p : Int) (os : List Nu) : List Nu := os.foldl (fun c o => stepN p o c) [ofInt p 1]
def prodN (p : Int) (x : Nu) (os : List Nu) : Nu := os.foldl (fun v o => Nu.mul p v (subN p x o)) (ofInt p 1)
def finP (pts : List (Option Nu)) : List Nu := pts.filterMap id
def othersN : Option Nu → List (Option Nu) → List Nu
  | none, pts => finP pts
  | some x, pts => (finP pts).filter fun o => decide (o ≠ x)
def scaleN (p : Int) : Option Nu → List Nu → Nu
  | none, _ => ofInt p 1
  | some x, os => prodN p x os
def padN (p : Int) (z : Nat) (c : List Nu) : List Nu := c ++ List.replicate (z - c.length) (ofInt p 0)
def valRow (p : Int) (z : Nat) (pts : List (Option Nu)) (pt : Option Nu) : List Nu := padN p z ((polyN p (othersN pt pts)).map (Nu.mul p (Nu.inv p (scaleN p pt (othersN pt pts)))))
theorem stepN_length (p : Int) (o : Nu) (c : List Nu) : (stepN p o c).length = c.length + 1 := by
  unfold stepN
  rw [List.length_zipWith, List.length_cons, List.length_append]
  simp
theorem polyA_len (p : Int) : ∀ (os c : List Nu), (os.foldl (fun c o => stepN p o c) c).length = c.length + os.length
  | [], c => rfl
  | o :: os, c => by
    rw [List.foldl_cons, polyA_len p os, stepN_length, List.length_cons]
    omega
theorem polyN_length (p : Int) (os : List Nu) : (polyN p os).length = os.length + 1 := by
  unfold polyN
  rw [polyA_len]
  simp
  omega
theorem subN_ok {p : Int} {x y : Nu} (hx : x.ok p) (hy : y.ok p) : (subN p x y).ok p := Nu.add_ok hx (Nu.neg_ok hy)
theorem Nu.neg_le {p : Int} {n : Nat} : ∀ {x : Nu}, x.ok p → x.le n → p ≤ 2 ^ n ∨ p = 0 → (Nu.neg p x).le n
  | .r i, h, _, hp => by
    show (-i % p).natAbs < 2 ^ n
    have h1 := Int.emod_nonneg (-i) (b := p) (by have := h.1; omega)
    have h2 := Int.emod_lt_of_pos (-i) h.1
    have h3 := h.1
    have h4 : ((2 ^ n : Nat) : Int) = 2 ^ n := by simp
    rcases hp with hp | hp
    · omega
    · omega
  | .f a, _, k, _ => by
    show (-a).num.natAbs < _ ∧ (-a).den < _
    rw [Rat.neg_num, Rat.neg_den, Int.natAbs_neg]
    exact k
theorem prN_32 {p : Int} (h : PrN p) : p ≤ 31 := by
  rcases h with h | ⟨n, hn, h⟩
  · omega
  · have := prN_le n hn
    omega
/-- every rest over our primes is small -/
theorem ok_le5 {p : Int} (h : PrN p) (hp : 0 < p) {x : Nu} (hx : x.ok p) : x.le 5 := by
  obtain ⟨i, rfl, i0, i1⟩ := Nu.ok_r hp hx
  have := prN_32 h
  show i.natAbs < 2 ^ 5
  omega
theorem ok_le {p : Int} (h : PrN p) (hp : 0 < p) {x : Nu} (hx : x.ok p) {n : Nat} (hn : 5 ≤ n) : x.le n := Nu.le_mono hn (ok_le5 h hp hx)
theorem subN_le {p : Int} (h : PrN p) {x y : Nu} {n m : Nat} (hx : x.ok p) (hy : y.ok p) (lx : x.le n) (ly : y.le m) (h5 : 5 ≤ n + m + 1) : (subN p x y).le (n + m + 1) := by
  rcases Int.lt_or_eq_of_le h.nonneg with hp | hp
  · exact ok_le h hp (subN_ok hx hy) h5
  · exact Nu.add_le hx (Nu.neg_ok hy) lx (Nu.neg_le hy ly (.inr hp.symm))
/-- of the form t / B, t at most N -/
def Fb (N B : Nat) : Nu → Prop
  | .r _ => True
  | .f q => ∃ t : Int, q = Rat.divInt t B ∧ t.natAbs ≤ N
theorem Fb.le {p : Int} (h : PrN p) {N B n : Nat} {x : Nu} (hx : x.ok p) (hb : 0 < B) (f : Fb N B x) (h5 : 5 ≤ n) (hN : N < 2 ^ n) (hB : B < 2 ^ n) : x.le n := by
  cases x with
  | r i => exact ok_le h hx.1 hx h5
  | f q =>
    obtain ⟨t, rfl, ht⟩ := f
    have n1 := frac_num_le t B (by omega)
    have n2 := frac_den_le t B (by omega)
    rw [Int.natAbs_natCast] at n2
    exact ⟨by omega, by omega⟩
theorem sub_divInt (a b c : Int) (hc : c ≠ 0) : Rat.divInt a c + -(Rat.divInt b c) = Rat.divInt (a - b) c := by
  rw [Rat.neg_divInt, dot_same _ _ _ hc]
  congr 1
theorem Fb.step {p : Int} {N B : Nat} {x y o : Nu} (hb : 0 < B) (hx : x.ok p) (hy : y.ok p) (ho : o.ok p) (fx : Fb N B x) (fy : Fb N B y) (lo : o.le 5) :
    Fb (N * 2 ^ 6) (match o with | .r _ => 1 | .f q => B * q.den) (subN p x (Nu.mul p o y)) := by
  cases o with
  | r k =>
    obtain ⟨i, rfl, _⟩ := Nu.ok_r ho.1 hx
    obtain ⟨j, rfl, _⟩ := Nu.ok_r ho.1 hy
    exact trivial
  | f q =>
    have hp : p = 0 := ho
    obtain ⟨a, rfl⟩ := Nu.ok_f hp hx
    obtain ⟨b, rfl⟩ := Nu.ok_f hp hy
    obtain ⟨s, rfl, hs⟩ := fx
    obtain ⟨t, rfl, ht⟩ := fy
    obtain ⟨l1, l2⟩ := lo
    have q0 := q.den_pos
    refine ⟨s * (q.den : Int) - q.num * t, ?_, ?_⟩
    · show Rat.divInt s B + -(q * Rat.divInt t B) = _
      have e1 : q * Rat.divInt t B = Rat.divInt (q.num * t) ((B * q.den : Nat) : Int) := by
        rw [show q * Rat.divInt t B = Rat.divInt q.num q.den * Rat.divInt t B from by rw [Rat.num_divInt_den], Rat.divInt_mul_divInt]
        congr 1
        rw [Int.natCast_mul, Int.mul_comm]
      have e2 : Rat.divInt s B = Rat.divInt (s * (q.den : Int)) ((B * q.den : Nat) : Int) := by
        rw [Int.natCast_mul, Rat.divInt_eq_divInt_iff (by omega) (by
          intro z
          rcases Int.mul_eq_zero.mp z with z | z <;> omega)]
        grind
      rw [e1, e2, sub_divInt _ _ _ (by
        have : 0 < B * q.den := Nat.mul_pos hb q0
        omega)]
    · refine Nat.le_trans (Int.natAbs_sub_le _ _) ?_
      rw [Int.natAbs_mul, Int.natAbs_mul, Int.natAbs_natCast]
      have h1 : s.natAbs * q.den ≤ N * 2 ^ 5 := Nat.mul_le_mul hs (by omega)
      have h2 : q.num.natAbs * t.natAbs ≤ N * 2 ^ 5 := by
        rw [Nat.mul_comm]
        exact Nat.mul_le_mul ht (by omega)
      omega
/-- all of a row: t / B with one B -/
def RowFb (p : Int) (N Bm : Nat) (c : List Nu) : Prop := (∀ x ∈ c, x.ok p) ∧ ∃ B : Nat, 0 < B ∧ B ≤ Bm ∧ ∀ x ∈ c, Fb N B x
theorem mem_zipWith {α β γ : Type} {f : α → β → γ} : ∀ {xs : List α} {ys : List β} {z : γ}, z ∈ List.zipWith f xs ys → ∃ x ∈ xs, ∃ y ∈ ys, z = f x y
  | [], _, _, h => by simp at h
  | _ :: _, [], _, h => by simp at h
  | x :: xs, y :: ys, z, h => by
    rw [List.zipWith_cons_cons] at h
    (rcases List.mem_cons.mp h with rfl | h)
    · exact ⟨x, List.mem_cons_self, y, List.mem_cons_self, rfl⟩
    · obtain ⟨a, ha, b, hb, e⟩ := mem_zipWith h
      exact ⟨a, List.mem_cons_of_mem _ ha, b, List.mem_cons_of_mem _ hb, e⟩
theorem fb_zero (p : Int) (N B : Nat) : Fb N B (ofInt p 0) := by
  unfold ofInt
  split
  · exact trivial
  · exact ⟨0, by rw [Rat.zero_divInt]; rfl, Nat.zero_le _⟩
theorem RowFb.step {p : Int} (h0 : 0 ≤ p) {N Bm : Nat} {c : List Nu} {o : Nu} (R : RowFb p N Bm c) (ho : o.ok p) (lo : o.le 5) (h1 : 1 ≤ Bm) : RowFb p (N * 2 ^ 6) (Bm * 2 ^ 5) (stepN p o c) := by
  obtain ⟨ok, B, b0, bm, fb⟩ := R
  have z := ofInt_ok (p := p) (k := 0) h0
  have okz : ∀ x ∈ ofInt p 0 :: c, x.ok p ∧ Fb N B x := fun x hx => by
    (rcases List.mem_cons.mp hx with rfl | hx)
    · exact ⟨z, fb_zero p N B⟩
    · exact ⟨ok x hx, fb x hx⟩
  have okw : ∀ x ∈ c ++ [ofInt p 0], x.ok p ∧ Fb N B x := fun x hx => by
    (rcases List.mem_append.mp hx with hx | hx)
    · exact ⟨ok x hx, fb x hx⟩
    · rw [List.mem_singleton.mp hx]
      exact ⟨z, fb_zero p N B⟩
  refine ⟨fun w hw => ?_, (match o with | .r _ => 1 | .f q => B * q.den), ?_, ?_, fun w hw => ?_⟩
  · obtain ⟨x, hx, y, hy, rfl⟩ := mem_zipWith hw
    exact subN_ok (okz x hx).1 (Nu.mul_ok ho (okw y hy).1)
  · cases o with
    | r i => exact Nat.one_pos
    | f q => exact Nat.mul_pos b0 q.den_pos
  · cases o with
    | r i => exact Nat.le_trans h1 (Nat.le_mul_of_pos_right _ (by decide))
    | f q => exact Nat.mul_le_mul bm (by have := lo.2; omega)
  · obtain ⟨x, hx, y, hy, rfl⟩ := mem_zipWith hw
    exact Fb.step b0 (okz x hx).1 (okw y hy).1 ho (okz x hx).2 (okw y hy).2 lo
theorem polyA_fb {p : Int} (h0 : 0 ≤ p) : ∀ (os c : List Nu) (j : Nat), RowFb p (2 ^ (6 * j)) (2 ^ (5 * j)) c → OkN p 5 os → RowFb p (2 ^ (6 * (j + os.length))) (2 ^ (5 * (j + os.length))) (os.foldl (fun c o => stepN p o c) c)
  | [], c, j, R, _ => R
  | o :: os, c, j, R, ok => by
    have R2 := R.step h0 (ok o List.mem_cons_self).1 (ok o List.mem_cons_self).2 Nat.one_le_two_pow
    rw [← Nat.pow_add, ← Nat.pow_add] at R2
    have R3 := polyA_fb h0 os (stepN p o c) (j + 1) (by rw [Nat.mul_add, Nat.mul_add]; exact R2) fun x hx => ok x (List.mem_cons_of_mem _ hx)
    (rw [List.foldl_cons, List.length_cons])
    rw [show j + (os.length + 1) = j + 1 + os.length from by omega]
    exact R3
theorem one_fb {p : Int} (h0 : 0 ≤ p) : RowFb p (2 ^ (6 * 0)) (2 ^ (5 * 0)) [ofInt p 1] := by
  refine ⟨fun x hx => by rw [List.mem_singleton.mp hx]; exact ofInt_ok h0, 1, by decide, by decide, fun x hx => ?_⟩
  rw [List.mem_singleton.mp hx]
  unfold ofInt
  split
  · exact trivial
  · exact ⟨1, rfl, by decide⟩
theorem RowFb.le {p : Int} (h : PrN p) {j : Nat} {c : List Nu} (R : RowFb p (2 ^ (6 * j)) (2 ^ (5 * j)) c) : OkN p (6 * j + 5) c := fun x hx => by
  obtain ⟨ok, B, b0, bm, fb⟩ := R
  refine ⟨ok x hx, (fb x hx).le h (ok x hx) b0 (by omega) ?_ ?_⟩
  · exact Nat.pow_lt_pow_right (by decide) (by omega)
  · exact Nat.lt_of_le_of_lt bm (Nat.pow_lt_pow_right (by decide) (by omega))
theorem polyN_ok {p : Int} (h : PrN p) (os : List Nu) (ok : OkN p 5 os) : OkN p (6 * os.length + 5) (polyN p os) := by
  have R := polyA_fb h.nonneg os [ofInt p 1] 0 (one_fb h.nonneg) ok
  rw [Nat.zero_add] at R
  exact R.le h
theorem prodA_ok {p : Int} (h : PrN p) {x : Nu} (hx : x.ok p) (lx : x.le 5) : ∀ (os : List Nu) (v : Nu) (n : Nat), v.ok p → v.le n → OkN p 5 os → (os.foldl (fun v o => Nu.mul p v (subN p x o)) v).ok p ∧ (os.foldl (fun v o => Nu.mul p v (subN p x o)) v).le (n + 11 * os.length)
  | [], v, n, hv, lv, _ => ⟨hv, lv⟩
  | o :: os, v, n, hv, lv, ok => by
    obtain ⟨oo, lo⟩ := ok o List.mem_cons_self
    have s1 := subN_ok hx oo
    have s2 := subN_le h hx oo lx lo (by decide)
    have r := prodA_ok h hx lx os _ (n + 11) (Nu.mul_ok hv s1) (Nu.mul_le hv s1 lv s2) fun y hy => ok y (List.mem_cons_of_mem _ hy)
    (rw [List.foldl_cons, List.length_cons])
    refine ⟨r.1, Nu.le_mono (by omega) r.2⟩
theorem scaleN_ok {p : Int} (h : PrN p) {pt : Option Nu} {os : List Nu} (hx : ∀ x, pt = some x → x.ok p ∧ x.le 5) (ok : OkN p 5 os) : (scaleN p pt os).ok p ∧ (scaleN p pt os).le (1 + 11 * os.length) := by
  cases pt with
  | none => exact ⟨ofInt_ok h.nonneg, Nu.le_mono (by omega) (ofInt1_le p)⟩
  | some x => exact prodA_ok h (hx x rfl).1 (hx x rfl).2 os _ 1 (ofInt_ok h.nonneg) (ofInt1_le p) ok
theorem finP_mem {pts : List (Option Nu)} {x : Nu} : x ∈ finP pts ↔ some x ∈ pts := by
  unfold finP
  rw [List.mem_filterMap]
  constructor
  · rintro ⟨a, h, e⟩
    have e2 : a = some x := e
    rw [← e2]; exact h
  · exact fun h => ⟨_, h, rfl⟩
theorem finP_le (pts : List (Option Nu)) : (finP pts).length ≤ pts.length := List.length_filterMap_le _ _
theorem othersN_mem {pts : List (Option Nu)} {pt : Option Nu} {x : Nu} (h : x ∈ othersN pt pts) : some x ∈ pts := by
  cases pt with
  | none => exact finP_mem.mp h
  | some y => exact finP_mem.mp (List.mem_filter.mp h).1
theorem othersN_le (pt : Option Nu) (pts : List (Option Nu)) : (othersN pt pts).length ≤ pts.length := by
  cases pt with
  | none => exact finP_le pts
  | some y => exact Nat.le_trans (List.length_filter_le _ _) (finP_le pts)
/-- the points are numbers over p, small -/
def PtOk (p : Int) (pts : List (Option Nu)) : Prop := ∀ x, some x ∈ pts → x.ok p ∧ x.le 5
theorem othersN_ok {p : Int} {pts : List (Option Nu)} (h : PtOk p pts) (pt : Option Nu) : OkN p 5 (othersN pt pts) := fun _ hx => h _ (othersN_mem hx)
theorem Nu.inv_le {p : Int} (h : PrN p) {x : Nu} {n : Nat} (hx : x.ok p) (lx : x.le n) (h5 : 5 ≤ n) : (Nu.inv p x).le n := by
  cases x with
  | r i => exact ok_le h hx.1 (Nu.inv_ok hx) h5
  | f a =>
    show (a⁻¹).num.natAbs < _ ∧ (a⁻¹).den < _
    obtain ⟨l1, l2⟩ := lx
    by_cases h0 : a.num = 0
    · have : a = 0 := Rat.num_eq_zero.mp h0
      subst this
      have e : ((0 : Rat)⁻¹) = 0 := Rat.inv_zero
      rw [e]
      have h1 : 1 < 2 ^ n := Nat.one_lt_two_pow (by omega)
      exact ⟨by show 0 < 2 ^ n; omega, h1⟩
    · rw [inv_frac]
      rcases Int.lt_or_lt_of_ne h0 with neg | pos
      · rw [neg_frac]
        have n1 := frac_num_le (-(a.den : Int)) (-a.num) (by omega)
        have n2 := frac_den_le (-(a.den : Int)) (-a.num) (by omega)
        rw [Int.natAbs_neg, Int.natAbs_natCast] at n1
        rw [Int.natAbs_neg] at n2
        exact ⟨by omega, by omega⟩
      · have n1 := frac_num_le (a.den : Int) a.num pos
        have n2 := frac_den_le (a.den : Int) a.num pos
        rw [Int.natAbs_natCast] at n1
        exact ⟨by omega, by omega⟩
theorem ofInt0_le (p : Int) : (ofInt p 0).le 1 := by
  unfold ofInt
  split
  · show ((0 : Int) % p).natAbs < 2 ^ 1
    rw [Int.zero_emod]; decide
  · show ((0 : Int) : Rat).num.natAbs < 2 ^ 1 ∧ ((0 : Int) : Rat).den < 2 ^ 1
    decide
theorem valRow_ok {p : Int} (h : PrN p) {pts : List (Option Nu)} {pt : Option Nu} (z : Nat) (hp : PtOk p pts) (hx : ∀ x, pt = some x → x.ok p ∧ x.le 5) : OkN p (17 * pts.length + 11) (valRow p z pts pt) := fun x hx' => by
  have l := othersN_le pt pts
  obtain ⟨s1, s2⟩ := scaleN_ok h hx (othersN_ok hp pt)
  rcases List.mem_append.mp hx' with h1 | h1
  · obtain ⟨y, hy, rfl⟩ := List.mem_map.mp h1
    obtain ⟨o1, o2⟩ := polyN_ok h _ (othersN_ok hp pt) y hy
    have i2 := Nu.inv_le h s1 (Nu.le_mono (m := 6 + 11 * (othersN pt pts).length) (by omega) s2) (by omega)
    refine ⟨Nu.mul_ok (Nu.inv_ok s1) o1, Nu.le_mono ?_ (Nu.mul_le (Nu.inv_ok s1) o1 i2 o2)⟩
    omega
  · rw [(List.mem_replicate.mp h1).2]
    exact ⟨ofInt_ok h.nonneg, Nu.le_mono (by omega) (ofInt0_le p)⟩
theorem pt_eqv (a b : Option Nu) : PyData.eqv (ptD a) (ptD b) = decide (a = b) := by
  cases a with
  | none =>
    cases b with
    | none => decide +kernel
    | some y =>
      rw [decide_eq_false fun z => nomatch z]
      cases y <;> rfl
  | some x =>
    cases b with
    | none =>
      rw [decide_eq_false fun z => nomatch z]
      cases x <;> rfl
    | some y =>
      show PyData.eqv x.d y.d = _
      rw [nu_eqv]
      by_cases e : x = y
      · subst e; simp
      · rw [decide_eq_false e, decide_eq_false fun z => e (Option.some.inj z)]
theorem sh_pt (a : Option Nu) : SeqAt.shaped (ptD a) = true := by
  cases a with
  | none => decide +kernel
  | some x => exact sh_nu
end Tw
namespace Tw
open PySem PySem.Spec PyProof.Rows L2 Evl RZ
/-! ### value_rows -/
def sp_value_rows (K : PySem.W.Frag) : Sp := fun vs H Q _ => ∃ (g : Addr) (p : Int) (pts : List (Option Nu)) (v : V), vs = [.ref g, .int (pts.length : Int), v] ∧ GrAt K H g p ∧ PrN p ∧ Dx H v (.list (pts.map ptD)) ∧ PtOk p pts ∧ pts.length ≤ 13 ∧
  (∀ x, some x ∈ pts → prodN p x (othersN (some x) pts) ≠ ofInt p 0) ∧ ofInt p 1 ≠ ofInt p 0 ∧ RetN (tblN (pts.map (valRow p pts.length pts))) H Q
def t_f_value_rows (K : PySem.W.Frag) : TS :=
    (tSeq (tPar 3 4 (tCons (tCall (sp_zero_of K) [] E0 (tCons (tVar 0) tNil)) (tCons (tCall (sp_one_of K) [] E0 (tCons (tVar 0) tNil)) tNil)))
    (tSeq (tAsg (tLst tNil) (gName 5))
    (tSeq (tFor (iSeq K (tVar 2)) (gName 6) (tSeq (tAsg (tLc (iSeq K (tVar 2)) (gName 7) (tAnd (tTest (tOp (uNe K) (tVar 7) (tVar 6))) (tTest (tOp (uNe K) (tVar 7) (tC (.str "far"))))) (tVar 7) [7]) (gName 8))
    (tSeq (tPar 9 10 (tCons (tLst (tCons (tVar 4) tNil)) (tCons (tVar 4) tNil)))
    (tSeq (tFor (iSeq K (tVar 8)) (gName 7) (tSeq (tPar 11 12 (tCons (tOp (uAdd K) (tLst (tCons (tVar 3) tNil)) (tVar 9)) (tCons (tOp (uAdd K) (tVar 9) (tLst (tCons (tVar 3) tNil))) tNil)))
    (tSeq (tAsg (tLc (iZipA K (tCons (tVar 11) (tCons (tVar 12) tNil))) (gTup K 2 (gCons (gName 13) (gCons (gName 14) gNil))) tYes (tMeth (He.ga K "Ground") "sub" (sp_Ground_sub K) [] E0 (tVar 0) (tCons (tVar 13) (tCons (tMeth (He.ga K "Ground") "mul" (sp_Ground_mul K) [] E0 (tVar 0) (tCons (tVar 7) (tCons (tVar 14) tNil))) tNil))) [13, 14]) (gName 9))
    (tIfS (tTest (tOp (uNe K) (tVar 6) (tC (.str "far")))) (tAsg (tMeth (He.ga K "Ground") "mul" (sp_Ground_mul K) [] E0 (tVar 0) (tCons (tVar 10) (tCons (tMeth (He.ga K "Ground") "sub" (sp_Ground_sub K) [] E0 (tVar 0) (tCons (tVar 6) (tCons (tVar 7) tNil))) tNil))) (gName 10)) tNext))))
    (tSeq (tAsg (tCall (sp_scaled K) [] E0 (tCons (tVar 0) (tCons (tMeth (He.ga K "Ground") "div" (sp_Ground_div K) [] E0 (tVar 0) (tCons (tVar 4) (tCons (tVar 10) tNil))) (tCons (tVar 9) tNil)))) (gName 9))
    (tDrop (tBM K "list" rAppend (tVar 5) (tCons (tOp (uAdd K) (tVar 9) (tOp (uMul K) (tLst (tCons (tVar 3) tNil)) (tOp uSub (tVar 1) (tCB (uLen K) (tCons (tVar 9) tNil))))) tNil))))))))
    (tRet (tVar 5)))))
theorem filter_othersN (pt : Option Nu) : ∀ (pts : List (Option Nu)), pts.filter (fun o => decide (o ≠ pt) && decide (o ≠ none)) = (othersN pt pts).map some
  | [] => by cases pt <;> rfl
  | o :: pts => by
    have ih := filter_othersN pt pts
    cases o with
    | none =>
      rw [List.filter_cons_of_neg (by simp), ih]
      cases pt <;> rfl
    | some y =>
      cases pt with
      | none =>
        rw [List.filter_cons_of_pos (by simp), ih]
        rfl
      | some x =>
        by_cases e : y = x
        · rw [List.filter_cons_of_neg (by simp [e]), ih]
          show _ = ((y :: finP pts).filter fun o => decide (o ≠ x)).map some
          rw [List.filter_cons_of_neg (by simp [e])]
          rfl
        · rw [List.filter_cons_of_pos (by simp [e]), ih]
          show _ = ((y :: finP pts).filter fun o => decide (o ≠ x)).map some
          rw [List.filter_cons_of_pos (by simp [e])]
          rfl
theorem othersN_lt {pt : Option Nu} {pts : List (Option Nu)} (h : pt ∈ pts) : (othersN pt pts).length < pts.length := by
  have e := congrArg List.length (filter_othersN pt pts)
  rw [List.length_map] at e
  rw [← e, List.length_filter_lt_length_iff_exists]
  exact ⟨pt, h, by simp⟩
theorem stepN_get (p : Int) (o : Nu) (c : List Nu) {i : Nat} {x y : Nu} (hx : (ofInt p 0 :: c)[i]? = some x) (hy : (c ++ [ofInt p 0])[i]? = some y) : (stepN p o c)[i]? = some (subN p x (Nu.mul p o y)) := by
  unfold stepN
  rw [List.getElem?_zipWith, hx, hy]
theorem foldl_take {α β : Type} (f : β → α → β) (b : β) {l : List α} {i : Nat} {x : α} (h : l[i]? = some x) : (l.take (i + 1)).foldl f b = f ((l.take i).foldl f b) x := by
  rw [take_succ h, List.foldl_append]
  rfl
theorem rowN_dx {H : Hp} {a : Addr} {us : List V} {xs : List Nu} (h : H a = some (.lst us)) (r : DxA H us (xs.map Nu.d)) : Dx H (.ref a) (rowN xs) := .lst h r
/-- the scale so far -/
def scA (p : Int) (pt : Option Nu) (os : List Nu) : Nu := scaleN p pt os
theorem ne_subm : ¬ (("sub" : Str) = "prime") := by decide +kernel
theorem ne_subl : ¬ (("sub" : Str) = "line") := by decide +kernel
theorem ne_mulm : ¬ (("mul" : Str) = "prime") := by decide +kernel
theorem ne_mull : ¬ (("mul" : Str) = "line") := by decide +kernel
theorem ne_divm : ¬ (("div" : Str) = "prime") := by decide +kernel
theorem ne_divl : ¬ (("div" : Str) = "line") := by decide +kernel
theorem pure_value_rows (K : PySem.W.Frag) (vs : List V) (H : Hp) (Q : VK) (E : XK) (h : sp_value_rows K vs H Q E) : t_f_value_rows K { nx := fun _ H' => Q .non H', rt := Q } (start ["ground", "many", "points", "zero", "one", "rows", "point", "other", "others", "row", "scale", "raised", "kept", "x", "y"] vs) H := by
  obtain ⟨g, p, pts, v, rfl, hg, hp, dv, pok, l13, pne, one0, q⟩ := h
  obtain ⟨a, us, rfl, ha, ru, lu⟩ := dv.lst_map
  have p0 := hp.nonneg
  unfold t_f_value_rows
  walk_at "tw"
  refine ⟨g, p, rfl, hg, p0, fun z H1 e1 d1 => ?_⟩
  walk_at "tw"
  refine ⟨g, p, rfl, hg.ex e1, hp, fun o H2 e2 d2 => ?_⟩
  walk_at "tw"
  refine ⟨by show 0 ≤ sizeLine; decide, fun L hL => ?_⟩
  walk_at "tw"
  have e12 := e1.trans e2
  have ha2 := ((e12.trans (Ex.new (o := .lst []) hL)) _ _ ha)
  refine ⟨a, rfl, .inl ⟨⟨_, SqL.of ha2⟩, ?_⟩⟩
  -- solid: what stands at H2 and is new since H
  obtain ⟨G, hG⟩ : ∃ G, G = grow hp0 H H2 := ⟨_, rfl⟩
  have eG : Ex G H2 := by rw [hG]; exact grow_in (ex0 _)
  have dz : Dx G z (ofInt p 0).d := by rw [hG]; exact d1.mono (grow_mono (Ex.refl _) e2)
  have do_ : Dx G o (ofInt p 1).d := by rw [hG, ← grow_ex2 e1 e2]; exact d2.mono (grow_mono (ex0 _) (Ex.refl _))
  refine for_list (K := K) (a := a) (xs := us) (fun i σ' H' => ∃ (o6 o7 o8 o9 o10 o11 o12 : Option V) (ws : List V), σ' = [some (.ref g), some (.int (pts.length : Int)), some (.ref a), some z, some o, some (.ref L), o6, o7, o8, o9, o10, o11, o12, none, none] ∧ BldP L G H2 H' ws (((pts.map (valRow p pts.length pts)).map rowN).take i))
    ⟨none, none, none, none, none, none, none, [], rfl, BldP.start hL⟩ (fun i σ' H' _ ⟨_, _, _, _, _, _, _, _, _, B⟩ => SqL.of ((e12.trans B.ex) _ _ ha)) ?_ ?_
  · rintro i u σ' H3 hu ⟨o6, o7, o8, o9, o10, o11, o12, ws, rfl, B⟩
    obtain ⟨pt, ept, mpt, dpt⟩ := ru.map_get hu
    have e3 := e12.trans B.ex
    have ha3 := e3 _ _ ha
    have dpt3 := dpt.mono e3
    have sx : ∀ x, pt = some x → x.ok p ∧ x.le 5 := fun x e => pok x (by rw [← e]; exact mpt)
    walk_at "tw"
    refine ⟨a, rfl, .inl ⟨⟨_, SqL.of ha3⟩, ?_⟩⟩
    intro M hM
    refine lcB_list (G := H3) (fun j => (((pts.take j).filter fun o => decide (o ≠ pt) && decide (o ≠ none))).map ptD) (Ex.refl _) hM ha3 rfl (fun i _ => ?_) ?_ ?_
    · rw [List.length_map]
      refine Nat.le_trans (List.length_filter_le _ _) (Nat.le_trans (List.length_take_le' _ _) (by omega))
    · intro j w H4 Q2 N hw e4 td
      obtain ⟨pj, epj, mpj, dpj⟩ := ru.map_get hw
      have dpj4 := dpj.mono (e3.trans e4)
      walk_at "tw"
      refine ⟨rfl, ?_⟩
      walk_at "tw"
      refine c_neD dpj4 (dpt3.mono e4) (sh_pt _) (sh_pt _) ?_
      rw [pt_eqv]
      walk_at "tw"
      refine c_ite (fun h1 => ?_) (fun h1 => ?_)
      · walk_at "tw"
        refine c_neD dpj4 (.str "far") (sh_pt _) (sh_pt none) ?_
        rw [show PyData.eqv (ptD pj) (.str "far") = decide (pj = none) from pt_eqv pj none]
        walk_at "tw"
        refine c_ite (fun h2 => ?_) (fun h2 => ?_)
        · walk_at "tw"
          refine td.1 _ _ _ ?_ (Ex.refl _) (dpj.mono (e3.trans (grow_ex e4)))
          rw [filter_take_succ epj, if_pos (by simp at h1 h2; simp [h1, h2]), List.map_append]
          rfl
        · refine td.2 ?_ _ (Ex.refl _)
          rw [filter_take_succ epj, if_neg (by simp at h1 h2; simp [h1, h2])]
      · refine td.2 ?_ _ (Ex.refl _)
        rw [filter_take_succ epj, if_neg (by simp at h1; simp [h1])]
    · intro H4 e4 d4
      rw [lu, List.take_of_length_le (Nat.le_refl _), filter_othersN] at d4
      have d4' := d4.mono (grow_in (Ex.refl H3 |>.trans e4))
      obtain ⟨_, os, eM, hM4, ro, lo⟩ := d4'.lst_map
      cases eM
      clear d4 d4'
      rw [List.length_map] at lo
      have lon := othersN_le pt pts
      have okos := othersN_ok pok pt
      have z4 : Dx H4 z (ofInt p 0).d := dz.mono (eG.trans (B.ex.trans e4))
      have o4 : Dx H4 o (ofInt p 1).d := do_.mono (eG.trans (B.ex.trans e4))
      have g4 : GrAt K H4 g p := hg.ex (e3.trans e4)
      walk_at "tw"
      refine ⟨by show 1 ≤ sizeLine; decide, fun R hR => ?_⟩
      walk_at "tw"
      have hM5 := (Ex.new (o := .lst [o]) hR) _ _ hM4
      refine ⟨M, rfl, .inl ⟨⟨_, SqL.of hM5⟩, ?_⟩⟩
      refine for_list (K := K) (a := M) (xs := os) (fun j σ' H' => ∃ (o7 o11 o12 : Option V) (rv sv : V), σ' = [some (.ref g), some (.int (pts.length : Int)), some (.ref a), some z, some o, some (.ref L), some u, o7, some (.ref M), some rv, some sv, o11, o12, none, none] ∧ Ex H4 H' ∧
          Dx H' rv (rowN (polyN p ((othersN pt pts).take j))) ∧ Dx H' sv (scaleN p pt ((othersN pt pts).take j)).d)
        ⟨o7, o11, o12, .ref R, o, rfl, Ex.new hR, rowN_dx upd_same (.cons (o4.mono (Ex.new hR)) .nil), ?_⟩ (fun j σ' H' _ ⟨_, _, _, _, _, _, e, _⟩ => SqL.of (e _ _ hM4)) ?_ ?_
      · cases pt <;> exact o4.mono (Ex.new hR)
      · rintro j w σ' H5 hw ⟨o7, o11, o12, rv, sv, rfl, e5, drv, dsv⟩
        have ro2 : DxA H4 os ((othersN pt pts).map Nu.d) := by
          rw [List.map_map] at ro
          exact ro
        obtain ⟨y, ey, my, dy⟩ := ro2.map_get hw
        obtain ⟨oy, ly⟩ := okos y my
        obtain ⟨c, hc⟩ : ∃ c, c = polyN p ((othersN pt pts).take j) := ⟨_, rfl⟩
        have jl : j < (othersN pt pts).length := (List.getElem?_eq_some_iff.mp ey).1
        have okt : OkN p 5 ((othersN pt pts).take j) := fun x hx => okos x (List.mem_of_mem_take hx)
        have ltk : ((othersN pt pts).take j).length ≤ 13 := Nat.le_trans (List.length_take_le' _ _) (by omega)
        have okc : OkN p 83 c := fun x hx => by
          rw [hc] at hx
          obtain ⟨h1, h2⟩ := polyN_ok hp _ okt x hx
          exact ⟨h1, Nu.le_mono (by omega) h2⟩
        have lc : c.length ≤ 14 := by
          rw [hc, polyN_length]; omega
        have ec1 : polyN p ((othersN pt pts).take (j + 1)) = stepN p y c := by
          rw [hc]
          exact foldl_take _ _ ey
        rw [← hc] at drv
        obtain ⟨ar, rs, rfl, har, rr, lr⟩ := rowN_inv drv
        have z5 := z4.mono e5
        walk_at "tw"
        refine ⟨by show 1 ≤ sizeLine; decide, fun l1 f1 => ?_⟩
        walk_at "tw"
        refine c_catL upd_same ((Ex.new f1) _ _ har) (Nat.le_trans (m := 100) (by simp; omega) (by decide)) fun l2 f2 => ?_
        walk_at "tw"
        refine ⟨by show 1 ≤ sizeLine; decide, fun l3 f3 => ?_⟩
        have e6 := (Ex.new (o := .lst [z]) f1).trans ((Ex.new (o := .lst ([z] ++ rs)) f2).trans (Ex.new (o := .lst [z]) f3))
        refine c_catL (e6 _ _ har) upd_same (Nat.le_trans (m := 100) (by simp; omega) (by decide)) fun l4 f4 => ?_
        have e7 := e6.trans (Ex.new (o := .lst (rs ++ [z])) f4)
        have n23 : l2 ≠ l3 := ne_of_none upd_same f3
        have n24 : l2 ≠ l4 := ne_of_none (by rw [upd_ne n23]; exact upd_same) f4
        have dra : Dx (upd (upd (upd (upd H5 l1 (.lst [z])) l2 (.lst ([z] ++ rs))) l3 (.lst [z])) l4 (.lst (rs ++ [z]))) (.ref l2) (.list ((ofInt p 0 :: c).map Nu.d)) :=
          .lst (by rw [upd_ne n24, upd_ne n23, upd_same]; rfl) (.cons (z5.mono e7) (rr.mono e7))
        have dke : Dx (upd (upd (upd (upd H5 l1 (.lst [z])) l2 (.lst ([z] ++ rs))) l3 (.lst [z])) l4 (.lst (rs ++ [z]))) (.ref l4) (.list ((c ++ [ofInt p 0]).map Nu.d)) := by
          refine .lst upd_same ?_
          rw [List.map_append]
          exact (rr.mono e7).append (.cons (z5.mono e7) .nil)
        generalize upd (upd (upd (upd H5 l1 (.lst [z])) l2 (.lst ([z] ++ rs))) l3 (.lst [z])) l4 (.lst (rs ++ [z])) = H6 at e7 dra dke ⊢
        clear e6 f1 f2 f3 f4 n23 n24
        have e46 := e5.trans e7
        have dy6 := dy.mono e46
        have g6 := g4.ex e46
        walk_at "tw"
        refine c_zipM (G := H6) rfl rfl dra dke (by simp) (Ex.refl _) fun as bs J P las ra rb Z hP => ?_
        intro N hN
        refine lcB_zip Z (G := hp0) (fun k => ((stepN p y c).map Nu.d).take k) (ex0 _) hN hP rfl (fun i _ => pre_len _ (by rw [List.length_map, stepN_length]; omega) i) ?_ ?_
        · intro k xv yv T H7 Q2 N2 hx hy hT e67 td
          obtain ⟨x1, ex1, mx1, dx1⟩ := ra.map_get hx
          obtain ⟨y1, ey1, my1, dy1⟩ := rb.map_get hy
          have zle : (ofInt p 0).ok p ∧ (ofInt p 0).le 83 := ⟨ofInt_ok p0, Nu.le_mono (by decide) (ofInt0_le p)⟩
          have ox1 : x1.ok p ∧ x1.le 83 := by
            rcases List.mem_cons.mp mx1 with rfl | h
            · exact zle
            · exact okc _ h
          have oy1 : y1.ok p ∧ y1.le 83 := by
            rcases List.mem_append.mp my1 with h | h
            · exact okc _ h
            · rw [List.mem_singleton.mp h]; exact zle
          have e8 := e67.trans (Ex.new (o := .tup [xv, yv]) hT)
          walk_at "tw"
          refine ⟨rfl, ?_⟩
          walk_at "tw"
          refine c_gmV rfl (g6.ex e8) ne_subm ne_subl ?_
          walk_at "tw"
          refine c_gmV rfl (g6.ex e8) ne_mulm ne_mull ?_
          walk_at "tw"
          refine ⟨hp0, g, p, y, y1, w, yv, 5, 83, rfl, g6.ex e8, p0, oy, oy1.1, dy6.mono e8, dy1.mono e8, ly, oy1.2, by decide, fun r H8 e88 d8 => ?_⟩
          walk_at "tw"
          refine ⟨hp0, g, p, x1, Nu.mul p y y1, xv, r, 83, 88, rfl, g6.ex (e8.trans e88), p0, ox1.1, Nu.mul_ok oy oy1.1, dx1.mono (e8.trans e88), d8.mono (grow_in (ex0 _)), ox1.2, Nu.mul_le oy oy1.1 ly oy1.2, by decide, fun r2 H9 e9 d9 => ?_⟩
          refine td.1 _ _ _ (take_succ ?_) (((Ex.new hT).trans e88).trans e9) (d9.mono (grow0_back0 ((Ex.new hT).trans e88)))
          rw [List.getElem?_map, stepN_get p y c ex1 ey1]
          rfl
        · intro H7 e67 d7
          rw [las, show (ofInt p 0 :: c).length = c.length + 1 from rfl, ← stepN_length p y c, List.take_of_length_le (by simp)] at d7
          have d7' : Dx H7 (.ref N) (rowN (stepN p y c)) := d7.mono (grow_in (ex0 _))
          have e47 := e46.trans e67
          walk_at "tw"
          refine c_neD (dpt3.mono (e4.trans e47)) (.str "far") (sh_pt _) (sh_pt none) ?_
          rw [show PyData.eqv (ptD pt) (.str "far") = decide (pt = none) from pt_eqv pt none]
          cases pt with
          | none =>
            refine c_bl ?_
            refine c_iteF rfl ?_
            walk_at "tw"
            exact ⟨_, _, _, _, sv, rfl, e47, by rw [ec1]; exact d7', (dsv.mono e7).mono e67⟩
          | some x =>
            obtain ⟨ox, lx⟩ := sx x rfl
            refine c_bl ?_
            refine c_iteT rfl ?_
            walk_at "tw"
            refine c_gmV rfl (g4.ex e47) ne_mulm ne_mull ?_
            walk_at "tw"
            refine c_gmV rfl (g4.ex e47) ne_subm ne_subl ?_
            walk_at "tw"
            obtain ⟨os1, os2⟩ := prodA_ok hp ox lx ((othersN (some x) pts).take j) (ofInt p 1) 1 (ofInt_ok p0) (ofInt1_le p) okt
            refine ⟨hp0, g, p, x, y, u, w, 5, 5, rfl, g4.ex e47, p0, ox, oy, dpt3.mono (e4.trans e47), dy6.mono e67, lx, ly, by decide, fun r H8 e8 d8 => ?_⟩
            walk_at "tw"
            refine ⟨hp0, g, p, prodN p x ((othersN (some x) pts).take j), subN p x y, sv, r, 200, 11, rfl, g4.ex (e47.trans e8), p0, os1, subN_ok ox oy, (dsv.mono e7).mono (e67.trans e8), d8.mono (grow_in (ex0 _)), Nu.le_mono (by omega) os2, subN_le hp ox oy lx ly (by decide), by decide, fun r2 H9 e9 d9 => ?_⟩
            walk_at "tw"
            refine ⟨_, _, _, _, _, rfl, e47.trans (e8.trans e9), by rw [ec1]; exact d7'.mono (e8.trans e9), ?_⟩
            have ep : scaleN p (some x) ((othersN (some x) pts).take (j + 1)) = Nu.mul p (prodN p x ((othersN (some x) pts).take j)) (subN p x y) := foldl_take _ _ ey
            rw [ep]
            exact d9.mono (grow_in (ex0 _))
      · rintro σ' H5 ⟨o7, o11, o12, rv, sv, rfl, e5, drv, dsv⟩
        rw [lo, List.take_of_length_le (Nat.le_refl _)] at drv dsv
        obtain ⟨s1, s2⟩ := scaleN_ok hp sx okos
        have sne : scaleN p pt (othersN pt pts) ≠ ofInt p 0 := by
          cases pt with
          | none => exact one0
          | some x => exact pne x mpt
        walk_at "tw"
        refine c_gmV rfl (g4.ex e5) ne_divm ne_divl ?_
        walk_at "tw"
        refine ⟨hp0, g, p, scaleN p pt (othersN pt pts), o, sv, rfl, g4.ex e5, hp, s1, sne, Nu.le_mono (by omega) s2, o4.mono e5, dsv, fun iv H6 e6 d6 => ?_⟩
        walk_at "tw"
        have i2 := Nu.inv_le hp s1 (Nu.le_mono (m := 200) (by omega) s2) (by decide)
        have okP := polyN_ok hp _ okos
        refine ⟨g, p, _, polyN p (othersN pt pts), iv, rv, 200, 83, rfl, g4.ex (e5.trans e6), p0, Nu.inv_ok s1, i2, fun x hx => ⟨(okP x hx).1, Nu.le_mono (by omega) (okP x hx).2⟩, by decide, by rw [polyN_length]; omega, d6.mono (grow_in (ex0 _)), drv.mono e6, fun rv2 H7 e7 d7 => ?_⟩
        have e57 := e6.trans e7
        have e37 := (e4.trans e5).trans e57
        obtain ⟨ar, rs, rfl, har, rr, lr⟩ := rowN_inv (d7.mono (grow_in (ex0 _)))
        have hB7 := e37 _ _ B.at_
        walk_at "tw"
        refine ⟨c_tyL hB7, ?_⟩
        walk_at "tw"
        refine ⟨by show 1 ≤ sizeLine; decide, fun l1 f1 => ?_⟩
        have har1 := (Ex.new (o := .lst [z]) f1) _ _ har
        walk_at "tw"
        have lpoly : ((polyN p (othersN pt pts)).map (Nu.mul p (Nu.inv p (scaleN p pt (othersN pt pts))))).length ≤ 14 := by rw [List.length_map, polyN_length]; omega
        have lrs : rs.length = (othersN pt pts).length + 1 := by rw [lr, List.length_map, polyN_length]
        have olt := othersN_lt mpt
        have ek : (pts.length : Int) - (rs.length : Int) = ((pts.length - rs.length : Nat) : Int) := by omega
        rw [ek]
        refine c_rep upd_same (by omega) fun l2 f2 => ?_
        have e72 := (Ex.new (o := .lst [z]) f1).trans (Ex.new (o := .lst (List.replicate (pts.length - rs.length) z)) f2)
        refine c_catL (e72 _ _ har) upd_same (Nat.le_trans (m := 100) (by rw [List.length_replicate]; omega) (by decide)) fun l3 f3 => ?_
        have e73 := e72.trans (Ex.new (o := .lst (rs ++ List.replicate (pts.length - rs.length) z)) f3)
        walk_at "tw"
        refine c_app (e73 _ _ hB7) (sz_of_le (by rw [B.len]; exact Nat.le_trans (List.length_take_le' _ _) (by simp; omega))) ?_
        have e33 := e37.trans e73
        refine ⟨some u, _, _, _, _, _, _, ws ++ [.ref l3], rfl, ?_⟩
        have hs : ((pts.map (valRow p pts.length pts)).map rowN)[i]? = some (rowN (valRow p pts.length pts pt)) := by
          rw [List.getElem?_map, List.getElem?_map, ept]; rfl
        rw [take_succ hs]
        refine B.push eG e33 ?_
        refine .lst (grow_new (fresh_back (e37.trans e72) f3) upd_same) ?_
        unfold valRow padN
        rw [List.map_append, List.map_replicate]
        have lc2 : ((polyN p (othersN pt pts)).map (Nu.mul p (Nu.inv p (scaleN p pt (othersN pt pts))))).length = rs.length := by rw [lrs, List.length_map, polyN_length]
        rw [lc2]
        have e36 := (e4.trans e5).trans e6
        refine (DxA.append ?_ (DxA.rep (dz.mono (grow_ex (eG.trans B.ex))) _))
        obtain ⟨_, rs', er, har', rr', _⟩ := rowN_inv d7
        cases er
        have same : rs' = rs := by
          have h1 := grow_in (ex0 _) _ _ har'
          rw [har] at h1
          injection h1 with h1
          injection h1 with h1
          exact h1.symm
        rw [same] at rr'
        exact rr'.mono ((grow0_back0 e36).trans (grow_mono (ex0 _) e73))
  · rintro σ' H3 ⟨o6, o7, o8, o9, o10, o11, o12, ws, rfl, B⟩
    walk_at "tw"
    rw [List.take_of_length_le (by simp; omega)] at B
    have d := B.done eG
    rw [hG, grow_ex2 e12 B.ex] at d
    exact q _ _ (e12.trans B.ex) d
end Tw
namespace Tw
open PySem PySem.Spec PyProof.Rows L2 Evl RZ
/-! ## Errors -/
/-- an own error of the class C leaves, with these fields -/
def Ow (K : PySem.W.Frag) (C : Str) (fs : List (Str × V)) (H : Hp) (E : XK) : Prop := ∀ d H', Ex H H' → H d = none → H' d = some (.xd fs) → E (.ref (He.ga K C)) (some d) H'
theorem Ow.back {K : PySem.W.Frag} {C : Str} {fs : List (Str × V)} {H H1 : Hp} {E : XK} (k : Ow K C fs H E) (e : Ex H H1) : Ow K C fs H1 E := fun d H' e' nd at_ => k d H' (e.trans e') (fresh_back e nd) at_
def tmF (w : Str) (n : Int) : List (Str × V) := [("count", .int n), ("what", .str w), ("code", .str "TooMany")]
def bpF (w : Str) : List (Str × V) := [("why", .str w), ("code", .str "BadPoints")]
def ulF (w : Str) : List (Str × V) := [("what", .str w), ("code", .str "Unlike")]
structure TmK (K : PySem.W.Frag) : Prop where
  ox : OexC K (He.ga K "TooMany")
  nC : PySem.W.findIn K (.ref (He.ga K "TooMany")) "code" = some none
  nW : PySem.W.findIn K (.ref (He.ga K "TooMany")) "what" = some none
  nN : PySem.W.findIn K (.ref (He.ga K "TooMany")) "count" = some none
structure BpK (K : PySem.W.Frag) : Prop where
  ox : OexC K (He.ga K "BadPoints")
  nC : PySem.W.findIn K (.ref (He.ga K "BadPoints")) "code" = some none
  nW : PySem.W.findIn K (.ref (He.ga K "BadPoints")) "why" = some none
structure UlK (K : PySem.W.Frag) : Prop where
  ox : OexC K (He.ga K "Unlike")
  nC : PySem.W.findIn K (.ref (He.ga K "Unlike")) "code" = some none
  nW : PySem.W.findIn K (.ref (He.ga K "Unlike")) "what" = some none
/-- what an __init__ of the class C hands on -/
def InitQ (K : PySem.W.Frag) (C : Str) (a : Addr) (fs : List (Str × V)) (H : Hp) (Q : VK) : Prop := H a = some (exo a (He.ga K C) none) ∧
  ∀ d H', H d = none → H' a = some (exo a (He.ga K C) (some d)) → H' d = some (exd d fs) → (∀ b o, b ≠ a → H b = some o → H' b = some o) → Q .non H'
def sp_TooMany_init (K : PySem.W.Frag) : Sp := fun vs H Q _ => ∃ (a : Addr) (w : Str) (n : Int), vs = [.ref a, .str w, .int n] ∧ InitQ K "TooMany" a (tmF w n) H Q
def sp_BadPoints_init (K : PySem.W.Frag) : Sp := fun vs H Q _ => ∃ (a : Addr) (w : Str), vs = [.ref a, .str w] ∧ InitQ K "BadPoints" a (bpF w) H Q
def sp_Unlike_init (K : PySem.W.Frag) : Sp := fun vs H Q _ => ∃ (a : Addr) (w : Str), vs = [.ref a, .str w] ∧ InitQ K "Unlike" a (ulF w) H Q
def t_m_TooMany_init (K : PySem.W.Frag) : TS :=
    (tSeq (tOst K "code" (tVar 0) (tC (.str "TooMany")))
    (tSeq (tOst K "what" (tVar 0) (tVar 1))
    (tOst K "count" (tVar 0) (tVar 2))))
def t_m_BadPoints_init (K : PySem.W.Frag) : TS :=
    (tSeq (tOst K "code" (tVar 0) (tC (.str "BadPoints")))
    (tOst K "why" (tVar 0) (tVar 1)))
def t_m_Unlike_init (K : PySem.W.Frag) : TS :=
    (tSeq (tOst K "code" (tVar 0) (tC (.str "Unlike")))
    (tOst K "what" (tVar 0) (tVar 1)))
theorem pure_tminit (K : PySem.W.Frag) (T : TmK K) (vs : List V) (H : Hp) (Q : VK) (E : XK) (h : sp_TooMany_init K vs H Q E) : t_m_TooMany_init K { nx := fun _ H' => Q .non H', rt := Q } (start ["self", "what", "count"] vs) H := by
  obtain ⟨a, w, n, rfl, ha, q⟩ := h
  unfold t_m_TooMany_init
  refine c_seq ?_
  refine ⟨_, rfl, a, _, rfl, T.ox, T.nC, .inl ⟨ha, fun d hd nd => ?_⟩⟩
  refine c_seq ?_
  refine c_seq ?_
  refine ⟨_, rfl, _, rfl, a, _, rfl, T.ox, T.nW, .inr ⟨d, [("code", .str "TooMany")], upd_same, ?_, by show 1 ≤ 900; decide, ?_⟩⟩
  · rw [upd_ne nd]; exact upd_same
  refine ⟨_, rfl, _, rfl, a, _, rfl, T.ox, T.nN, .inr ⟨d, [("what", .str w), ("code", .str "TooMany")], ?_, ?_, by show 2 ≤ 900; decide, ?_⟩⟩
  · rw [upd_ne nd.symm]; exact upd_same
  · exact upd_same
  refine q d _ hd ?_ upd_same fun b o nb e => ?_
  · rw [upd_ne nd.symm, upd_ne nd.symm]; exact upd_same
  · have nbd : b ≠ d := ne_of_none e hd
    rw [upd_ne nbd, upd_ne nbd, upd_ne nb, upd_ne nbd]
    exact e
theorem pure_bpinit (K : PySem.W.Frag) (T : BpK K) (vs : List V) (H : Hp) (Q : VK) (E : XK) (h : sp_BadPoints_init K vs H Q E) : t_m_BadPoints_init K { nx := fun _ H' => Q .non H', rt := Q } (start ["self", "why"] vs) H := by
  obtain ⟨a, w, rfl, ha, q⟩ := h
  unfold t_m_BadPoints_init
  refine c_seq ?_
  refine ⟨_, rfl, a, _, rfl, T.ox, T.nC, .inl ⟨ha, fun d hd nd => ?_⟩⟩
  refine ⟨_, rfl, _, rfl, a, _, rfl, T.ox, T.nW, .inr ⟨d, [("code", .str "BadPoints")], upd_same, ?_, by show 1 ≤ 900; decide, ?_⟩⟩
  · rw [upd_ne nd]; exact upd_same
  refine q d _ hd ?_ upd_same fun b o nb e => ?_
  · rw [upd_ne nd.symm]; exact upd_same
  · have nbd : b ≠ d := ne_of_none e hd
    rw [upd_ne nbd, upd_ne nb, upd_ne nbd]
    exact e
theorem pure_ulinit (K : PySem.W.Frag) (T : UlK K) (vs : List V) (H : Hp) (Q : VK) (E : XK) (h : sp_Unlike_init K vs H Q E) : t_m_Unlike_init K { nx := fun _ H' => Q .non H', rt := Q } (start ["self", "what"] vs) H := by
  obtain ⟨a, w, rfl, ha, q⟩ := h
  unfold t_m_Unlike_init
  refine c_seq ?_
  refine ⟨_, rfl, a, _, rfl, T.ox, T.nC, .inl ⟨ha, fun d hd nd => ?_⟩⟩
  refine ⟨_, rfl, _, rfl, a, _, rfl, T.ox, T.nW, .inr ⟨d, [("code", .str "Unlike")], upd_same, ?_, by show 1 ≤ 900; decide, ?_⟩⟩
  · rw [upd_ne nd]; exact upd_same
  refine q d _ hd ?_ upd_same fun b o nb e => ?_
  · rw [upd_ne nd.symm]; exact upd_same
  · have nbd : b ≠ d := ne_of_none e hd
    rw [upd_ne nbd, upd_ne nb, upd_ne nbd]
    exact e
/-- what is left when the error is raised -/
theorem raise_end {K : PySem.W.Frag} {C : Str} {fs : List (Str × V)} {H : Hp} {E : XK} {a : Addr} (ha : H a = none) (k : Ow K C fs H E) : ∀ d H', upd H a (exo a (He.ga K C) none) d = none → H' a = some (exo a (He.ga K C) (some d)) → H' d = some (exd d fs) →
    (∀ b o, b ≠ a → upd H a (exo a (He.ga K C) none) b = some o → H' b = some o) → ∃ (d2 : Addr) (fs2 : List (Str × V)), H' a = some (exo a (He.ga K C) (some d2)) ∧ H' d2 = some (exd d2 fs2) ∧ H d2 = none ∧ E (.ref (He.ga K C)) (some d2) (upd (del H' a) d2 (.xd fs2)) := by
  intro d H' hd ea ed old
  have hd0 : H d = none := by
    cases q : H d with
    | none => rfl
    | some o =>
      have : d ≠ a := fun z => by rw [z, ha] at q; cases q
      rw [upd_ne this, q] at hd
      cases hd
  refine ⟨d, fs, ea, ed, hd0, k d _ (fun b o e => ?_) hd0 upd_same⟩
  have nb : b ≠ a := ne_of_none e ha
  rw [upd_ne (ne_of_none e hd0), del_ne nb]
  exact old b o nb (by rw [upd_ne nb]; exact e)
theorem c_rzTm {K : PySem.W.Frag} {σ : L2.St} {H : Hp} {D : Ends} {E : XK} {i : Nat} {n : Int} (hs : σ[i]? = some (some (.int n))) (k : Ow K "TooMany" (tmF "window" n) H E) : tRz (He.ga K "TooMany") (sp_TooMany_init K) E (tCons (tC (.str "window")) (tCons (tVar i) tNil)) D σ H := by
  refine ⟨_, hs, by show 2 ≤ 1000; decide, fun a ha => ⟨a, "window", n, rfl, upd_same, fun d H' hd ea ed old => ⟨rfl, raise_end ha k d H' hd ea ed old⟩⟩⟩
theorem c_rzBp {K : PySem.W.Frag} {σ : L2.St} {H : Hp} {D : Ends} {E : XK} {w : Str} (k : Ow K "BadPoints" (bpF w) H E) : tRz (He.ga K "BadPoints") (sp_BadPoints_init K) E (tCons (tC (.str w)) tNil) D σ H := by
  refine ⟨by show 1 ≤ 1000; decide, fun a ha => ⟨a, w, rfl, upd_same, fun d H' hd ea ed old => ⟨rfl, raise_end ha k d H' hd ea ed old⟩⟩⟩
theorem c_rzUl {K : PySem.W.Frag} {σ : L2.St} {H : Hp} {D : Ends} {E : XK} {w : Str} (k : Ow K "Unlike" (ulF w) H E) : tRz (He.ga K "Unlike") (sp_Unlike_init K) E (tCons (tC (.str w)) tNil) D σ H := by
  refine ⟨by show 1 ≤ 1000; decide, fun a ha => ⟨a, w, rfl, upd_same, fun d H' hd ea ed old => ⟨rfl, raise_end ha k d H' hd ea ed old⟩⟩⟩
def sp_check_lengths (K : PySem.W.Frag) : Sp := fun vs H Q E => ∃ i j : Int, vs = [.int i, .int j] ∧ (i ≤ 6 → j ≤ 6 → Q .non H) ∧ (6 < i → Ow K "TooMany" (tmF "window" i) H E) ∧ (i ≤ 6 → 6 < j → Ow K "TooMany" (tmF "window" j) H E)
def t_f_check_lengths (K : PySem.W.Frag) (E : XK) : TS :=
    (tSeq (tIfS (tTest (tOp (uGt K) (tVar 0) (tC (.int 6)))) (tRz (He.ga K "TooMany") (sp_TooMany_init K) E (tCons (tC (.str "window")) (tCons (tVar 0) tNil))) tNext)
    (tIfS (tTest (tOp (uGt K) (tVar 1) (tC (.int 6)))) (tRz (He.ga K "TooMany") (sp_TooMany_init K) E (tCons (tC (.str "window")) (tCons (tVar 1) tNil))) tNext))
theorem pure_check (K : PySem.W.Frag) (vs : List V) (H : Hp) (Q : VK) (E : XK) (h : sp_check_lengths K vs H Q E) : t_f_check_lengths K E { nx := fun _ H' => Q .non H', rt := Q } (start ["first", "second"] vs) H := by
  obtain ⟨i, j, rfl, q, e1, e2⟩ := h
  unfold t_f_check_lengths
  walk_at "tw"
  refine c_ite (fun h1 => ?_) (fun h1 => ?_)
  · exact c_rzTm rfl (e1 (of_decide_eq_true h1))
  · have h1' : i ≤ 6 := by have := of_decide_eq_false h1; omega
    walk_at "tw"
    refine c_ite (fun h2 => ?_) (fun h2 => ?_)
    · exact c_rzTm rfl (e2 h1' (of_decide_eq_true h2))
    · have h2' : j ≤ 6 := by have := of_decide_eq_false h2; omega
      walk_at "tw"
      exact q h1' h2'
/-! ### points -/
def defNu (p : Int) (k : Nat) : Nu := if 0 < p then ofInt p k else ofInt p (if (k : Int) % 2 = 1 then ((k : Int) + 1) / 2 else -((k : Int) / 2))
def defPts (p : Int) (many : Nat) : List (Option Nu) := ((List.range (many - 1)).map fun k => some (defNu p k)) ++ [none]
def ptsD (pts : List (Option Nu)) : PyData := .list (pts.map ptD)
def sp_default_points (K : PySem.W.Frag) : Sp := fun vs H Q E => ∃ (g : Addr) (p : Int) (many : Nat), vs = [.ref g, .int (many : Int)] ∧ GrAt K H g p ∧ PrN p ∧ 1 ≤ many ∧ many ≤ 1000 ∧
  (0 < p → (many : Int) > p + 1 → Ow K "BadPoints" (bpF "number") H E) ∧ ((p = 0 ∨ (many : Int) ≤ p + 1) → RetN (ptsD (defPts p many)) H Q)
def t_f_default_points (K : PySem.W.Frag) (E : XK) : TS :=
    (tSeq (tIfS (tTest (tOp uNotN (tFld K (tVar 0) "prime") (tC .non))) (tSeq (tIfS (tTest (tOp (uGt K) (tVar 1) (tOp (uAdd K) (tFld K (tVar 0) "prime") (tC (.int 1))))) (tRz (He.ga K "BadPoints") (sp_BadPoints_init K) E (tCons (tC (.str "number")) tNil)) tNext)
    (tRet (tOp (uAdd K) (tLc (iRng1 (tCons (tOp uSub (tVar 1) (tC (.int 1))) tNil)) (gName 2) tYes (tMeth (He.ga K "Ground") "number" (sp_Ground_number K) [.int 1] E0 (tVar 0) (tCons (tVar 2) tNil)) [2]) (tLst (tCons (tC (.str "far")) tNil))))) tNext)
    (tRet (tOp (uAdd K) (tLc (iRng1 (tCons (tOp uSub (tVar 1) (tC (.int 1))) tNil)) (gName 2) tYes (tMeth (He.ga K "Ground") "number" (sp_Ground_number K) [.int 1] E0 (tVar 0) (tCons (tIf (tTest (tOp (uEq K) (tOp uMod (tVar 2) (tC (.int 2))) (tC (.int 1)))) (tOp uFdiv (tOp (uAdd K) (tVar 2) (tC (.int 1))) (tC (.int 2))) (tUn uNeg (tOp uFdiv (tVar 2) (tC (.int 2))))) tNil)) [2]) (tLst (tCons (tC (.str "far")) tNil)))))
theorem pure_default_points (K : PySem.W.Frag) (T : GrK K) (vs : List V) (H : Hp) (Q : VK) (E : XK) (h : sp_default_points K vs H Q E) : t_f_default_points K E { nx := fun _ H' => Q .non H', rt := Q } (start ["ground", "many", "k"] vs) H := by
  obtain ⟨g, p, many, rfl, hg, hp, m1, m2, ke, q⟩ := h
  have fin : ∀ (p : Int) (H2 : Hp) (L : Addr), Ex H H2 → Dx (grow hp0 H H2) (.ref L) (.list (((List.range (many - 1)).map fun k => some (defNu p k)).map ptD)) → RetN (ptsD (defPts p many)) H Q → ∀ M, H2 M = none →
      uAdd K (.ref L) (.ref M) (upd H2 M (.lst [.str "far"])) Q := fun p H2 L e2 d2 q M hM => by
    obtain ⟨_, ls, eL, hl, rl, ll⟩ := d2.lst_map
    cases eL
    have hl2 := grow_in (ex0 _) _ _ hl
    refine c_catL ((Ex.new hM) _ _ hl2) upd_same (Nat.le_trans (m := 2000) (by simp at ll; simp; omega) (by decide)) fun P hP => ?_
    have e3 := e2.trans (Ex.new (o := .lst [.str "far"]) hM)
    refine q _ _ (e3.trans (Ex.new hP)) (.lst (grow_new (fresh_back e3 hP) upd_same) ?_)
    unfold defPts
    rw [List.map_append]
    exact (rl.mono (grow_mono (Ex.refl _) ((Ex.new hM).trans (Ex.new hP)))).append (.cons (.str _) .nil)
  unfold t_f_default_points
  walk_at "tw"
  refine c_gpV rfl T hg ?_
  rcases Int.lt_or_eq_of_le hp.nonneg with p0 | p0
  · rw [grV_pos p0]
    walk_at "tw"
    refine c_gpV rfl T hg ?_
    rw [grV_pos p0]
    walk_at "tw"
    refine c_ite (fun h1 => ?_) (fun h1 => ?_)
    · exact c_rzBp (ke p0 (by have := of_decide_eq_true h1; omega))
    · have q2 := q (.inr (by have := of_decide_eq_false h1; omega))
      walk_at "tw"
      refine ⟨_, rfl, by omega, by omega, fun L hL => ?_⟩
      rw [show ((many : Int) - 1).toNat = many - 1 from by omega]
      refine lcB_range (G := hp0) (fun i => (((List.range (many - 1)).map fun k => some (defNu p k)).map ptD).take i) (ex0 _) hL rfl (fun i _ => pre_len _ (by simp; omega) i) ?_ ?_
      · intro i H2 Q2 N hi e2 td
        walk_at "tw"
        refine ⟨rfl, ?_⟩
        walk_at "tw"
        refine c_gmV rfl (hg.ex e2) ne_np ne_nl ?_
        walk_at "tw"
        refine gnum (G := hp0) (hg.ex e2) hp fun z H3 e3 d3 => ?_
        refine td.1 _ _ _ (take_succ (pre_map hi)) e3 ?_
        show Dx _ z (defNu p i).d
        unfold defNu
        rw [if_pos p0, show (i : Int) = 0 + (i : Int) from by omega]
        exact d3
      · intro H2 e2 d2
        rw [List.take_of_length_le (by simp)] at d2
        walk_at "tw"
        exact ⟨by show 1 ≤ sizeLine; decide, fun M hM => fin p H2 L e2 d2 q2 M hM⟩
  · have p0' : p = 0 := p0.symm
    rw [grV_zero p0']
    have q2 := q (.inl p0')
    walk_at "tw"
    refine ⟨_, rfl, by omega, by omega, fun L hL => ?_⟩
    rw [show ((many : Int) - 1).toNat = many - 1 from by omega]
    refine lcB_range (G := hp0) (fun i => (((List.range (many - 1)).map fun k => some (defNu p k)).map ptD).take i) (ex0 _) hL rfl (fun i _ => pre_len _ (by simp; omega) i) ?_ ?_
    · intro i H2 Q2 N hi e2 td
      have ei : (0 : Int) + (i : Int) = (i : Int) := by omega
      have nu : defNu p i = ofInt p (if (i : Int) % 2 = 1 then ((i : Int) + 1) / 2 else -((i : Int) / 2)) := by unfold defNu; rw [if_neg (by omega)]
      have hs : (((List.range (many - 1)).map fun k => some (defNu p k)).map ptD)[i]? = some (defNu p i).d := pre_map hi
      walk_at "tw"
      refine ⟨rfl, ?_⟩
      walk_at "tw"
      refine c_gmV rfl (hg.ex e2) ne_np ne_nl ?_
      walk_at "tw"
      refine c_ite (fun h1 => ?_) (fun h1 => ?_)
      · walk_at "tw"
        refine gnum (G := hp0) (hg.ex e2) hp fun z H3 e3 d3 => ?_
        refine td.1 _ _ _ (take_succ hs) e3 ?_
        rw [nu, if_pos (by have := of_decide_eq_true h1; omega), ← ei]
        exact d3
      · walk_at "tw"
        refine gnum (G := hp0) (hg.ex e2) hp fun z H3 e3 d3 => ?_
        refine td.1 _ _ _ (take_succ hs) e3 ?_
        rw [nu, if_neg (by have := of_decide_eq_false h1; omega), ← ei]
        exact d3
    · intro H2 e2 d2
      rw [List.take_of_length_le (by simp)] at d2
      walk_at "tw"
      exact ⟨by show 1 ≤ sizeLine; decide, fun M hM => fin p H2 L e2 d2 q2 M hM⟩
/-- two alike among them -/
def alikeB (pts : List (Option Nu)) : Bool := (List.range pts.length).any fun k => (pts.take k).any fun q => decide (some q = pts[k]?)
def sp_checked_points (K : PySem.W.Frag) : Sp := fun vs H Q E => ∃ (G : Hp) (v : V) (pts : List (Option Nu)) (many : Int), vs = [v, .int many] ∧ Ex G H ∧ Dx G v (ptsD pts) ∧ pts.length ≤ 1000 ∧
  ((pts.length : Int) ≠ many → Ow K "BadPoints" (bpF "number") H E) ∧ ((pts.length : Int) = many → alikeB pts = true → Ow K "BadPoints" (bpF "alike") H E) ∧ ((pts.length : Int) = many → alikeB pts = false → RetD (ptsD pts) G H Q)
def t_f_checked_points (K : PySem.W.Frag) (E : XK) : TS :=
    (tSeq (tAsg (tCB (uList K) (tCons (tVar 0) tNil)) (gName 2))
    (tSeq (tIfS (tTest (tOp (uNe K) (tCB (uLen K) (tCons (tVar 2) tNil)) (tVar 1))) (tRz (He.ga K "BadPoints") (sp_BadPoints_init K) E (tCons (tC (.str "number")) tNil)) tNext)
    (tSeq (tIfS (tB (tCB (rAny K) (tCons (tLc (iRng1 (tCons (tVar 1) tNil)) (gName 3) tYes (tOp (uInD K) (tOp (uIx K) (tVar 2) (tVar 3)) (tSl (uSl K) (tVar 2) tNoPart (tPart (tVar 3)))) [3]) tNil))) (tRz (He.ga K "BadPoints") (sp_BadPoints_init K) E (tCons (tC (.str "alike")) tNil)) tNext)
    (tRet (tVar 2)))))
theorem pure_checked_points (K : PySem.W.Frag) (vs : List V) (H : Hp) (Q : VK) (E : XK) (h : sp_checked_points K vs H Q E) : t_f_checked_points K E { nx := fun _ H' => Q .non H', rt := Q } (start ["points", "many", "chosen", "k"] vs) H := by
  obtain ⟨G, v, pts, many, rfl, eG, dv, lp, k1, k2, q⟩ := h
  obtain ⟨a, us, rfl, ha, ru, lu⟩ := dv.lst_map
  unfold t_f_checked_points
  walk_at "tw"
  refine c_listL (SqL.of (eG _ _ ha)) fun l fl => ?_
  have e1 : Ex H (upd H l (.lst us)) := Ex.new fl
  walk_at "tw"
  rw [lu]
  refine c_ite (fun h1 => ?_) (fun h1 => ?_)
  · exact c_rzBp ((k1 (by simpa using h1)).back e1)
  · have hm : (pts.length : Int) = many := by simpa using h1
    walk_at "tw"
    subst hm
    refine ⟨_, rfl, by omega, by omega, fun L hL => ?_⟩
    rw [show ((pts.length : Nat) : Int).toNat = pts.length from by omega]
    have hl1 : upd H l (.lst us) l = some (.lst us) := upd_same
    refine lc_range (lo := 0) (n := pts.length) (fun i H2 => Ex (upd H l (.lst us)) H2 ∧ H2 L = some (.lst (((List.range i).map fun k => (pts.take k).any fun q => decide (some q = pts[k]?)).map V.bl))) ⟨Ex.new hL, upd_same⟩ ?_ ?_
    · rintro i H2 hi ⟨e2, at2⟩
      have hl2 := e2 _ _ hl1
      have hui : us[i]? = some us[i] := List.getElem?_eq_getElem (by omega)
      obtain ⟨pt, ept, mpt, dpt⟩ := ru.map_get hui
      have ei : (0 : Int) + (i : Int) = (i : Int) := by omega
      walk_at "tw"
      refine ⟨rfl, ?_⟩
      walk_at "tw"
      refine c_ixL (v := us[i]) (SqL.of hl2) (by rw [ei]; exact atI_nat hui) ?_
      walk_at "tw"
      refine c_slL (SqL.of hl2) fun m fm => ?_
      have ec : cutV us none (some (0 + (i : Int))) = us.take i := by
        unfold cutV
        rw [ei, HT.sIx_nat]
        show (us.drop 0).take (min i us.length - 0) = us.take i
        rw [List.drop_zero, Nat.sub_zero, Nat.min_eq_left (by omega)]
      rw [ec]
      have e3 := (eG.trans e1).trans (e2.trans (Ex.new (o := .lst (us.take i)) fm))
      refine ⟨m, us.take i, ptD pt, (pts.take i).map ptD, rfl, upd_same, dpt.mono e3, ?_, sh_pt _, fun d hd => ?_, ?_⟩
      · rw [List.map_take]
        exact (ru.take i).mono e3
      · obtain ⟨q, _, rfl⟩ := List.mem_map.mp hd
        exact sh_pt q
      · have nL : L ≠ m := fun z => by rw [z] at at2; rw [fm] at at2; cases at2
        refine ⟨_, by walk_at "look", ?_, (e2.trans (Ex.new fm)).mut hL, ?_⟩
        · rw [List.length_map, List.length_map, List.length_range]
          exact sz_of_le (by omega)
        · rw [List.range_succ, List.map_append, List.map_append]
          have : ((pts.take i).map ptD).any (fun e => PyData.eqv e (ptD pt)) = (pts.take i).any fun q => decide (some q = pts[i]?) := by
            rw [List.any_map, ept]
            congr 1
            funext q
            show PyData.eqv (ptD q) (ptD pt) = _
            rw [pt_eqv]
            by_cases e : q = pt
            · subst e; simp
            · rw [decide_eq_false e, decide_eq_false fun z => e (Option.some.inj z)]
          rw [this]
          exact upd_same
    · rintro H2 ⟨e2, at2⟩
      walk_at "tw"
      refine ⟨L, _, rfl, SqL.of at2, ?_⟩
      have ea : ((List.range pts.length).map fun k => (pts.take k).any fun q => decide (some q = pts[k]?)).any id = alikeB pts := by
        unfold alikeB
        rw [List.any_map]
        rfl
      rw [ea]
      cases hA : alikeB pts with
      | true =>
        walk_at "tw"
        exact c_rzBp ((k2 rfl hA).back (e1.trans e2))
      | false =>
        walk_at "tw"
        exact q rfl hA _ _ (e1.trans e2) (.lst (grow_new fl (e2 _ _ hl1)) (ru.mono (grow_ex eG)))
end Tw
namespace Tw
open PySem PySem.Spec PyProof.Rows L2 Evl RZ
/-! ### powers_at, tells -/
def sp_powers_at (K : PySem.W.Frag) : Sp := fun vs H Q _ => ∃ (g : Addr) (p : Int) (q : Option Nu) (v : V) (size n : Nat), vs = [.ref g, .int (size : Int), v] ∧ GrAt K H g p ∧ PrN p ∧ (∀ x, q = some x → x.ok p ∧ x.le n) ∧ 1 ≤ size ∧ size ≤ 100 ∧ n * size + n + 1 ≤ 7000 ∧ Dx H v (ptD q) ∧ RetN (rowN (powN p q size)) H Q
def t_f_powers_at (K : PySem.W.Frag) : TS :=
    (tSeq (tIfS (tTest (tOp (uEq K) (tVar 2) (tC (.str "far")))) (tRet (tOp (uAdd K) (tLc (iRng1 (tCons (tOp uSub (tVar 1) (tC (.int 1))) tNil)) (gName 5) tYes (tMeth (He.ga K "Ground") "number" (sp_Ground_number K) [.int 1] E0 (tVar 0) (tCons (tC (.int 0)) tNil)) [5]) (tLst (tCons (tMeth (He.ga K "Ground") "number" (sp_Ground_number K) [.int 1] E0 (tVar 0) (tCons (tC (.int 1)) tNil)) tNil)))) tNext)
    (tSeq (tAsg (tLst (tCons (tMeth (He.ga K "Ground") "number" (sp_Ground_number K) [.int 1] E0 (tVar 0) (tCons (tC (.int 1)) tNil)) tNil)) (gName 3))
    (tSeq (tFor (iRng1 (tCons (tOp uSub (tVar 1) (tC (.int 1))) tNil)) (gName 4) (tDrop (tBM K "list" rAppend (tVar 3) (tCons (tMeth (He.ga K "Ground") "mul" (sp_Ground_mul K) [] E0 (tVar 0) (tCons (tOp (uIx K) (tVar 3) (tUn uNeg (tC (.int 1)))) (tCons (tVar 2) tNil))) tNil))))
    (tRet (tVar 3)))))
theorem powN_len (p : Int) (q : Option Nu) (size : Nat) : (powN p q size).length = size := by
  cases q <;> (unfold powN; simp)
theorem pure_powers_at (K : PySem.W.Frag) (vs : List V) (H : Hp) (Q : VK) (E : XK) (h : sp_powers_at K vs H Q E) : t_f_powers_at K { nx := fun _ H' => Q .non H', rt := Q } (start ["ground", "places", "point", "row", "_", "k"] vs) H := by
  obtain ⟨g, p, pt, v, size, n, rfl, hg, hp, ok, s1, s2, hz, dv, q⟩ := h
  have p0 := hp.nonneg
  unfold t_f_powers_at
  walk_at "tw"
  refine c_eqD dv (.str "far") (sh_pt _) (sh_pt none) ?_
  rw [show PyData.eqv (ptD pt) (.str "far") = decide (pt = none) from pt_eqv pt none]
  cases pt with
  | none =>
    refine c_bl ?_
    refine c_iteT rfl ?_
    walk_at "tw"
    refine ⟨_, rfl, by omega, by omega, fun L hL => ?_⟩
    rw [show ((size : Int) - 1).toNat = size - 1 from by omega]
    refine lcB_range (G := hp0) (fun i => (((List.range (size - 1)).map fun _ => ofInt p 0).map Nu.d).take i) (ex0 _) hL rfl (fun i _ => pre_len _ (by simp; omega) i) ?_ ?_
    · intro i H2 Q2 N hi e2 td
      walk_at "tw"
      refine ⟨rfl, ?_⟩
      walk_at "tw"
      refine c_gmV rfl (hg.ex e2) ne_np ne_nl ?_
      walk_at "tw"
      refine gnum (G := hp0) (hg.ex e2) hp fun z H3 e3 d3 => ?_
      exact td.1 _ _ _ (take_succ (pre_map hi)) e3 d3
    · intro H2 e2 d2
      rw [List.take_of_length_le (by simp)] at d2
      obtain ⟨_, ls, eL, hl, rl, ll⟩ := d2.lst_map
      cases eL
      have hl2 := grow_in (ex0 _) _ _ hl
      walk_at "tw"
      refine c_gmV rfl (hg.ex e2) ne_np ne_nl ?_
      walk_at "tw"
      refine gnum (G := hp0) (hg.ex e2) hp fun z H3 e3 d3 => ?_
      walk_at "tw"
      refine ⟨by show 1 ≤ sizeLine; decide, fun M hM => ?_⟩
      have e23 := e3.trans (Ex.new (o := .lst [z]) hM)
      refine c_catL (e23 _ _ hl2) upd_same (Nat.le_trans (m := 2000) (by simp at ll; simp; omega) (by decide)) fun P hP => ?_
      have e4 := e23.trans (Ex.new (o := .lst (ls ++ [z])) hP)
      refine q _ _ (e2.trans e4) (.lst (grow_new (fresh_back (e2.trans e23) hP) upd_same) ?_)
      have ep : powN p none size = ((List.range (size - 1)).map fun _ => ofInt p 0) ++ [ofInt p 1] := by
        obtain ⟨k, rfl⟩ : ∃ k, size = k + 1 := ⟨size - 1, by omega⟩
        show (List.range (k + 1)).map (fun i : Nat => ofInt p (if (i : Int) = ((k + 1 : Nat) : Int) - 1 then 1 else 0)) = _
        rw [List.range_succ, List.map_append, Nat.add_sub_cancel]
        congr 1
        · refine List.map_congr_left fun i hi => ?_
          have := List.mem_range.mp hi
          rw [if_neg (by omega)]
        · show [ofInt p _] = _
          rw [if_pos (by omega)]
      rw [ep, List.map_append]
      exact (rl.mono (grow_mono (Ex.refl _) e4)).append (.cons ((d3.mono (grow0_back0 e2)).mono (grow_mono (ex0 _) ((Ex.new hM).trans (Ex.new hP)))) .nil)
  | some x =>
    obtain ⟨hx, hlx⟩ := ok x rfl
    refine c_bl ?_
    refine c_iteF rfl ?_
    walk_at "tw"
    refine c_gmV rfl hg ne_np ne_nl ?_
    walk_at "tw"
    refine gnum (G := hp0) hg hp fun u H1 e1 d1 => ?_
    walk_at "tw"
    refine ⟨by show 1 ≤ sizeLine; decide, fun L hL => ?_⟩
    walk_at "tw"
    refine ⟨_, rfl, by omega, by omega, ?_⟩
    rw [show ((size : Int) - 1).toNat = size - 1 from by omega]
    have hd : ∀ i, i < size → ((powN p (some x) size).map Nu.d)[i]? = some (pwN p x i).d := fun i hi => by
      unfold powN
      rw [List.map_map, List.getElem?_map, List.getElem?_range hi]
      rfl
    have t1 : ((powN p (some x) size).map Nu.d).take 1 = [(ofInt p 1).d] := by
      rw [take_succ (hd 0 (by omega))]
      rfl
    refine for_range (lo := 0) (n := size - 1) (fun i σ' H2 => ∃ (ws : List V) (o4 : Option V), σ' = [some (.ref g), some (.int (size : Int)), some v, some (.ref L), o4, none] ∧ BldP L hp0 H H2 ws (((powN p (some x) size).map Nu.d).take (i + 1))) ⟨[u], none, rfl, by rw [t1]; exact BldP.start1 e1 hL d1⟩ ?_ ?_
    · rintro i σ' H2 hi ⟨ws, o4, rfl, B⟩
      have hlen : ws.length = i + 1 := by
        rw [B.len, List.length_take]
        unfold powN
        simp
        omega
      have hw : ws[i]? = some ws[i] := List.getElem?_eq_getElem (by omega)
      obtain ⟨d, hd1, hd2⟩ := B.data.get hw
      rw [List.getElem?_take_of_lt (by omega), hd i (by omega)] at hd1
      cases hd1
      have last : atI ws (-1) = some ws[i] := by
        have e : ws = ws.dropLast ++ [ws[i]] := by
          have hne : ws ≠ [] := fun z => by rw [z] at hlen; cases hlen
          have hg' : ws.getLast hne = ws[i] := by rw [List.getLast_eq_getElem]; congr 1; omega
          rw [← hg', List.dropLast_concat_getLast]
        exact (congrArg (fun z => atI z (-1)) e).trans (atI_last _ _)
      obtain ⟨okx, lex⟩ := pwN_ok p0 hx hlx i
      have hB := B.at_
      walk_at "tw"
      refine ⟨c_tyL hB, ?_⟩
      walk_at "tw"
      refine c_gmV rfl (hg.ex B.ex) ne_mulm ne_mull ?_
      walk_at "tw"
      refine ⟨hp0, g, p, _, x, ws[i], v, _, n, rfl, hg.ex B.ex, p0, okx, hx, hd2.mono (grow_in (ex0 _)), dv.mono B.ex, lex, hlx, ?_, fun r H4 e4 d4 => ?_⟩
      · have : n * i ≤ n * size := Nat.mul_le_mul_left _ (by omega)
        omega
      walk_at "tw"
      refine c_app (e4 _ _ hB) (sz_of_le (by omega)) ?_
      refine ⟨ws ++ [r], _, rfl, ?_⟩
      rw [take_succ (hd (i + 1) (by omega))]
      exact B.step (ex0 H) e4 (d4.mono (grow_mono (ex0 _) (Ex.refl _)))
    · rintro σ' H2 ⟨ws, o4, rfl, B⟩
      rw [List.take_of_length_le (by unfold powN; simp; omega)] at B
      walk_at "tw"
      exact q _ _ B.ex (B.done (ex0 H))
/-- bits of a program's rows -/
def TrBits (p : Int) (k l : Nat) (tr : List Trip) : Prop := ∀ q ∈ tr, OkN p k q.1 ∧ OkN p k q.2.1 ∧ OkN p l q.2.2
theorem dotN_ok {p : Int} (h0 : 0 ≤ p) {xs ys : List Nu} (ox : ∀ x ∈ xs, x.ok p) (oy : ∀ y ∈ ys, y.ok p) : (dotN p xs ys).ok p := by
  have : ∀ (zs : List (Nu × Nu)) (t : Nu), t.ok p → (∀ z ∈ zs, z.1.ok p ∧ z.2.ok p) → (dotL p t zs).ok p := fun zs => by
    induction zs with
    | nil => intro t ht _; exact ht
    | cons z zs ih =>
      intro t ht hz
      exact ih _ (Nu.add_ok ht (Nu.mul_ok (hz z List.mem_cons_self).1 (hz z List.mem_cons_self).2)) fun y hy => hz y (List.mem_cons_of_mem _ hy)
  exact this _ _ (ofInt_ok h0) fun z hz => ⟨ox _ (List.of_mem_zip hz).1, oy _ (List.of_mem_zip hz).2⟩
theorem dotL_le {p n m : Nat} : True := trivial
theorem dotN_le {p : Int} (h0 : 0 ≤ p) {n m : Nat} {xs ys : List Nu} (ox : OkN p n xs) (oy : OkN p m ys) : (dotN p xs ys).le ((n + m + 1) * xs.length + 1) := by
  have key : ∀ (zs : List (Nu × Nu)) (t : Nu) (k : Nat), t.ok p → t.le k → (∀ z ∈ zs, (z.1.ok p ∧ z.1.le n) ∧ z.2.ok p ∧ z.2.le m) → (dotL p t zs).le (k + (n + m + 1) * zs.length) := fun zs => by
    induction zs with
    | nil => intro t k ht lt _; exact lt
    | cons z zs ih =>
      intro t k ht lt hz
      obtain ⟨⟨h1, h2⟩, h3, h4⟩ := hz z List.mem_cons_self
      have r := ih (Nu.add p t (Nu.mul p z.1 z.2)) (k + (n + m) + 1) (Nu.add_ok ht (Nu.mul_ok h1 h3)) (Nu.add_le ht (Nu.mul_ok h1 h3) lt (Nu.mul_le h1 h3 h2 h4)) fun y hy => hz y (List.mem_cons_of_mem _ hy)
      refine Nu.le_mono ?_ r
      rw [List.length_cons, Nat.mul_add, Nat.mul_one]
      omega
  have r := key (xs.zip ys) (ofInt p 0) 1 (ofInt_ok h0) (ofInt0_le p) fun z hz => ⟨ox _ (List.of_mem_zip hz).1, oy _ (List.of_mem_zip hz).2⟩
  refine Nu.le_mono ?_ r
  have : (xs.zip ys).length ≤ xs.length := by rw [List.length_zip]; omega
  have := Nat.mul_le_mul_left (n + m + 1) this
  omega
/-- the numbers that a program tells at a and b -/
def numsN (p : Int) (tr : List Trip) (a b : List Nu) : List Nu := tr.map fun q => Nu.mul p (dotN p q.1 a) (dotN p q.2.1 b)
/-- a dot that stays small enough: its answer has at most k bits -/
def DotC (p : Int) (k : Nat) (xs ys : List Nu) : Prop := ∃ n m, OkN p n xs ∧ OkN p m ys ∧ n + m ≤ 7000 ∧ (p = 0 → DotP (n + m) (xs.zip ys)) ∧ (dotN p xs ys).le k
theorem DotC.naive {p : Int} {n m k : Nat} {xs ys : List Nu} (h0 : 0 ≤ p) (ox : OkN p n xs) (oy : OkN p m ys) (h1 : n + m ≤ 7000) (h2 : (n + m + 2) * xs.length ≤ 7000) (hk : (n + m + 1) * xs.length + 1 ≤ k) : DotC p k xs ys :=
  ⟨n, m, ox, oy, h1, fun _ => DotP.naive h2, Nu.le_mono hk (dotN_le h0 ox oy)⟩
def sp_LeftRight_tells (K : PySem.W.Frag) : Sp := fun vs H Q _ => ∃ (x g t l : Addr) (p : Int) (m r n : Nat) (tr : List Trip) (va vb : V) (a b : List Nu) (k1 k2 bw : Nat), vs = [.ref x, va, vb] ∧ LrObj K H x g t l p m r n tr ∧ 0 ≤ p ∧ p ≤ 10007 ∧ TrOk m r n tr ∧ Dx H va (rowN a) ∧ Dx H vb (rowN b) ∧ a.length = m ∧ b.length = r ∧
  (∀ q ∈ tr, DotC p k1 q.1 a ∧ DotC p k2 q.2.1 b ∧ OkN p bw q.2.2) ∧ n ≤ 10000 ∧ m ≤ 10000 ∧ r ≤ 10000 ∧ tr.length ≤ 1000 ∧ k1 + k2 + bw ≤ 7000 ∧
  (p = 0 → ∀ i, i < n → DotP (k1 + k2 + bw) ((numsN p tr a b).zip (col p i (tr.map fun q => q.2.2)))) ∧ RetN (rowN (combN p (numsN p tr a b) (tr.map fun q => q.2.2) n)) H Q
def t_m_LeftRight_tells (K : PySem.W.Frag) : TS :=
    (tSeq (tAsg (tFld K (tVar 0) "ground") (gName 3))
    (tSeq (tAsg (tLc (iSeq K (tFld K (tVar 0) "_triples")) (gTup K 3 (gCons (gName 5) (gCons (gName 6) (gCons (gName 7) gNil)))) tYes (tMeth (He.ga K "Ground") "mul" (sp_Ground_mul K) [] E0 (tVar 3) (tCons (tCall (sp_dot K) [] E0 (tCons (tVar 3) (tCons (tVar 5) (tCons (tVar 1) tNil)))) (tCons (tCall (sp_dot K) [] E0 (tCons (tVar 3) (tCons (tVar 6) (tCons (tVar 2) tNil)))) tNil))) [5, 6, 7]) (gName 4))
    (tRet (tCall (sp_blend K) [] E0 (tCons (tVar 3) (tCons (tVar 4) (tCons (tLc (iSeq K (tFld K (tVar 0) "_triples")) (gTup K 3 (gCons (gName 5) (gCons (gName 6) (gCons (gName 7) gNil)))) tYes (tVar 7) [5, 6, 7]) (tCons (tOp (uIx K) (tFld K (tVar 0) "_sizes") (tC (.int 2))) tNil))))))))
theorem pure_tells (K : PySem.W.Frag) (T : LrK K) (vs : List V) (H : Hp) (Q : VK) (E : XK) (h : sp_LeftRight_tells K vs H Q E) : t_m_LeftRight_tells K { nx := fun _ H' => Q .non H', rt := Q } (start ["self", "a", "b", "ground", "numbers", "u", "v", "w"] vs) H := by
  obtain ⟨x, g, t, l, p, m, r, n, tr, va, vb, a, b, z1, z2, bw, rfl, ho, p0, p1, tok, dva, dvb, la, lb, hc, n100, m100, r100, l1000, z3, z4, q⟩ := h
  obtain ⟨_, us, el, hl, ru, lu⟩ := ho.tr.lst_map
  cases el
  unfold t_m_LeftRight_tells
  walk_at "tw"
  refine c_lrG rfl T ho ?_
  walk_at "tw"
  refine c_lrT rfl T ho ?_
  refine ⟨l, rfl, .inl ⟨⟨_, SqL.of hl⟩, ?_⟩⟩
  intro L hL
  refine lcB_list (G := hp0) (fun i => ((numsN p tr a b).map Nu.d).take i) (ex0 _) hL hl rfl (fun i _ => pre_len _ (by unfold numsN; simp; omega) i) ?_ ?_
  · intro i u H2 Q2 N hu e2 td
    obtain ⟨w, ew, mw, dw⟩ := ru.map_get hu
    obtain ⟨A, v1, v2, v3, rfl, hA, d1, d2, d3⟩ := (dw.mono e2).three_inv
    obtain ⟨w1, w2, w3⟩ := tok w mw
    obtain ⟨⟨n1, n2, u1, u2, u3, u4, u5⟩, ⟨n3, n4, v1', v2', v3', v4', v5'⟩, b3⟩ := hc w mw
    walk_at "tw"
    refine ⟨rfl, ?_⟩
    walk_at "tw"
    refine c_gmV rfl (ho.gr.ex e2) ne_mulm ne_mull ?_
    walk_at "tw"
    refine ⟨g, p, w.1, a, v1, va, n1, n2, rfl, ho.gr.ex e2, p0, p1, u1, u2, by omega, by omega, u4, u3, d1, dva.mono e2, fun r1 H3 e3 k1 => ?_⟩
    walk_at "tw"
    refine ⟨g, p, w.2.1, b, v2, vb, n3, n4, rfl, ho.gr.ex (e2.trans e3), p0, p1, v1', v2', by omega, by omega, v4', v3', d2.mono e3, dvb.mono (e2.trans e3), fun r2 H4 e4 k2 => ?_⟩
    walk_at "tw"
    refine ⟨hp0, g, p, dotN p w.1 a, dotN p w.2.1 b, r1, r2, _, _, rfl, ho.gr.ex ((e2.trans e3).trans e4), p0, dotN_ok p0 (fun x hx => (u1 x hx).1) (fun x hx => (u2 x hx).1), dotN_ok p0 (fun x hx => (v1' x hx).1) (fun x hx => (v2' x hx).1), (k1.mono (grow_in (ex0 _))).mono e4, k2.mono (grow_in (ex0 _)), u5, v5', by omega, fun r3 H5 e5 k3 => ?_⟩
    refine td.1 _ _ _ (take_succ ?_) ((e3.trans e4).trans e5) (k3.mono (grow0_back0 (e3.trans e4)))
    unfold numsN
    rw [List.getElem?_map, List.getElem?_map, ew]
    rfl
  · intro H2 e2 d2
    rw [List.take_of_length_le (by unfold numsN; simp; omega)] at d2
    have d2' : Dx H2 (.ref L) (rowN (numsN p tr a b)) := d2.mono (grow_in (ex0 _))
    clear d2
    have hl2 := e2 _ _ hl
    walk_at "tw"
    refine c_lrT rfl T (ho.ex e2) ?_
    refine ⟨l, rfl, .inl ⟨⟨_, SqL.of hl2⟩, ?_⟩⟩
    intro M hM
    refine lcB_list (G := H2) (fun i => ((tr.map fun q => q.2.2).map rowN).take i) (Ex.refl _) hM hl2 rfl (fun i _ => pre_len _ (by simp; omega) i) ?_ ?_
    · intro i u H3 Q2 N hu e3 td
      obtain ⟨w, ew, mw, dw⟩ := ru.map_get hu
      obtain ⟨A, v1, v2, v3, rfl, hA, d1, d2, d3⟩ := (dw.mono (e2.trans e3)).three_inv
      obtain ⟨A', v1', v2', v3', eA, hA', d1', d2', d3'⟩ := (dw.mono e2).three_inv
      cases eA
      have := e3 _ _ hA'
      rw [hA] at this
      injection this with this
      injection this with this
      injection this with i1 this
      injection this with i2 this
      injection this with i3 this
      subst i3
      walk_at "tw"
      refine ⟨rfl, ?_⟩
      walk_at "tw"
      exact td.1 _ _ _ (take_succ (by rw [List.getElem?_map, List.getElem?_map, ew]; rfl)) (Ex.refl _) (d3'.mono (grow_ex e3))
    · intro H3 e3 d3
      rw [List.take_of_length_le (by simp; omega)] at d3
      have d3' : Dx H3 (.ref M) (tblN (tr.map fun q => q.2.2)) := d3.mono (grow_in e3)
      have sz3 := (ho.ex (e2.trans e3)).sz
      walk_at "tw"
      refine c_lrS rfl T (ho.ex (e2.trans e3)) ?_
      walk_at "tw"
      refine ⟨g, p, numsN p tr a b, tr.map fun q => q.2.2, .ref L, .ref M, n, z1 + z2, bw, rfl, ho.gr.ex (e2.trans e3), p0, p1, fun y hy => ?_, fun w hw => ?_, by unfold numsN; simp, by unfold numsN; simp; omega, by omega, z4, by omega, d2'.mono e3, d3', fun o H4 e4 d4 => q o H4 ((e2.trans e3).trans e4) (d4.mono (grow0_back0 (e2.trans e3)))⟩
      · obtain ⟨w, mw, rfl⟩ := List.mem_map.mp hy
        obtain ⟨⟨n1, n2, u1, u2, u3, u4, u5⟩, ⟨n3, n4, v1', v2', v3', v4', v5'⟩, b3⟩ := hc w mw
        have k1 := dotN_ok p0 (fun x hx => (u1 x hx).1) (fun x hx => (u2 x hx).1)
        have k2 := dotN_ok p0 (fun x hx => (v1' x hx).1) (fun x hx => (v2' x hx).1)
        exact ⟨Nu.mul_ok k1 k2, Nu.mul_le k1 k2 u5 v5'⟩
      · obtain ⟨w, mw, rfl⟩ := List.mem_map.mp hw
        exact ⟨(hc w mw).2.2, (tok w mw).2.2⟩
/-- the conditions by bits alone -/
theorem tells_bits {p : Int} {m r n bu bw ba : Nat} {tr : List Trip} {a b : List Nu} (h0 : 0 ≤ p) (tok : TrOk m r n tr) (tb : TrBits p bu bw tr) (oa : OkN p ba a) (ob : OkN p ba b) (z1 : (bu + ba + 2) * m ≤ 3000) (z2 : (bu + ba + 2) * r ≤ 3000) (z3 : bu + ba ≤ 3000)
    (z4 : ((bu + ba + 1) * m + (bu + ba + 1) * r + bw + 4) * tr.length ≤ 7000) (z5 : (bu + ba + 1) * m + (bu + ba + 1) * r + bw + 4 ≤ 7000) :
    (∀ q ∈ tr, DotC p ((bu + ba + 1) * m + 1) q.1 a ∧ DotC p ((bu + ba + 1) * r + 1) q.2.1 b ∧ OkN p bw q.2.2) ∧ ((bu + ba + 1) * m + 1) + ((bu + ba + 1) * r + 1) + bw ≤ 7000 ∧
    (p = 0 → ∀ i, i < n → DotP (((bu + ba + 1) * m + 1) + ((bu + ba + 1) * r + 1) + bw) ((numsN p tr a b).zip (col p i (tr.map fun q => q.2.2)))) := by
  refine ⟨fun q hq => ?_, by omega, fun _ i _ => .inl ?_⟩
  · obtain ⟨w1, w2, w3⟩ := tok q hq
    obtain ⟨b1, b2, b3⟩ := tb q hq
    exact ⟨.naive h0 b1 oa (by omega) (by rw [w1]; omega) (by rw [w1]; exact Nat.le_refl _), .naive h0 b2 ob (by omega) (by rw [w2]; omega) (by rw [w2]; exact Nat.le_refl _), b3⟩
  · refine Nat.le_trans (Nat.mul_le_mul (show _ ≤ (bu + ba + 1) * m + (bu + ba + 1) * r + bw + 4 by omega) (show _ ≤ tr.length from ?_)) z4
    rw [List.length_zip]
    unfold numsN
    rw [List.length_map]
    exact Nat.min_le_left _ _
end Tw
namespace Tw
open PySem PySem.Spec PyProof.Rows L2 Evl RZ
/-! ### rectangle -/
/-- the triple of a point -/
def rectT (p : Int) (m r z : Nat) (pts : List (Option Nu)) (q : Option Nu) : Trip := (powN p q m, powN p q r, valRow p z pts q)
def rectTr (p : Int) (m r : Nat) (pts : List (Option Nu)) : List Trip := pts.map (rectT p m r pts.length pts)
/-- points that are unlike: their values' scales are not nought -/
def ScOk (p : Int) (pts : List (Option Nu)) : Prop := ∀ x, some x ∈ pts → prodN p x (othersN (some x) pts) ≠ ofInt p 0
/-- which points: the default ones, or those handed in -/
def sp_rectangle (K : PySem.W.Frag) : Sp := fun vs H Q E => ∃ (G : Hp) (g : Addr) (p : Int) (m r : Nat) (v : V), vs = [.ref g, .int (m : Int), .int (r : Int), v] ∧ Ex G H ∧ GrAt K G g p ∧ PrN p ∧ ofInt p 1 ≠ ofInt p 0 ∧ 1 ≤ m ∧ 1 ≤ r ∧ m ≤ 100 ∧ r ≤ 100 ∧
  (6 < m → Ow K "TooMany" (tmF "window" m) H E) ∧ (m ≤ 6 → 6 < r → Ow K "TooMany" (tmF "window" r) H E) ∧ (m ≤ 6 → r ≤ 6 →
    (v = .non ∧ (0 < p → ((m + r - 1 : Nat) : Int) > p + 1 → Ow K "BadPoints" (bpF "number") H E) ∧
      ((p = 0 ∨ ((m + r - 1 : Nat) : Int) ≤ p + 1) → PtOk p (defPts p (m + r - 1)) ∧ ScOk p (defPts p (m + r - 1)) ∧ ∀ x H2, Ex H H2 → LrAt K (grow G H H2) x p m r (m + r - 1) (rectTr p m r (defPts p (m + r - 1))) → Q (.ref x) H2)) ∨
    (∃ pts, v ≠ .non ∧ Dx G v (ptsD pts) ∧ pts.length ≤ 1000 ∧ (pts.length ≠ m + r - 1 → Ow K "BadPoints" (bpF "number") H E) ∧ (pts.length = m + r - 1 → alikeB pts = true → Ow K "BadPoints" (bpF "alike") H E) ∧
      (pts.length = m + r - 1 → alikeB pts = false → PtOk p pts ∧ ScOk p pts ∧ ∀ x H2, Ex H H2 → LrAt K (grow G H H2) x p m r (m + r - 1) (rectTr p m r pts) → Q (.ref x) H2)))
def t_f_rectangle (K : PySem.W.Frag) (E : XK) : TS :=
    (tSeq (tDrop (tCall (sp_check_lengths K) [] E (tCons (tVar 1) (tCons (tVar 2) tNil))))
    (tSeq (tAsg (tOp uSub (tOp (uAdd K) (tVar 1) (tVar 2)) (tC (.int 1))) (gName 4))
    (tSeq (tAsg (tIf (tTest (tOp uIsN (tVar 3) (tC .non))) (tCall (sp_default_points K) [] E (tCons (tVar 0) (tCons (tVar 4) tNil))) (tCall (sp_checked_points K) [] E (tCons (tVar 3) (tCons (tVar 4) tNil)))) (gName 5))
    (tSeq (tAsg (tLst tNil) (gName 6))
    (tSeq (tFor (iZipA K (tCons (tVar 5) (tCons (tCall (sp_value_rows K) [] E0 (tCons (tVar 0) (tCons (tVar 4) (tCons (tVar 5) tNil)))) tNil))) (gTup K 2 (gCons (gName 7) (gCons (gName 8) gNil))) (tDrop (tBM K "list" rAppend (tVar 6) (tCons (tTup (tCons (tCall (sp_powers_at K) [] E0 (tCons (tVar 0) (tCons (tVar 1) (tCons (tVar 7) tNil)))) (tCons (tCall (sp_powers_at K) [] E0 (tCons (tVar 0) (tCons (tVar 2) (tCons (tVar 7) tNil)))) (tCons (tVar 8) tNil)))) tNil))))
    (tRet (tMake (He.ga K "LeftRight") (sp_LeftRight_init K) [] E0 (tCons (tVar 0) (tCons (tLst (tCons (tVar 1) (tCons (tVar 2) (tCons (tVar 4) tNil)))) (tCons (tVar 6) tNil))))))))))
theorem valRow_len {p : Int} {pts : List (Option Nu)} {q : Option Nu} (h : q ∈ pts) : (valRow p pts.length pts q).length = pts.length := by
  have := othersN_lt h
  unfold valRow padN
  rw [List.length_append, List.length_map, polyN_length, List.length_replicate]
  omega
theorem rect_go (K : PySem.W.Frag) (T : LrK K) {G H H1 : Hp} {g : Addr} {p : Int} {m r : Nat} {Q : VK} {pts : List (Option Nu)} {v0 v1 : V} (e1 : Ex H H1) (eG : Ex G H) (hg : GrAt K G g p) (hp : PrN p) (one0 : ofInt p 1 ≠ ofInt p 0) (m1 : 1 ≤ m) (r1 : 1 ≤ r) (m6 : m ≤ 6) (r6 : r ≤ 6) (hl : pts.length = m + r - 1)
    (dv : Dx (grow G H H1) v1 (ptsD pts)) (pok : PtOk p pts) (sok : ScOk p pts) (q : ∀ x H2, Ex H H2 → LrAt K (grow G H H2) x p m r (m + r - 1) (rectTr p m r pts) → Q (.ref x) H2) :
    tSeq (tAsg (tLst tNil) (gName 6))
    (tSeq (tFor (iZipA K (tCons (tVar 5) (tCons (tCall (sp_value_rows K) [] E0 (tCons (tVar 0) (tCons (tVar 4) (tCons (tVar 5) tNil)))) tNil))) (gTup K 2 (gCons (gName 7) (gCons (gName 8) gNil))) (tDrop (tBM K "list" rAppend (tVar 6) (tCons (tTup (tCons (tCall (sp_powers_at K) [] E0 (tCons (tVar 0) (tCons (tVar 1) (tCons (tVar 7) tNil)))) (tCons (tCall (sp_powers_at K) [] E0 (tCons (tVar 0) (tCons (tVar 2) (tCons (tVar 7) tNil)))) (tCons (tVar 8) tNil)))) tNil))))
    (tRet (tMake (He.ga K "LeftRight") (sp_LeftRight_init K) [] E0 (tCons (tVar 0) (tCons (tLst (tCons (tVar 1) (tCons (tVar 2) (tCons (tVar 4) tNil)))) (tCons (tVar 6) tNil)))))) { nx := fun _ H' => Q .non H', rt := Q }
    [some (.ref g), some (.int (m : Int)), some (.int (r : Int)), some v0, some (.int ((m : Int) + (r : Int) - 1)), some v1, none, none, none] H1 := by
  have ez : (m : Int) + (r : Int) - 1 = (pts.length : Int) := by omega
  have eG1 : Ex (grow G H H1) H1 := grow_in (eG.trans e1)
  have hg1 : GrAt K (grow G H H1) g p := hg.ex (grow_ex eG)
  generalize hGG : grow G H H1 = GG at dv eG1 hg1
  walk_at "tw"
  refine ⟨by show 0 ≤ sizeLine; decide, fun L hL => ?_⟩
  have e2 : Ex H1 (upd H1 L (.lst [])) := Ex.new hL
  walk_at "tw"
  refine c_cons (c_var rfl ?_)
  walk_at "tw"
  rw [ez]
  refine ⟨g, p, pts, v1, rfl, hg1.ex (eG1.trans e2), hp, dv.mono (eG1.trans e2), pok, by omega, sok, one0, fun w H2 e3 d3 => ?_⟩
  have e13 := e2.trans e3
  obtain ⟨a, us, rfl, ha, ru, lu⟩ := dv.lst_map
  obtain ⟨b, ws, rfl, hb, rw', lw⟩ := d3.lst_map
  have ha2 := (eG1.trans e13) _ _ ha
  have hb2 := grow_in (ex0 _) _ _ hb
  refine c_nil ⟨a, b, us, ws, rfl, .inl ⟨SqL.of ha2, SqL.of hb2, ?_⟩⟩
  have lws : us.length = ws.length := by rw [lu, lw, List.length_map]
  have Z := zipJ_L (K := K) (a := a) (b := b) lws
  -- what value_rows made
  obtain ⟨S, hS⟩ : ∃ S, S = grow hp0 (upd H1 L (.lst [])) H2 := ⟨_, rfl⟩
  rw [← hS] at d3 hb rw'
  have eS : Ex S H2 := by rw [hS]; exact grow_in (ex0 _)
  have nS : ∀ c o, S c = some o → upd H1 L (.lst []) c = none := fun c o h => by
    cases q : upd H1 L (.lst []) c with
    | none => rfl
    | some u => rw [hS, grow_old q] at h; cases h
  have SL : S L = none := by
    cases q : S L with
    | none => rfl
    | some o => have := nS L o q; rw [upd_same] at this; cases this
  have B0 : BldP L GG H1 H2 [] [] := (BldP.start hL).ext e3
  have tl : (rectTr p m r pts).length = pts.length := by unfold rectTr; rw [List.length_map]
  refine forZ Z (fun i σ' H' => ∃ (o7 o8 : Option V) (vs : List V), σ' = [some (.ref g), some (.int (m : Int)), some (.int (r : Int)), some v0, some (.int (pts.length : Int)), some (.ref a), some (.ref L), o7, o8] ∧ Ex S H' ∧ BldP L GG H1 H' vs (((rectTr p m r pts).map tripD).take i))
    ⟨none, none, [], rfl, eS, B0⟩ (fun i σ' H' ⟨_, _, _, _, e4, B⟩ => ⟨SqL.of ((eG1.trans B.ex) _ _ ha), SqL.of (e4 _ _ hb)⟩) ?_ ?_
  · rintro i x y T' σ' H' hx hy ⟨o7, o8, vs, rfl, e4, B⟩ hT
    obtain ⟨pt, ept, mpt, dpt⟩ := ru.map_get hx
    obtain ⟨row, erow, mrow, drow⟩ := rw'.map_get hy
    have sx : ∀ x, pt = some x → x.ok p ∧ x.le 5 := fun x e => pok x (by rw [← e]; exact mpt)
    have e5 : Ex H' (upd H' T' (.tup [x, y])) := Ex.new hT
    have hB := B.at_
    have gx := hg1.ex (eG1.trans B.ex)
    have dx := dpt.mono (eG1.trans B.ex)
    walk_at "tw"
    refine ⟨c_tyL (e5 _ _ hB), ?_⟩
    walk_at "tw"
    refine ⟨g, p, pt, x, m, 5, rfl, gx.ex e5, hp, sx, m1, by omega, by omega, dx.mono e5, fun u1 H6 e6 d6 => ?_⟩
    walk_at "tw"
    refine ⟨g, p, pt, x, r, 5, rfl, gx.ex (e5.trans e6), hp, sx, r1, by omega, by omega, dx.mono (e5.trans e6), fun u2 H7 e7 d7 => ?_⟩
    walk_at "tw"
    refine ⟨by show 3 ≤ sizeLine; decide, fun T3 fT3 => ?_⟩
    have e8 : Ex H7 (upd H7 T3 (.tup [u1, u2, y])) := Ex.new fT3
    have e58 := ((e5.trans e6).trans e7).trans e8
    walk_at "tw"
    refine c_app (e58 _ _ hB) (sz_of_le (by rw [B.len]; exact Nat.le_trans (List.length_take_le' _ _) (by simp; omega))) ?_
    refine ⟨_, _, vs ++ [.ref T3], rfl, ?_, ?_⟩
    · intro c o hc
      have z : c ≠ L := fun z => by rw [z, SL] at hc; cases hc
      rw [upd_ne z]
      exact e58 _ _ (e4 _ _ hc)
    · have hs : ((rectTr p m r pts).map tripD)[i]? = some (tripD (rectT p m r pts.length pts pt)) := by
        unfold rectTr
        rw [List.getElem?_map, List.getElem?_map, ept]
        rfl
      rw [take_succ hs]
      have er : row = valRow p pts.length pts pt := by
        rw [List.getElem?_map, ept] at erow
        exact (Option.some.inj erow).symm
      rw [er] at drow
      refine B.step eG1 e58 ?_
      have k12 : Ex S (grow (grow GG (upd H1 L (.lst [])) H') H' (upd H7 T3 (.tup [u1, u2, y]))) := fun c o h => grow_ex (grow_in (eG1.trans B.ex)) _ _ (grow_new (nS c o h) (e4 _ _ h))
      exact .tup (grow_new (fresh_back ((e5.trans e6).trans e7) fT3) upd_same) (.cons (d6.mono ((grow0_back0 e5).trans (grow_mono (Ex.refl _) (e7.trans e8)))) (.cons (d7.mono ((grow0_back0 (e5.trans e6)).trans (grow_mono (Ex.refl _) e8))) (.cons (drow.mono k12) .nil)))
  · rintro σ' H' ⟨o7, o8, vs, rfl, e4, B⟩
    rw [lu, List.take_of_length_le (by rw [List.length_map, tl]; exact Nat.le_refl _)] at B
    have dL := B.done eG1
    walk_at "tw"
    refine ⟨by show 3 ≤ sizeLine; decide, fun Zl fZ => ?_⟩
    have e9 : Ex H' (upd H' Zl (.lst [.int (m : Int), .int (r : Int), .int (pts.length : Int)])) := Ex.new fZ
    have e19 := B.ex.trans e9
    have dZ : Dx (grow GG H1 (upd H' Zl (.lst [.int (m : Int), .int (r : Int), .int (pts.length : Int)]))) (.ref Zl) (.list [.int (m : Int), .int (r : Int), .int (pts.length : Int)]) :=
      .lst (grow_new (fresh_back B.ex fZ) upd_same) (.cons (.int _) (.cons (.int _) (.cons (.int _) .nil)))
    have dL9 := dL.mono (grow_mono (Ex.refl GG) e9)
    generalize upd H' Zl (.lst [.int (m : Int), .int (r : Int), .int (pts.length : Int)]) = H9 at e9 e19 dZ dL9 ⊢
    walk_at "tw"
    intro x dx hx hdx ndx
    have eGi : Ex (grow GG H1 H9) H9 := grow_in (eG1.trans e19)
    have e10 : Ex H9 (upd (upd H9 dx (.own x)) x (.ins (He.ga K "LeftRight") dx [])) := (Ex.new hdx).mut hx
    have hx10 : upd (upd H9 dx (.own x)) x (.ins (He.ga K "LeftRight") dx []) x = some (.ins (He.ga K "LeftRight") dx []) := upd_same
    have tok : TrOk m r pts.length (rectTr p m r pts) := fun w hw => by
      obtain ⟨pt, mpt, rfl⟩ := List.mem_map.mp hw
      exact ⟨powN_len p pt m, powN_len p pt r, valRow_len mpt⟩
    generalize upd (upd H9 dx (.own x)) x (.ins (He.ga K "LeftRight") dx []) = H10 at e10 hx10 ⊢
    refine ⟨grow GG H1 H9, x, g, dx, p, m, r, pts.length, rectTr p m r pts, .ref Zl, .ref L, rfl, hx10, eGi.trans e10, fresh_back eGi hx, hg1.ex (grow_ex eG1), dZ, dL9, tok, by rw [tl]; omega, by omega, by omega, by omega, fun H11 t l x11 k11 ht hl' => ⟨rfl, ?_⟩⟩
    have eH9 : Ex H H9 := e1.trans e19
    have e11 : Ex H H11 := fun c o h => x11 _ _ (fun z => by rw [z] at h; rw [eH9 _ _ h] at hx; cases hx) (e10 _ _ (eH9 _ _ h))
    have hG9 : grow GG H1 H9 = grow G H H9 := by rw [← hGG]; exact grow_ex2 e1 e19
    have sol : Ex (grow (grow GG H1 H9) H10 H11) (grow G H H11) := fun c o h => by
      rw [hG9] at h
      cases z10 : H10 c with
      | none =>
        unfold grow at h
        rw [z10] at h
        have h0 : H c = none := fresh_back (eH9.trans e10) z10
        exact grow_new h0 h
      | some u =>
        rw [grow_old z10] at h
        cases z0 : H c with
        | some u0 =>
          rw [grow_old z0] at h ⊢
          exact h
        | none =>
          unfold grow at h
          rw [z0] at h
          have cx : c ≠ x := fun z => by rw [z, hx] at h; cases h
          exact grow_new z0 (x11 _ _ cx (e10 _ _ h))
    rw [hl] at ht
    have hx0 : H x = none := fresh_back eH9 hx
    exact q x H11 e11 ⟨g, t, l, ⟨dx, grow_new hx0 k11⟩, hg.ex (grow_ex eG), sol _ _ ht, hl'.mono sol⟩
theorem pure_rectangle (K : PySem.W.Frag) (T : LrK K) (vs : List V) (H : Hp) (Q : VK) (E : XK) (h : sp_rectangle K vs H Q E) : t_f_rectangle K E { nx := fun _ H' => Q .non H', rt := Q } (start ["ground", "m", "r", "points", "many", "chosen", "triples", "point", "row"] vs) H := by
  obtain ⟨G, g, p, m, r, v, rfl, eG, hg, hp, one0, m1, r1, m100, r100, k1, k2, q⟩ := h
  have ez : ((m + r - 1 : Nat) : Int) = (m : Int) + (r : Int) - 1 := by omega
  unfold t_f_rectangle
  walk_at "tw"
  refine ⟨m, r, rfl, fun a b => ?_, fun a => k1 (by omega), fun a b => k2 (by omega) (by omega)⟩
  have m6 : m ≤ 6 := by omega
  have r6 : r ≤ 6 := by omega
  walk_at "tw"
  rcases q m6 r6 with ⟨rfl, kb, q2⟩ | ⟨pts, nv, dv, l1000, kb, ka, q2⟩
  · refine c_iteT rfl ?_
    walk_at "tw"
    refine ⟨g, p, m + r - 1, by rw [ez]; exact rfl, hg.ex eG, hp, by omega, by omega, kb, fun hc v1 H1 e1 d1 => ?_⟩
    obtain ⟨pok, sok, q3⟩ := q2 hc
    walk_at "tw"
    have ld : (defPts p (m + r - 1)).length = m + r - 1 := by unfold defPts; rw [List.length_append, List.length_map, List.length_range]; show m + r - 1 - 1 + 1 = _; omega
    exact rect_go K T e1 eG hg hp one0 m1 r1 m6 r6 ld (d1.mono (grow_mono (ex0 _) (Ex.refl _))) pok sok q3
  · refine c_iteF (decide_eq_false nv) ?_
    walk_at "tw"
    refine ⟨G, v, pts, (m : Int) + (r : Int) - 1, rfl, eG, dv, l1000, fun z => kb (by omega), fun z => ka (by omega), fun z za v1 H1 e1 d1 => ?_⟩
    obtain ⟨pok, sok, q3⟩ := q2 (by omega) za
    walk_at "tw"
    exact rect_go K T e1 eG hg hp one0 m1 r1 m6 r6 (by omega) d1 pok sok q3
end Tw
namespace Tw
open PySem PySem.Spec PyProof.Rows L2 Evl RZ
/-! ### _law_mixed, _law_points -/
def sp__law_mixed : Sp := fun vs H Q _ => ∃ (G : Hp) (b L : Addr) (v : V) (ds : List PyData), vs = [.ref b, v] ∧ BagAt b L H ∧ Ex G H ∧ G b = none ∧ Dx G v (.list ds) ∧ ds.length ≤ 10000 ∧
  ∀ (es : List PyData) l H', ExB b H H' → BagAt b L H' → es.Perm ds → H l = none → Dx (grow G H H') (.ref l) (.list es) → Q (.ref l) H'
def t_f_law_mixed (K : PySem.W.Frag) : TS :=
    (tSeq (tAsg (tLst tNil) (gName 2))
    (tSeq (tFor (iSeq K (tVar 1)) (gName 3) (tDrop (tBM K "list" rInsert (tVar 2) (tCons (tCall sp__law_draw [] E0 (tCons (tVar 0) (tCons (tOp (uAdd K) (tCB (uLen K) (tCons (tVar 2) tNil)) (tC (.int 1))) tNil))) (tCons (tVar 3) tNil)))))
    (tRet (tVar 2))))
theorem ins_perm {α : Type} (es : List α) (d : α) (i : Nat) : (es.take i ++ [d] ++ es.drop i).Perm (es ++ [d]) := by
  have h1 : (es.take i ++ [d] ++ es.drop i).Perm (d :: (es.take i ++ es.drop i)) := by
    rw [List.append_assoc]
    exact List.perm_middle
  rw [List.take_append_drop] at h1
  exact h1.trans (List.perm_append_singleton d es).symm
theorem pure_mixed (K : PySem.W.Frag) (vs : List V) (H : Hp) (Q : VK) (E : XK) (h : sp__law_mixed vs H Q E) : t_f_law_mixed K { nx := fun _ H' => Q .non H', rt := Q } (start ["bag", "things", "told", "one"] vs) H := by
  obtain ⟨G, b, L, v, ds, rfl, hb, eG, Gb, dv, hz, q⟩ := h
  obtain ⟨a, us, rfl, ha, ru⟩ := dv.lst_inv
  have lu := ru.length
  unfold t_f_law_mixed
  walk_at "tw"
  refine ⟨by show 0 ≤ sizeLine; decide, fun M hM => ?_⟩
  have e1 : Ex H (upd H M (.lst [])) := Ex.new hM
  have ab : a ≠ b := fun z => by rw [z, Gb] at ha; cases ha
  obtain ⟨ob, hob⟩ := hb.some
  have Mb : M ≠ b := fun z => by rw [z, hob] at hM; cases hM
  have GM : G M = none := fresh_back eG hM
  walk_at "tw"
  refine ⟨a, rfl, .inl ⟨⟨_, SqL.of (e1 _ _ (eG _ _ ha))⟩, ?_⟩⟩
  refine for_list (K := K) (a := a) (xs := us) (fun i σ' H' => ∃ (o3 : Option V) (ws : List V) (es : List PyData), σ' = [some (.ref b), some (.ref a), some (.ref M), o3] ∧ ExB b H H' ∧ BagAt b L H' ∧ H' M = some (.lst ws) ∧ DxA G ws es ∧ es.Perm (ds.take i))
    ⟨none, [], [], rfl, ExB.of e1, hb.ex e1, upd_same, .nil, .nil⟩ (fun i σ' H' _ ⟨_, _, _, _, x, _⟩ => SqL.of (x _ _ ab (eG _ _ ha))) ?_ ?_
  · rintro i u σ' H2 hu ⟨o3, ws, es, rfl, x2, hb2, hM2, dx, pe⟩
    obtain ⟨d, ed, dd⟩ := ru.get hu
    have lws : ws.length = es.length := dx.length
    have les : es.length ≤ i := by rw [pe.length_eq]; exact List.length_take_le _ _
    have li : i < us.length := (List.getElem?_eq_some_iff.mp hu).1
    walk_at "tw"
    refine ⟨c_tyL hM2, ?_⟩
    walk_at "tw"
    refine ⟨b, L, (ws.length : Int) + 1, rfl, hb2, by omega, by omega, fun j H3 x3 hb3 j0 j1 => ?_⟩
    have hM3 := x3 _ _ Mb hM2
    walk_at "tw"
    refine ⟨M, ws, j, u, rfl, rfl, hM3, sz_of_le (by omega), j0, by omega, ?_⟩
    have x23 := x2.trans x3
    refine ⟨_, ws.take j.toNat ++ [u] ++ ws.drop j.toNat, es.take j.toNat ++ [d] ++ es.drop j.toNat, rfl, fun c o nc hc => ?_, ?_, upd_same, ((dx.take _).append (.cons dd .nil)).append (dx.drop _), ?_⟩
    · have cM : c ≠ M := fun z => by rw [z, hM] at hc; cases hc
      rw [upd_ne cM]
      exact x23 _ _ nc hc
    · obtain ⟨cs, k, gg, mm, kk, n, h1, h2, h3⟩ := hb3
      have nLM : L ≠ M := fun z => by
        obtain ⟨_, _, _, _, _, _, _, k2, _⟩ := hb
        rw [z, hM] at k2
        cases k2
      exact ⟨cs, k, gg, mm, kk, n, by rw [upd_ne Mb.symm]; exact h1, by rw [upd_ne nLM]; exact h2, h3⟩
    · rw [take_succ ed]
      exact (ins_perm es d _).trans (pe.append_right _)
  · rintro σ' H2 ⟨o3, ws, es, rfl, x2, hb2, hM2, dx, pe⟩
    walk_at "tw"
    rw [lu, List.take_length] at pe
    exact q es M H2 x2 hb2 pe hM (.lst (grow_new hM hM2) (dx.mono (grow_ex eG)))
def frs20 : List (Int × Int) := [(0, 1), (1, 1), (-1, 1), (2, 1), (-2, 1), (1, 2), (3, 1), (-1, 2), (-3, 1), (4, 1), (1, 3), (-4, 1), (5, 1), (-5, 1), (3, 2), (6, 1), (-6, 1), (7, 1), (-7, 1), (8, 1)]
def tFrs : List (Int × Int) → TA
  | [] => tNil
  | (.ofNat n, d) :: r => tCons (tTup (tCons (tC (.int (.ofNat n))) (tCons (tC (.int d)) tNil))) (tFrs r)
  | (.negSucc n, d) :: r => tCons (tTup (tCons (tUn uNeg (tC (.int (.ofNat (n + 1))))) (tCons (tC (.int d)) tNil))) (tFrs r)
theorem c_frs {σ : L2.St} : ∀ (l : List (Int × Int)) {H : Hp} {QA : List V → Hp → Prop}, (∀ us H2, Ex H H2 → DxA (grow hp0 H H2) us (l.map fun q => .tuple [.int q.1, .int q.2]) → QA us H2) → tFrs l σ H QA
  | [], H, QA, q => q [] H (Ex.refl _) .nil
  | (n, d) :: r, H, QA, q => by
    have go : ∀ p, H p = none → tFrs r σ (upd H p (.tup [.int n, .int d])) (fun xs H2 => QA (.ref p :: xs) H2) := fun p hp => c_frs r fun us H2 e2 dx => by
      refine q _ _ ((Ex.new hp).trans e2) (.cons (.tup (grow_new hp (e2 _ _ upd_same)) (.cons (.int _) (.cons (.int _) .nil))) (dx.mono (grow0_back0 (Ex.new hp))))
    cases n with
    | ofNat n => exact c_cons (c_tup (c_cons (c_c (c_cons (c_c (c_nil ⟨by show 2 ≤ sizeLine; decide, go⟩))))))
    | negSucc n => exact c_cons (c_tup (c_cons (c_un (c_c (c_negI (c_cons (c_c (c_nil ⟨by show 2 ≤ sizeLine; decide, go⟩))))))))
def nus20 : List Nu := frs20.map fun q => .f (Rat.divInt q.1 q.2)
theorem nus20_nodup : nus20.Nodup := by decide +kernel
theorem nus20_le : ∀ x ∈ nus20, (match x with | .f a => decide (a.num.natAbs < 32) && decide (a.den < 32) | .r _ => false) = true := by decide +kernel
theorem nus20_ok : OkN 0 5 nus20 := fun x hx => by
  have h := nus20_le x hx
  cases x with
  | r i => cases h
  | f a =>
    (simp only [Bool.and_eq_true, decide_eq_true_eq] at h)
    exact ⟨rfl, h.1, h.2⟩
theorem frs20_q : ∀ q ∈ frs20, (Rat.divInt q.1 q.2).num = q.1 ∧ ((Rat.divInt q.1 q.2).den : Int) = q.2 := by decide +kernel
theorem frs20_d : (frs20.map fun q => PyData.tuple [.int q.1, .int q.2]) = nus20.map Nu.d := by
  unfold nus20
  rw [List.map_map]
  refine List.map_congr_left fun q hq => ?_
  obtain ⟨h1, h2⟩ := frs20_q q hq
  show _ = PyData.tuple [.int (Rat.divInt q.1 q.2).num, .int ((Rat.divInt q.1 q.2).den : Int)]
  rw [h1, h2]
theorem perm_map {α β : Type} {f : α → β} {es ds : List β} (h : es.Perm ds) : ∀ l : List α, ds = l.map f → ∃ l' : List α, es = l'.map f ∧ l'.Perm l := by
  induction h with
  | nil =>
    intro l e
    cases l with
    | nil => exact ⟨[], rfl, .nil⟩
    | cons _ _ => cases e
  | cons x _ ih =>
    intro l e
    cases l with
    | nil => cases e
    | cons y l =>
      rw [List.map_cons] at e
      injection e with e1 e2
      obtain ⟨l', h1, h2⟩ := ih l e2
      exact ⟨y :: l', by rw [List.map_cons, h1, e1], h2.cons y⟩
  | swap x y l0 =>
    intro l e
    match l, e with
    | a :: b :: l, e =>
      (rw [List.map_cons, List.map_cons] at e)
      injection e with e1 e2
      injection e2 with e2 e3
      exact ⟨b :: a :: l, by rw [List.map_cons, List.map_cons, e1, e2, e3], .swap a b l⟩
  | trans _ _ ih1 ih2 =>
    intro l e
    obtain ⟨l1, h1, h2⟩ := ih2 l e
    obtain ⟨l2, h3, h4⟩ := ih1 l1 h1
    exact ⟨l2, h3, h4.trans h2⟩
theorem nodup_some {xs : List Nu} (h : xs.Nodup) : (xs.map some).Nodup := by
  rw [List.nodup_iff_pairwise_ne] at h ⊢
  exact List.pairwise_map.mpr (h.imp fun h z => h (Option.some.inj z))
theorem set_split {α : Type} (l : List α) (k : Nat) (x : α) (hk : k < l.length) : l.set k x = l.take k ++ x :: l.drop (k + 1) := List.set_eq_take_append_cons_drop.trans (if_pos hk)
theorem nodup_set {xs : List Nu} (h : xs.Nodup) (k : Nat) (hk : k < xs.length) : ((xs.map some).set k none).Nodup := by
  rw [set_split _ _ _ (by rw [List.length_map]; exact hk)]
  have h2 := nodup_some h
  have sub : ((xs.map some).take k ++ (xs.map some).drop (k + 1)).Sublist (xs.map some) := by
    have e := List.take_append_drop k (xs.map some)
    have s : ((xs.map some).take k ++ (xs.map some).drop (k + 1)).Sublist ((xs.map some).take k ++ (xs.map some).drop k) := List.Sublist.append (List.Sublist.refl _) (by rw [← List.drop_drop]; exact List.drop_sublist _ _)
    rw [e] at s
    exact s
  have n1 : (none :: ((xs.map some).take k ++ (xs.map some).drop (k + 1))).Nodup := List.nodup_cons.mpr ⟨fun z => by
    have := sub.mem z
    simp at this, sub.nodup h2⟩
  exact (List.perm_middle.nodup_iff).mpr n1
theorem DxA.set {G : Hp} : ∀ {us : List V} {ds : List PyData} (n : Nat) {v : V} {d : PyData}, DxA G us ds → Dx G v d → DxA G (us.set n v) (ds.set n d)
  | _, _, _, _, _, .nil, _ => .nil
  | _, _, 0, _, _, .cons _ r, hd => .cons hd r
  | _, _, n + 1, _, _, .cons h r, hd => .cons h (r.set n hd)
theorem DxA.ints {G : Hp} : ∀ {us : List V} (ns : List Int), DxA G us ((ns.map Nu.r).map Nu.d) → DxA hp0 us ((ns.map Nu.r).map Nu.d)
  | _, [], .nil => .nil
  | _, n :: ns, .cons h r => .cons (by
      have e := Dx.int_inv (i := n) h
      rw [e]
      exact .int n) (DxA.ints ns r)
def sp__law_points : Sp := fun vs H Q _ => ∃ (b L : Addr) (p : Int) (size : Nat), vs = [.ref b, .int p, .int (size : Int)] ∧ BagAt b L H ∧ PrN p ∧ 1 ≤ size ∧ size ≤ 13 ∧ (p = 0 ∨ (size : Int) ≤ p + 1) ∧
  ∀ (pts : List (Option Nu)) l H', ExB b H H' → BagAt b L H' → pts.Nodup → pts.length = size → PtOk p pts → H l = none → Dx (grow hp0 H H') (.ref l) (ptsD pts) → Q (.ref l) H'
def t_f_law_points (K : PySem.W.Frag) : TS :=
    (tCut (tIfS (tTest (tOp (uGt K) (tVar 1) (tC (.int 0)))) (tSeq (tAsg (tCall sp__law_draw [] E0 (tCons (tVar 0) (tCons (tVar 1) tNil))) (gName 3))
    (tAsg (tLc (iRng1 (tCons (tCB (uMin K) (tCons (tVar 1) (tCons (tVar 2) tNil))) tNil)) (gName 5) tYes (tOp uMod (tCB (uInt) (tCons (tOp (uAdd K) (tVar 3) (tVar 5)) tNil)) (tVar 1)) [5]) (gName 4))) (tSeq (tAsg (tLst (tCons (tTup (tCons (tC (.int 0)) (tCons (tC (.int 1)) tNil))) (tCons (tTup (tCons (tC (.int 1)) (tCons (tC (.int 1)) tNil))) (tCons (tTup (tCons (tUn uNeg (tC (.int 1))) (tCons (tC (.int 1)) tNil))) (tCons (tTup (tCons (tC (.int 2)) (tCons (tC (.int 1)) tNil))) (tCons (tTup (tCons (tUn uNeg (tC (.int 2))) (tCons (tC (.int 1)) tNil))) (tCons (tTup (tCons (tC (.int 1)) (tCons (tC (.int 2)) tNil))) (tCons (tTup (tCons (tC (.int 3)) (tCons (tC (.int 1)) tNil))) (tCons (tTup (tCons (tUn uNeg (tC (.int 1))) (tCons (tC (.int 2)) tNil))) (tCons (tTup (tCons (tUn uNeg (tC (.int 3))) (tCons (tC (.int 1)) tNil))) (tCons (tTup (tCons (tC (.int 4)) (tCons (tC (.int 1)) tNil))) (tCons (tTup (tCons (tC (.int 1)) (tCons (tC (.int 3)) tNil))) (tCons (tTup (tCons (tUn uNeg (tC (.int 4))) (tCons (tC (.int 1)) tNil))) (tCons (tTup (tCons (tC (.int 5)) (tCons (tC (.int 1)) tNil))) (tCons (tTup (tCons (tUn uNeg (tC (.int 5))) (tCons (tC (.int 1)) tNil))) (tCons (tTup (tCons (tC (.int 3)) (tCons (tC (.int 2)) tNil))) (tCons (tTup (tCons (tC (.int 6)) (tCons (tC (.int 1)) tNil))) (tCons (tTup (tCons (tUn uNeg (tC (.int 6))) (tCons (tC (.int 1)) tNil))) (tCons (tTup (tCons (tC (.int 7)) (tCons (tC (.int 1)) tNil))) (tCons (tTup (tCons (tUn uNeg (tC (.int 7))) (tCons (tC (.int 1)) tNil))) (tCons (tTup (tCons (tC (.int 8)) (tCons (tC (.int 1)) tNil))) tNil))))))))))))))))))))) (gName 4))
    (tAsg (tSl (uSl K) (tCall sp__law_mixed [] E0 (tCons (tVar 0) (tCons (tSl (uSl K) (tVar 4) tNoPart (tPart (tOp (uAdd K) (tVar 2) (tC (.int 2))))) tNil))) tNoPart (tPart (tVar 2))) (gName 4))))
    (tSeq (tIfS (tTest (tOp (uLt K) (tCB (uLen K) (tCons (tVar 4) tNil)) (tVar 2))) (tRet (tCall sp__law_mixed [] E0 (tCons (tVar 0) (tCons (tOp (uAdd K) (tVar 4) (tLst (tCons (tC (.str "far")) tNil))) tNil)))) tNext)
    (tCut (tIfS (tTest (tOp (uEq K) (tCall sp__law_draw [] E0 (tCons (tVar 0) (tCons (tC (.int 2)) tNil))) (tC (.int 0)))) (tAsg (tC (.str "far")) (gSub (tVar 4) (tCall sp__law_draw [] E0 (tCons (tVar 0) (tCons (tVar 2) tNil))) rSetL)) tNext)
    (tRet (tVar 4)))))
theorem rest_row {p : Int} {f : Int} (n : Nat) (hn : (n : Int) ≤ p) (f0 : 0 ≤ f) : ((List.range n).map fun k : Nat => Nu.r ((f + (k : Int)) % p)).Nodup := by
  rw [List.nodup_iff_pairwise_ne, List.pairwise_map]
  have := (List.nodup_iff_pairwise_ne.mp (List.nodup_range (n := n)))
  refine (List.pairwise_lt_range (n := n)).imp_of_mem fun {a b} ha hb lt z => ?_
  have hb' := List.mem_range.mp hb
  have e := Nu.r.inj z
  have d := Int.emod_eq_emod_iff_emod_sub_eq_zero.mp e
  have e2 : (f + (a : Int) - (f + (b : Int))) = -((b - a : Nat) : Int) := by omega
  rw [e2] at d
  have d2 : p ∣ ((b - a : Nat) : Int) := (Int.dvd_neg).mp (Int.dvd_of_emod_eq_zero d)
  have := Int.le_of_dvd (by omega) d2
  omega
theorem pure_points (K : PySem.W.Frag) (vs : List V) (H : Hp) (Q : VK) (E : XK) (h : sp__law_points vs H Q E) : t_f_law_points K { nx := fun _ H' => Q .non H', rt := Q } (start ["bag", "p", "size", "first", "pool", "k"] vs) H := by
  obtain ⟨b, L, p, size, rfl, hb, hp, s1, s13, hps, q⟩ := h
  have p0 := hp.nonneg
  have p31 := prN_32 hp
  obtain ⟨ob, hob⟩ := hb.some
  unfold t_f_law_points
  refine c_cut (fun σ' H' => ∃ (o3 o5 : Option V) (l : Addr) (us : List V) (xs : List Nu) (S : Hp), σ' = [some (.ref b), some (.int p), some (.int (size : Int)), o3, some (.ref l), o5] ∧ ExB b H H' ∧ BagAt b L H' ∧ H l = none ∧ H' l = some (.lst us) ∧ S l = none ∧ (∀ c o, S c = some o → H c = none ∧ H' c = some o) ∧ DxA S us (xs.map Nu.d) ∧ xs.Nodup ∧ OkN p 5 xs ∧ xs.length ≤ size ∧ size ≤ xs.length + 1 ∧ 1 ≤ xs.length) ?_ ?_
  · walk_at "tw"
    refine c_ite (fun h1 => ?_) (fun h1 => ?_)
    · have hp0' : 0 < p := of_decide_eq_true h1
      walk_at "tw"
      refine ⟨b, L, p, rfl, hb, hp0', by omega, fun f H1 x1 hb1 f0 f1 => ?_⟩
      walk_at "tw"
      refine .inl ⟨p, (size : Int), rfl, ?_⟩
      obtain ⟨n, hn⟩ : ∃ n : Nat, (if (size : Int) < p then (size : Int) else p) = (n : Int) := ⟨(if (size : Int) < p then (size : Int) else p).toNat, by split <;> omega⟩
      rw [hn]
      have n1 : (n : Int) ≤ p ∧ n ≤ size ∧ size ≤ n + 1 ∧ 1 ≤ n := by
        rcases hps with z | z
        · omega
        · split at hn <;> omega
      walk_at "tw"
      refine ⟨_, rfl, by omega, by omega, fun l fl => ?_⟩
      rw [show ((n : Nat) : Int).toNat = n from by omega]
      obtain ⟨ob1, hob1⟩ := hb1.some
      have hl0 : H l = none := x1.free hob hob1 fl
      refine lcB_range (G := hp0) (fun i => (((List.range n).map fun k : Nat => Nu.r ((f + (k : Int)) % p)).map Nu.d).take i) (ex0 _) fl rfl (fun i _ => pre_len _ (by simp; omega) i) ?_ ?_
      · intro i H2 Q2 N hi e2 td
        walk_at "tw"
        refine ⟨rfl, ?_⟩
        walk_at "tw"
        have ei : f + (0 + (i : Int)) = f + (i : Int) := by omega
        rw [ei]
        exact td.1 _ _ _ (take_succ (pre_map hi)) (Ex.refl _) (.int _)
      · intro H2 e2 d2
        rw [List.take_of_length_le (by simp)] at d2
        obtain ⟨_, us, eL, hl, rl, ll⟩ := d2.lst_map
        cases eL
        walk_at "tw"
        have em : ((List.range n).map fun k : Nat => Nu.r ((f + (k : Int)) % p)) = ((List.range n).map fun k : Nat => (f + (k : Int)) % p).map Nu.r := by rw [List.map_map]; rfl
        refine ⟨_, _, l, us, (List.range n).map fun k : Nat => Nu.r ((f + (k : Int)) % p), hp0, rfl, x1.trans (ExB.of e2), hb1.ex e2, hl0, grow_in (ex0 _) _ _ hl, rfl, (fun c o h => by cases h), (by rw [em] at rl ⊢; exact rl.ints), rest_row n n1.1 f0, fun x hx => ?_, by simp; omega, by simp; omega, by simp; omega⟩
        obtain ⟨k, _, rfl⟩ := List.mem_map.mp hx
        have ok : (Nu.r ((f + (k : Int)) % p)).ok p := ⟨hp0', Int.emod_nonneg _ (by omega), Int.emod_lt_of_pos _ hp0'⟩
        exact ⟨ok, ok_le5 hp hp0' ok⟩
    · have hp0' : p = 0 := by have := of_decide_eq_false h1; omega
      subst hp0'
      with_reducible refine c_seq ?_
      with_reducible refine c_asg ?_
      with_reducible refine c_lst ?_
      refine c_frs (σ := start ["bag", "p", "size", "first", "pool", "k"] [.ref b, .int 0, .int (size : Int)]) frs20 fun us H1 e1 dx => ?_
      rw [frs20_d] at dx
      have lus : us.length = 20 := by rw [dx.length]; decide
      refine ⟨by rw [lus]; decide, fun P fP => ?_⟩
      have e2 := e1.trans (Ex.new (o := .lst us) fP)
      walk_at "tw"
      refine c_slL (SqL.of upd_same) fun M fM => ?_
      have ec : cutV us none (some ((size : Int) + 2)) = us.take (size + 2) := by
        unfold cutV
        rw [show (size : Int) + 2 = ((size + 2 : Nat) : Int) from by omega, HT.sIx_nat]
        show (us.drop 0).take (min (size + 2) us.length - 0) = us.take (size + 2)
        rw [List.drop_zero, Nat.sub_zero, Nat.min_eq_left (by omega)]
      rw [ec]
      have e3 := e2.trans (Ex.new (o := .lst (us.take (size + 2))) fM)
      have dM : Dx (grow hp0 H (upd (upd H1 P (.lst us)) M (.lst (us.take (size + 2))))) (.ref M) (.list ((nus20.map Nu.d).take (size + 2))) :=
        .lst (grow_new (fresh_back e2 fM) upd_same) ((dx.take _).mono (grow_mono (ex0 _) ((Ex.new fP).trans (Ex.new fM))))
      have gb : grow hp0 H (upd (upd H1 P (.lst us)) M (.lst (us.take (size + 2)))) b = none := by rw [grow_old hob]; rfl
      have hb3 := hb.ex e3
      generalize upd (upd H1 P (.lst us)) M (.lst (us.take (size + 2))) = H3 at e3 dM gb hb3 ⊢
      walk_at "tw"
      refine ⟨grow hp0 H H3, b, L, .ref M, (nus20.map Nu.d).take (size + 2), rfl, hb3, grow_in (ex0 _), gb, dM, Nat.le_trans (List.length_take_le _ _) (by omega), fun es l H4 x4 hb4 pe hl d4 => ?_⟩
      rw [← List.map_take] at pe
      obtain ⟨xs, rfl, pxs⟩ := perm_map pe _ rfl
      have hl0 : H l = none := fresh_back e3 hl
      have x04 : ExB b H H4 := (ExB.of e3).trans x4
      have sol : Ex (grow (grow hp0 H H3) H3 H4) (grow hp0 H H4) := fun c o h => by
        cases z : H3 c with
        | none =>
          unfold grow at h
          rw [z] at h
          exact grow_new (fresh_back e3 z) h
        | some u =>
          rw [grow_old z] at h
          cases z0 : H c with
          | some u0 => rw [grow_old z0] at h; cases h
          | none =>
            unfold grow at h
            rw [z0] at h
            have cb : c ≠ b := fun e => by rw [e, hob] at z0; cases z0
            exact grow_new z0 (x4 _ _ cb h)
      obtain ⟨_, us4, eL, hl4, rl4, ll4⟩ := (d4.mono sol).lst_map
      cases eL
      have hl4' := grow_in (ex0 _) _ _ hl4
      have lxs : xs.length = size + 2 := by
        rw [pxs.length_eq, List.length_take]
        have : nus20.length = 20 := by decide
        omega
      walk_at "tw"
      refine c_slL (SqL.of hl4') fun N fN => ?_
      have ec2 : cutV us4 none (some (size : Int)) = us4.take size := by
        unfold cutV
        rw [HT.sIx_nat]
        show (us4.drop 0).take (min size us4.length - 0) = us4.take size
        rw [List.drop_zero, Nat.sub_zero, Nat.min_eq_left (by omega)]
      rw [ec2]
      walk_at "tw"
      obtain ⟨ob4, hob4⟩ := hb4.some
      have fN0 : H N = none := x04.free hob hob4 fN
      have sN : grow hp0 H H4 N = none := by unfold grow; rw [fN0]; exact fN
      refine ⟨none, none, N, us4.take size, xs.take size, grow hp0 H H4, rfl, x04.trans (ExB.of (Ex.new fN)), hb4.ex (Ex.new fN), fN0, upd_same, sN, fun c o h => ?_, ?_, ?_, fun x hx => ?_, by rw [List.length_take]; omega, by rw [List.length_take]; omega, by rw [List.length_take]; omega⟩
      · cases z : H c with
        | some u => rw [grow_old z] at h; cases h
        | none =>
          unfold grow at h
          rw [z] at h
          exact ⟨rfl, (Ex.new fN) _ _ h⟩
      · rw [List.map_take]
        exact rl4.take _
      · exact (List.take_sublist _ _).nodup ((pxs.nodup_iff).mpr ((List.take_sublist _ _).nodup nus20_nodup))
      · exact nus20_ok x (List.mem_of_mem_take (pxs.mem_iff.mp (List.mem_of_mem_take hx)))
  · rintro σ' H1 ⟨o3, o5, l, us, xs, S, rfl, x1, hb1, hl, hl1, Sl, hS, dx, nd, ok, l1, l2, l3⟩
    obtain ⟨ob1, hob1⟩ := hb1.some
    have lus : us.length = xs.length := by rw [dx.length, List.length_map]
    have free1 : ∀ {c : Addr}, H1 c = none → H c = none := fun h => x1.free hob hob1 h
    have lb : l ≠ b := fun z => by rw [z, hob] at hl; cases hl
    walk_at "tw"
    refine c_ite (fun h1 => ?_) (fun h1 => ?_)
    · have lt : xs.length + 1 = size := by have := of_decide_eq_true h1; omega
      walk_at "tw"
      refine ⟨by show 1 ≤ sizeLine; decide, fun P fP => ?_⟩
      refine c_catL ((Ex.new fP) _ _ hl1) upd_same (Nat.le_trans (m := 100) (by simp; omega) (by decide)) fun M fM => ?_
      have e2 := (Ex.new (o := .lst [V.str "far"]) fP).trans (Ex.new (o := .lst (us ++ [.str "far"])) fM)
      have fM0 : H M = none := free1 (fresh_back (Ex.new fP) fM)
      have dM : Dx (grow hp0 H (upd (upd H1 P (.lst [V.str "far"])) M (.lst (us ++ [.str "far"])))) (.ref M) (ptsD (xs.map some ++ [none])) := by
        refine .lst (grow_new fM0 upd_same) ?_
        rw [List.map_append, List.map_map]
        exact (dx.mono fun c o h => grow_new (hS c o h).1 (e2 _ _ (hS c o h).2)).append (.cons (.str _) .nil)
      have gb : grow hp0 H (upd (upd H1 P (.lst [V.str "far"])) M (.lst (us ++ [.str "far"]))) b = none := by rw [grow_old hob]; rfl
      have hb2 := hb1.ex e2
      generalize upd (upd H1 P (.lst [V.str "far"])) M (.lst (us ++ [.str "far"])) = H2 at e2 dM gb hb2 ⊢
      refine ⟨grow hp0 H H2, b, L, .ref M, _, rfl, hb2, grow_in (ex0 _), gb, dM, by simp; omega, fun es l4 H4 x4 hb4 pe hl4 d4 => ?_⟩
      obtain ⟨pts, rfl, pp⟩ := perm_map pe _ rfl
      have x02 : ExB b H H2 := x1.trans (ExB.of e2)
      have sol : Ex (grow (grow hp0 H H2) H2 H4) (grow hp0 H H4) := fun c o h => by
        cases z : H2 c with
        | none =>
          unfold grow at h
          rw [z] at h
          exact grow_new (free1 (fresh_back e2 z)) h
        | some u =>
          rw [grow_old z] at h
          cases z0 : H c with
          | some u0 => rw [grow_old z0] at h; cases h
          | none =>
            unfold grow at h
            rw [z0] at h
            have cb : c ≠ b := fun e => by rw [e, hob] at z0; cases z0
            exact grow_new z0 (x4 _ _ cb h)
      refine q pts l4 H4 (x02.trans x4) hb4 ((pp.nodup_iff).mpr ?_) (by rw [pp.length_eq]; simp; omega) (fun x hx => ?_) (free1 (fresh_back e2 hl4)) (d4.mono sol)
      · rw [List.nodup_append]
        refine ⟨nodup_some nd, by simp, ?_⟩
        intro a ha b hb z
        rw [List.mem_singleton.mp hb] at z
        rw [z] at ha
        simp at ha
      · have := pp.mem_iff.mp hx
        simp at this
        exact ok x this
    · have eqs : xs.length = size := by have := of_decide_eq_false h1; omega
      walk_at "tw"
      refine c_cut (fun σ' H' => ∃ (pts : List (Option Nu)), σ' = [some (.ref b), some (.int p), some (.int (size : Int)), o3, some (.ref l), o5] ∧ ExB b H H' ∧ BagAt b L H' ∧ pts.Nodup ∧ pts.length = size ∧ PtOk p pts ∧ Dx (grow hp0 H H') (.ref l) (ptsD pts)) ?_ ?_
      · have base : ∀ H2, ExB b H1 H2 → Dx (grow hp0 H H2) (.ref l) (ptsD (xs.map some)) := fun H2 x2 => by
          refine .lst (grow_new hl (x2 _ _ lb hl1)) ?_
          rw [List.map_map]
          refine dx.mono fun c o h => ?_
          obtain ⟨h1, h2⟩ := hS c o h
          have cb : c ≠ b := fun e => by rw [e, hob] at h1; cases h1
          exact grow_new h1 (x2 _ _ cb h2)
        walk_at "tw"
        refine ⟨b, L, 2, rfl, hb1, by decide, by decide, fun d H2 x2 hb2 d0 d1 => ?_⟩
        walk_at "tw"
        refine c_ite (fun h2 => ?_) (fun h2 => ?_)
        · walk_at "tw"
          refine ⟨b, L, (size : Int), rfl, hb2, by omega, by omega, fun k H3 x3 hb3 k0 k1 => ?_⟩
          obtain ⟨n, rfl⟩ : ∃ n : Nat, k = (n : Int) := ⟨k.toNat, by omega⟩
          have hl3 := x3 _ _ lb (x2 _ _ lb hl1)
          refine c_setL (n := n) hl3 (Evl.ixN_nat (by omega)) ?_
          have x13 := x2.trans x3
          have lL : L ≠ l := fun z => by
            obtain ⟨_, _, _, _, _, _, _, k2, _⟩ := hb
            rw [z, hl] at k2
            cases k2
          refine ⟨(xs.map some).set n none, rfl, fun c o nc hc => ?_, ?_, nodup_set nd n (by omega), by simp; omega, fun x hx => ?_, ?_⟩
          · have cl : c ≠ l := fun z => by rw [z, hl] at hc; cases hc
            rw [upd_ne cl]
            exact x13 _ _ nc (x1 _ _ nc hc)
          · obtain ⟨cs, i, g, mm, kk, nn, h1, h2, h3⟩ := hb3
            exact ⟨cs, i, g, mm, kk, nn, by rw [upd_ne lb.symm]; exact h1, by rw [upd_ne lL]; exact h2, h3⟩
          · rcases List.mem_or_eq_of_mem_set hx with z | z
            · simp at z
              exact ok x z
            · cases z
          · refine .lst (grow_new hl upd_same) ?_
            rw [List.map_set, List.map_map]
            refine DxA.set n (dx.mono fun c o h => ?_) (.str _)
            obtain ⟨h1, h2⟩ := hS c o h
            have cb : c ≠ b := fun e => by rw [e, hob] at h1; cases h1
            have cl : c ≠ l := fun e => by rw [e, Sl] at h; cases h
            exact grow_new h1 (by rw [upd_ne cl]; exact x13 _ _ cb h2)
        · walk_at "tw"
          exact ⟨xs.map some, rfl, x1.trans x2, hb2, nodup_some nd, by simp; omega, fun x hx => ok x (by simpa using hx), base H2 x2⟩
      · rintro σ' H2 ⟨pts, rfl, x2, hb2, nd2, le2, ok2, d2⟩
        walk_at "tw"
        exact q pts l H2 x2 hb2 nd2 le2 ok2 hl d2
end Tw
namespace Tw
open PySem PySem.Spec PyProof.Rows L2 Evl RZ
/-! ### _law_lagrange -/
def sp__law_lagrange : Sp := fun vs H Q _ => ∃ (p : Int) (pts : List (Option Nu)) (v : V), vs = [.int p, v] ∧ PrN p ∧ Dx H v (ptsD pts) ∧ PtOk p pts ∧ pts.length ≤ 13 ∧ ScOk p pts ∧ ofInt p 1 ≠ ofInt p 0 ∧ RetN (tblN (pts.map (valRow p pts.length pts))) H Q
def t_f_law_lagrange (K : PySem.W.Frag) : TS :=
    (tSeq (tAsg (tLst tNil) (gName 2))
    (tSeq (tFor (iSeq K (tVar 1)) (gName 3) (tSeq (tAsg (tTup (tCons (tLst (tCons (tCall sp__law_int [] E0 (tCons (tVar 0) (tCons (tC (.int 1)) tNil))) tNil)) (tCons (tCall sp__law_int [] E0 (tCons (tVar 0) (tCons (tC (.int 1)) tNil))) tNil))) (gTup K 2 (gCons (gName 4) (gCons (gName 5) gNil))))
    (tSeq (tFor (iSeq K (tVar 1)) (gName 6) (tIfS (tAnd (tTest (tOp (uNe K) (tVar 6) (tVar 3))) (tTest (tOp (uNe K) (tVar 6) (tC (.str "far"))))) (tSeq (tAsg (tCall sp__law_int [] E0 (tCons (tVar 0) (tCons (tC (.int 0)) tNil))) (gName 7))
    (tSeq (tAsg (tLc (iRng1 (tCons (tOp (uAdd K) (tCB (uLen K) (tCons (tVar 4) tNil)) (tC (.int 1))) tNil)) (gName 8) tYes (tCall sp__law_add [] E0 (tCons (tVar 0) (tCons (tOp (uIx K) (tOp (uAdd K) (tLst (tCons (tVar 7) tNil)) (tVar 4)) (tVar 8)) (tCons (tCall sp__law_mul [] E0 (tCons (tVar 0) (tCons (tCall sp__law_neg [] E0 (tCons (tVar 0) (tCons (tVar 6) tNil))) (tCons (tOp (uIx K) (tOp (uAdd K) (tVar 4) (tLst (tCons (tVar 7) tNil))) (tVar 8)) tNil)))) tNil)))) [8]) (gName 4))
    (tIfS (tTest (tOp (uNe K) (tVar 3) (tC (.str "far")))) (tAsg (tCall sp__law_mul [] E0 (tCons (tVar 0) (tCons (tVar 5) (tCons (tCall sp__law_add [] E0 (tCons (tVar 0) (tCons (tVar 3) (tCons (tCall sp__law_neg [] E0 (tCons (tVar 0) (tCons (tVar 6) tNil))) tNil)))) tNil)))) (gName 5)) tNext))) tNext))
    (tSeq (tAsg (tCall sp__law_times [] E0 (tCons (tVar 0) (tCons (tCall sp__law_inv [] E0 (tCons (tVar 0) (tCons (tVar 5) tNil))) (tCons (tVar 4) tNil)))) (gName 4))
    (tDrop (tBM K "list" rAppend (tVar 2) (tCons (tSl (uSl K) (tOp (uAdd K) (tVar 4) (tCall sp__law_zeros [] E0 (tCons (tVar 0) (tCons (tCB (uLen K) (tCons (tVar 1) tNil)) tNil)))) tNoPart (tPart (tCB (uLen K) (tCons (tVar 1) tNil)))) tNil)))))))
    (tRet (tVar 2))))
theorem map_some_inj : ∀ {a b : List Nu}, a.map some = b.map some → a = b
  | [], [], _ => rfl
  | [], _ :: _, e => by cases e
  | _ :: _, [], e => by cases e
  | x :: a, y :: b, e => by
    (rw [List.map_cons, List.map_cons] at e)
    injection e with e1 e2
    rw [Option.some.inj e1, map_some_inj e2]
theorem DxA.cast {G : Hp} {vs ws : List V} {ds : List PyData} (e : vs = ws) (h : DxA G ws ds) : DxA G vs ds := by rw [e]; exact h
theorem othersN_succ {pts : List (Option Nu)} {j : Nat} {pj : Option Nu} (h : pts[j]? = some pj) (pt : Option Nu) : othersN pt (pts.take (j + 1)) = match pj with
    | some y => if some y = pt then othersN pt (pts.take j) else othersN pt (pts.take j) ++ [y]
    | none => othersN pt (pts.take j) := by
  apply map_some_inj
  rw [← filter_othersN, filter_take_succ h]
  cases pj with
  | none =>
    rw [if_neg (by simp), filter_othersN]
  | some y =>
    by_cases e : some y = pt
    · rw [if_neg (by simp [e])]
      show _ = (if some y = pt then othersN pt (pts.take j) else othersN pt (pts.take j) ++ [y]).map some
      rw [if_pos e, filter_othersN]
    · rw [if_pos (by simp [e])]
      show _ = (if some y = pt then othersN pt (pts.take j) else othersN pt (pts.take j) ++ [y]).map some
      rw [if_neg e, filter_othersN, List.map_append]
      rfl
theorem polyN_snoc (p : Int) (os : List Nu) (y : Nu) : polyN p (os ++ [y]) = stepN p y (polyN p os) := by
  unfold polyN
  rw [List.foldl_append]
  rfl
theorem prodN_snoc (p : Int) (x : Nu) (os : List Nu) (y : Nu) : prodN p x (os ++ [y]) = Nu.mul p (prodN p x os) (subN p x y) := by
  unfold prodN
  rw [List.foldl_append]
  rfl
theorem neg_mulN {p : Int} (h : 0 ≤ p) {x y : Nu} (hx : x.ok p) (hy : y.ok p) : Nu.mul p (Nu.neg p x) y = Nu.neg p (Nu.mul p x y) := congrArg Subtype.val (g_negM h ⟨x, hx⟩ ⟨y, hy⟩)
theorem take_len_le {α : Type} (l : List α) (n : Nat) : (l.take n).length ≤ l.length := List.length_take_le' _ _
theorem pure_lagrange (K : PySem.W.Frag) (vs : List V) (H : Hp) (Q : VK) (E : XK) (h : sp__law_lagrange vs H Q E) : t_f_law_lagrange K { nx := fun _ H' => Q .non H', rt := Q } (start ["p", "spread", "told", "point", "poly", "below", "other", "zero", "k"] vs) H := by
  obtain ⟨p, pts, v, rfl, hp, dv, pok, l13, pne, one0, q⟩ := h
  obtain ⟨a, us, rfl, ha, ru, lu⟩ := dv.lst_map
  have p0 := hp.nonneg
  unfold t_f_law_lagrange
  walk_at "tw"
  refine ⟨by show 0 ≤ sizeLine; decide, fun L hL => ?_⟩
  have e1 : Ex H (upd H L (.lst [])) := Ex.new hL
  walk_at "tw"
  refine ⟨a, rfl, .inl ⟨⟨_, SqL.of (e1 _ _ ha)⟩, ?_⟩⟩
  refine for_list (K := K) (a := a) (xs := us) (fun i σ' H' => ∃ (o3 o4 o5 o6 o7 : Option V) (ws : List V), σ' = [some (.int p), some (.ref a), some (.ref L), o3, o4, o5, o6, o7, none] ∧ BldP L hp0 H H' ws (((pts.map (valRow p pts.length pts)).map rowN).take i))
    ⟨none, none, none, none, none, [], rfl, BldP.start hL⟩ (fun i σ' H' _ ⟨_, _, _, _, _, _, _, B⟩ => SqL.of (B.ex _ _ ha)) ?_ ?_
  · rintro i u σ' H3 hu ⟨o3, o4, o5, o6, o7, ws, rfl, B⟩
    obtain ⟨pt, ept, mpt, dpt⟩ := ru.map_get hu
    have e3 := B.ex
    have dpt3 := dpt.mono e3
    have sx : ∀ x, pt = some x → x.ok p ∧ x.le 5 := fun x e => pok x (by rw [← e]; exact mpt)
    walk_at "tw"
    refine ⟨hp0, p, 1, rfl, p0, fun o H4 e4 d4 => ?_⟩
    walk_at "tw"
    refine ⟨by show 1 ≤ sizeLine; decide, fun R fR => ?_⟩
    have e5 : Ex H4 (upd H4 R (.lst [o])) := Ex.new fR
    walk_at "tw"
    refine ⟨hp0, p, 1, rfl, p0, fun o2 H6 e6 d6 => ?_⟩
    walk_at "tw"
    refine ⟨by show 2 ≤ sizeLine; decide, fun T0 fT0 => ?_⟩
    have e7 : Ex H6 (upd H6 T0 (.tup [.ref R, o2])) := Ex.new fT0
    have e37 := ((e4.trans e5).trans e6).trans e7
    walk_at "tw"
    have ha7 := (e3.trans e37) _ _ ha
    refine ⟨a, rfl, .inl ⟨⟨_, SqL.of ha7⟩, ?_⟩⟩
    have dR : Dx (upd H6 T0 (.tup [.ref R, o2])) (.ref R) (rowN [ofInt p 1]) := rowN_dx ((e6.trans e7) _ _ upd_same) (.cons ((d4.mono (grow_in (ex0 _))).mono ((e5.trans e6).trans e7)) .nil)
    have do2 : Dx (upd H6 T0 (.tup [.ref R, o2])) o2 (ofInt p 1).d := (d6.mono (grow_in (ex0 _))).mono e7
    generalize upd H6 T0 (.tup [.ref R, o2]) = H7 at e7 e37 ha7 dR do2 ⊢
    refine for_list (K := K) (a := a) (xs := us) (fun j σ' H' => ∃ (o6 o7 : Option V) (rv sv : V), σ' = [some (.int p), some (.ref a), some (.ref L), some u, some rv, some sv, o6, o7, none] ∧ Ex H7 H' ∧
        Dx H' rv (rowN (polyN p (othersN pt (pts.take j)))) ∧ Dx H' sv (scaleN p pt (othersN pt (pts.take j))).d)
      ⟨o6, o7, .ref R, o2, rfl, Ex.refl _, ?_, ?_⟩ (fun j σ' H' _ ⟨_, _, _, _, _, e, _⟩ => SqL.of (e _ _ ha7)) ?_ ?_
    · have : othersN pt (pts.take 0) = [] := by cases pt <;> rfl
      rw [this]
      exact dR
    · have : scaleN p pt (othersN pt (pts.take 0)) = ofInt p 1 := by cases pt <;> rfl
      rw [this]
      exact do2
    · rintro j w σ' H8 hw ⟨o6, o7, rv, sv, rfl, e8, drv, dsv⟩
      obtain ⟨pj, epj, mpj, dpj⟩ := ru.map_get hw
      have e08 := (e3.trans e37).trans e8
      have dpj8 := dpj.mono e08
      walk_at "tw"
      refine c_neD dpj8 (dpt.mono e08) (sh_pt _) (sh_pt _) ?_
      rw [pt_eqv]
      walk_at "tw"
      refine c_ite (fun h1 => ?_) (fun h1 => ?_)
      · walk_at "tw"
        refine c_neD dpj8 (.str "far") (sh_pt _) (sh_pt none) ?_
        rw [show PyData.eqv (ptD pj) (.str "far") = decide (pj = none) from pt_eqv pj none]
        cases pj with
        | none =>
          refine c_bl ?_
          refine c_iteF rfl ?_
          walk_at "tw"
          have suc : othersN pt (pts.take (j + 1)) = othersN pt (pts.take j) := othersN_succ epj pt
          exact ⟨_, _, rv, sv, rfl, e8, by rw [suc]; exact drv, by rw [suc]; exact dsv⟩
        | some y =>
          have ney : ¬ some y = pt := by simpa using h1
          have suc : othersN pt (pts.take (j + 1)) = othersN pt (pts.take j) ++ [y] := (othersN_succ epj pt).trans (if_neg ney)
          obtain ⟨oy, ly⟩ := pok y mpj
          have okt : OkN p 5 (othersN pt (pts.take j)) := othersN_ok (fun x hx => pok x (List.mem_of_mem_take hx)) pt
          have ltk : (othersN pt (pts.take j)).length ≤ 13 := Nat.le_trans (othersN_le _ _) (Nat.le_trans (take_len_le _ _) l13)
          obtain ⟨c, hc⟩ : ∃ c, c = polyN p (othersN pt (pts.take j)) := ⟨_, rfl⟩
          have okc : OkN p 83 c := fun x hx => by
            rw [hc] at hx
            obtain ⟨h1, h2⟩ := polyN_ok hp _ okt x hx
            exact ⟨h1, Nu.le_mono (by omega) h2⟩
          have lc : c.length ≤ 14 := by
            rw [hc, polyN_length]; omega
          have ec1 : polyN p (othersN pt (pts.take (j + 1))) = stepN p y c := by rw [suc, polyN_snoc, hc]
          rw [← hc] at drv
          obtain ⟨ar, rs, rfl, har, rr, lr⟩ := rowN_inv drv
          refine c_bl ?_
          refine c_iteT rfl ?_
          walk_at "tw"
          refine ⟨hp0, p, 0, rfl, p0, fun z H9 e9 d9 => ?_⟩
          have har9 := e9 _ _ har
          have dz9 := d9.mono (grow_in (ex0 _))
          have dy9 : Dx H9 w y.d := dpj8.mono e9
          have zle : (ofInt p 0).ok p ∧ (ofInt p 0).le 83 := ⟨ofInt_ok p0, Nu.le_mono (by decide) (ofInt0_le p)⟩
          walk_at "tw"
          refine ⟨_, rfl, by omega, by omega, fun N hN => ?_⟩
          rw [show ((rs.length : Int) + 1).toNat = (stepN p y c).length from by rw [stepN_length]; omega]
          refine lcB_range (G := hp0) (fun k => ((stepN p y c).map Nu.d).take k) (ex0 _) hN rfl (fun i _ => pre_len _ (by rw [List.length_map, stepN_length]; omega) i) ?_ ?_
          · intro k H10 Q2 N2 hk e10 td
            rw [stepN_length] at hk
            have ek : (0 : Int) + (k : Int) = (k : Int) := by omega
            have dz10 := dz9.mono e10
            have har10 := e10 _ _ har9
            have rr10 := rr.mono (e9.trans e10)
            have lrs : rs.length = c.length := lr
            have x1e : (ofInt p 0 :: c)[k]? = some ((ofInt p 0 :: c)[k]'(by simp; omega)) := List.getElem?_eq_getElem _
            have y1e : (c ++ [ofInt p 0])[k]? = some ((c ++ [ofInt p 0])[k]'(by simp; omega)) := List.getElem?_eq_getElem _
            generalize (ofInt p 0 :: c)[k]'(by simp; omega) = x1 at x1e
            generalize (c ++ [ofInt p 0])[k]'(by simp; omega) = y1 at y1e
            have ox1 : x1.ok p ∧ x1.le 83 := by
              rcases List.mem_cons.mp (List.mem_of_getElem? x1e) with h | h
              · rw [h]; exact zle
              · exact okc _ h
            have oy1 : y1.ok p ∧ y1.le 83 := by
              rcases List.mem_append.mp (List.mem_of_getElem? y1e) with h | h
              · exact okc _ h
              · rw [List.mem_singleton.mp h]; exact zle
            walk_at "tw"
            refine ⟨rfl, ?_⟩
            walk_at "tw"
            refine ⟨by show 1 ≤ sizeLine; decide, fun l1 f1 => ?_⟩
            walk_at "tw"
            refine c_catL upd_same ((Ex.new f1) _ _ har10) (Nat.le_trans (m := 100) (by simp; omega) (by decide)) fun l2 f2 => ?_
            have f12 := (Ex.new (o := .lst [z]) f1).trans (Ex.new (o := .lst ([z] ++ rs)) f2)
            have dra : DxA (upd (upd H10 l1 (.lst [z])) l2 (.lst ([z] ++ rs))) ([z] ++ rs) ((ofInt p 0 :: c).map Nu.d) := .cons (dz10.mono f12) (rr10.mono f12)
            obtain ⟨xv, hxv, dxv⟩ := dra.get' (i := k) (d := x1.d) (by rw [List.getElem?_map, x1e]; rfl)
            walk_at "tw"
            refine c_ixL (v := xv) (SqL.of upd_same) (by rw [ek]; exact atI_nat hxv) ?_
            walk_at "tw"
            refine ⟨hp0, p, y, w, rfl, p0, oy, dy9.mono (e10.trans f12), fun ng H11 e11 d11 => ?_⟩
            walk_at "tw"
            refine ⟨by show 1 ≤ sizeLine; decide, fun l3 f3 => ?_⟩
            have g3 := (f12.trans e11).trans (Ex.new (o := .lst [z]) f3)
            refine c_catL (g3 _ _ har10) upd_same (Nat.le_trans (m := 100) (by simp; omega) (by decide)) fun l4 f4 => ?_
            have g4 := g3.trans (Ex.new (o := .lst (rs ++ [z])) f4)
            have dke : DxA (upd (upd H11 l3 (.lst [z])) l4 (.lst (rs ++ [z]))) (rs ++ [z]) ((c ++ [ofInt p 0]).map Nu.d) := by
              rw [List.map_append]
              exact (rr10.mono g4).append (.cons (dz10.mono g4) .nil)
            obtain ⟨yv, hyv, dyv⟩ := dke.get' (i := k) (d := y1.d) (by rw [List.getElem?_map, y1e]; rfl)
            walk_at "tw"
            refine c_ixL (v := yv) (SqL.of upd_same) (by rw [ek]; exact atI_nat hyv) ?_
            walk_at "tw"
            have e34 := (Ex.new (o := .lst [z]) f3).trans (Ex.new (o := .lst (rs ++ [z])) f4)
            have oneg := Nu.neg_ok oy
            have lneg : (Nu.neg p y).le 5 := Nu.neg_le oy ly (by have := prN_32 hp; left; omega)
            refine ⟨hp0, p, Nu.neg p y, y1, ng, yv, 5, 83, rfl, p0, oneg, oy1.1, (d11.mono (grow_in (ex0 _))).mono e34, dyv, lneg, oy1.2, by decide, fun mv H12 e12 d12 => ?_⟩
            walk_at "tw"
            refine ⟨hp0, p, x1, Nu.mul p (Nu.neg p y) y1, xv, mv, 83, 88, rfl, p0, ox1.1, Nu.mul_ok oneg oy1.1, dxv.mono ((e11.trans e34).trans e12), d12.mono (grow_in (ex0 _)), ox1.2, Nu.mul_le oneg oy1.1 lneg oy1.2, by decide, fun av H13 e13 d13 => ?_⟩
            refine td.1 _ _ _ (take_succ ?_) ((g4.trans e12).trans e13) (d13.mono (grow0_back0 (g4.trans e12)))
            rw [List.getElem?_map, stepN_get p y c x1e y1e]
            show some (subN p x1 (Nu.mul p y y1)).d = _
            unfold subN
            rw [neg_mulN p0 oy oy1.1]
          · intro H10 e10 d10
            rw [List.take_of_length_le (by simp)] at d10
            have d10' : Dx H10 (.ref N) (rowN (stepN p y c)) := d10.mono (grow_in (ex0 _))
            have e810 := e9.trans e10
            walk_at "tw"
            refine c_neD (dpt.mono (e08.trans e810)) (.str "far") (sh_pt _) (sh_pt none) ?_
            rw [show PyData.eqv (ptD pt) (.str "far") = decide (pt = none) from pt_eqv pt none]
            cases pt with
            | none =>
              refine c_bl ?_
              refine c_iteF rfl ?_
              walk_at "tw"
              exact ⟨_, _, _, sv, rfl, e8.trans e810, by rw [ec1]; exact d10', dsv.mono e810⟩
            | some x =>
              obtain ⟨ox, lx⟩ := sx x rfl
              obtain ⟨os1, os2⟩ := prodA_ok hp ox lx (othersN (some x) (pts.take j)) (ofInt p 1) 1 (ofInt_ok p0) (ofInt1_le p) okt
              refine c_bl ?_
              refine c_iteT rfl ?_
              walk_at "tw"
              refine ⟨hp0, p, y, w, rfl, p0, oy, dy9.mono e10, fun ng H11 e11 d11 => ?_⟩
              walk_at "tw"
              refine ⟨hp0, p, x, Nu.neg p y, u, ng, 5, 5, rfl, p0, ox, Nu.neg_ok oy, (dpt.mono (e08.trans e810)).mono e11, d11.mono (grow_in (ex0 _)), lx, Nu.neg_le oy ly (by have := prN_32 hp; left; omega), by decide, fun av H12 e12 d12 => ?_⟩
              walk_at "tw"
              refine ⟨hp0, p, prodN p x (othersN (some x) (pts.take j)), subN p x y, sv, av, 200, 11, rfl, p0, os1, subN_ok ox oy, dsv.mono ((e810.trans e11).trans e12), d12.mono (grow_in (ex0 _)), Nu.le_mono (by omega) os2, subN_le hp ox oy lx ly (by decide), by decide, fun r2 H13 e13 d13 => ?_⟩
              walk_at "tw"
              have e1113 := (e11.trans e12).trans e13
              refine ⟨_, _, _, _, rfl, (e8.trans e810).trans e1113, by rw [ec1]; exact d10'.mono e1113, ?_⟩
              rw [suc]
              show Dx H13 r2 (prodN p x (othersN (some x) (pts.take j) ++ [y])).d
              rw [prodN_snoc]
              exact d13.mono (grow_in (ex0 _))
      · have eqy : pj = pt := by simpa using h1
        walk_at "tw"
        have suc2 : othersN pt (pts.take (j + 1)) = othersN pt (pts.take j) := by
          have suc := othersN_succ epj pt
          cases pj with
          | none => exact suc
          | some y => exact suc.trans (if_pos eqy)
        exact ⟨_, _, rv, sv, rfl, e8, by rw [suc2]; exact drv, by rw [suc2]; exact dsv⟩
    · rintro σ' H8 ⟨o6, o7, rv, sv, rfl, e8, drv, dsv⟩
      rw [lu, List.take_length] at drv dsv
      have okos := othersN_ok pok pt
      have lon := othersN_le pt pts
      obtain ⟨s1, s2⟩ := scaleN_ok hp sx okos
      have sne : scaleN p pt (othersN pt pts) ≠ ofInt p 0 := by
        cases pt with
        | none => exact one0
        | some x => exact pne x mpt
      have i2 := Nu.inv_le hp s1 (Nu.le_mono (m := 200) (by omega) s2) (by decide)
      have okP := polyN_ok hp _ okos
      walk_at "tw"
      refine ⟨hp0, p, scaleN p pt (othersN pt pts), sv, rfl, hp, s1, sne, Nu.le_mono (by omega) s2, dsv, fun iv H9 e9 d9 => ?_⟩
      walk_at "tw"
      refine ⟨p, _, polyN p (othersN pt pts), iv, rv, 200, 83, rfl, p0, Nu.inv_ok s1, i2, fun x hx => ⟨(okP x hx).1, Nu.le_mono (by omega) (okP x hx).2⟩, by decide, by rw [polyN_length]; omega, d9.mono (grow_in (ex0 _)), drv.mono e9, fun rv2 H10 e10 d10 => ?_⟩
      have e310 := (e37.trans e8).trans (e9.trans e10)
      have hB := e310 _ _ B.at_
      have ha10 := (e3.trans e310) _ _ ha
      obtain ⟨ar, rs, rfl, har, rr, lr⟩ := rowN_inv d10
      have har10 := grow_in (ex0 _) _ _ har
      walk_at "tw"
      refine ⟨c_tyL hB, ?_⟩
      walk_at "tw"
      refine ⟨p, us.length, rfl, p0, by omega, fun zv H11 e11 d11 => ?_⟩
      obtain ⟨az, zs, rfl, haz, rz, lz⟩ := rowN_inv d11
      have haz11 := grow_in (ex0 _) _ _ haz
      rw [List.length_replicate] at lz
      have lrs : rs.length = (othersN pt pts).length + 1 := by rw [lr, List.length_map, polyN_length]
      have olt := othersN_lt mpt
      refine c_catL (e11 _ _ har10) haz11 (Nat.le_trans (m := 100) (by omega) (by decide)) fun l3 f3 => ?_
      have e12 := e11.trans (Ex.new (o := .lst (rs ++ zs)) f3)
      have ha12 := e12 _ _ ha10
      walk_at "tw"
      refine c_slL (SqL.of upd_same) fun l4 f4 => ?_
      have ec : cutV (rs ++ zs) none (some (us.length : Int)) = (rs ++ zs).take us.length := by
        unfold cutV
        rw [HT.sIx_nat]
        show ((rs ++ zs).drop 0).take (min us.length (rs ++ zs).length - 0) = (rs ++ zs).take us.length
        rw [List.drop_zero, Nat.sub_zero, Nat.min_eq_left (by rw [List.length_append]; omega)]
      rw [ec]
      have e13 := e12.trans (Ex.new (o := .lst ((rs ++ zs).take us.length)) f4)
      walk_at "tw"
      refine c_app (e13 _ _ hB) (sz_of_le (by rw [B.len]; exact Nat.le_trans (List.length_take_le' _ _) (by simp; omega))) ?_
      refine ⟨some u, _, _, _, _, ws ++ [.ref l4], rfl, ?_⟩
      have hs : ((pts.map (valRow p pts.length pts)).map rowN)[i]? = some (rowN (valRow p pts.length pts pt)) := by
        rw [List.getElem?_map, List.getElem?_map, ept]; rfl
      rw [take_succ hs]
      refine B.push (ex0 _) (e310.trans e13) ?_
      have eT : (rs ++ zs).take us.length = rs ++ zs.take (us.length - rs.length) := by
        rw [List.take_append, List.take_of_length_le (by omega)]
      refine .lst (grow_new (fresh_back (e310.trans e12) f4) upd_same) (DxA.cast eT ?_)
      unfold valRow padN
      have lc2 : ((polyN p (othersN pt pts)).map (Nu.mul p (Nu.inv p (scaleN p pt (othersN pt pts))))).length = rs.length := by rw [lrs, List.length_map, polyN_length]
      rw [lc2, List.map_append]
      have e89 := (e37.trans e8).trans e9
      refine (rr.mono ((grow0_back0 e89).trans (grow_mono (ex0 _) e13))).append ?_
      have rz2 := rz.take (us.length - rs.length)
      rw [← List.map_take, List.take_replicate, Nat.min_eq_left (by omega), lu] at rz2
      rw [lu]
      exact rz2.mono ((grow0_back0 e310).trans (grow_mono (ex0 _) ((Ex.new f3).trans (Ex.new f4))))
  · rintro σ' H3 ⟨o3, o4, o5, o6, o7, ws, rfl, B⟩
    walk_at "tw"
    rw [List.take_of_length_le (by simp; omega)] at B
    exact q _ _ B.ex (B.done (ex0 _))
end Tw
namespace Tw
open PySem PySem.Spec PyProof.Rows L2 Evl RZ
/-! ### _law_default, _law_first, _law_bent, _law_dressed -/
theorem nu_lay (x : Nu) : x.d.canLay0 = true ∧ x.d.depth ≤ 1 := by
  cases x with
  | r i => exact ⟨rfl, by show 0 ≤ 1; decide⟩
  | f q => exact ⟨rfl, by show 1 + max 0 (max 0 0) ≤ 1; decide⟩
theorem nus_lay : ∀ xs : List Nu, PyData.canLayAll0 (xs.map Nu.d) = true ∧ PyData.depthAll (xs.map Nu.d) ≤ 1
  | [] => ⟨rfl, by show 0 ≤ 1; decide⟩
  | x :: xs => by
    obtain ⟨h1, h2⟩ := nu_lay x
    obtain ⟨h3, h4⟩ := nus_lay xs
    rw [List.map_cons]
    refine ⟨?_, ?_⟩
    · simp only [PyData.canLayAll0, h1, h3, Bool.and_self]
    · show max x.d.depth (PyData.depthAll (xs.map Nu.d)) ≤ 1
      omega
theorem sh_row (xs : List Nu) : SeqAt.shaped (rowN xs) = true := by
  obtain ⟨h1, h2⟩ := nus_lay xs
  unfold SeqAt.shaped rowN
  have e1 : PyData.canLay0 (.list (xs.map Nu.d)) = true := by simp only [PyData.canLay0]; exact h1
  have e2 : PyData.depth (.list (xs.map Nu.d)) ≤ 64 := by
    show PyData.depthAll (xs.map Nu.d) + 1 ≤ 64
    omega
  rw [e1, decide_eq_true e2]
  rfl
theorem rows_eqv : ∀ xs ys : List Nu, PyData.eqvAll (xs.map Nu.d) (ys.map Nu.d) = decide (xs = ys)
  | [], [] => by (simp [PyData.eqvAll])
  | [], _ :: _ => by (simp [PyData.eqvAll])
  | _ :: _, [] => by (simp [PyData.eqvAll])
  | x :: xs, y :: ys => by
    (rw [List.map_cons, List.map_cons])
    simp only [PyData.eqvAll]
    rw [nu_eqv, rows_eqv xs ys]
    by_cases e1 : x = y
    · subst e1
      by_cases e2 : xs = ys
      · subst e2; simp
      · rw [decide_eq_false e2, decide_eq_false fun z => e2 (List.cons.inj z).2]; simp
    · rw [decide_eq_false e1, decide_eq_false fun z => e1 (List.cons.inj z).1]; simp
theorem row_eqv (xs ys : List Nu) : PyData.eqv (rowN xs) (rowN ys) = decide (xs = ys) := by
  unfold rowN
  simp only [PyData.eqv]
  exact rows_eqv xs ys
def sp__law_default : Sp := fun vs H Q _ => ∃ (p : Int) (many : Nat), vs = [.int p, .int (many : Int)] ∧ PrN p ∧ 1 ≤ many ∧ many ≤ 1000 ∧ (0 < p → (many : Int) > p + 1 → Q .non H) ∧ ((p = 0 ∨ (many : Int) ≤ p + 1) → RetN (ptsD (defPts p many)) H Q)
def t_f_law_default (K : PySem.W.Frag) : TS :=
    (tSeq (tIfS (tTest (tOp (uGt K) (tVar 0) (tC (.int 0)))) (tRet (tIf (tTest (tOp (uLt K) (tVar 0) (tOp uSub (tVar 1) (tC (.int 1))))) (tC .non) (tOp (uAdd K) (tCB (uListR K) (tCons (tCB uRng (tCons (tOp uSub (tVar 1) (tC (.int 1))) tNil)) tNil)) (tLst (tCons (tC (.str "far")) tNil))))) tNext)
    (tRet (tOp (uAdd K) (tLc (iRng1 (tCons (tOp uSub (tVar 1) (tC (.int 1))) tNil)) (gName 2) tYes (tTup (tCons (tOp (uMul K) (tOp uFdiv (tOp (uAdd K) (tVar 2) (tC (.int 1))) (tC (.int 2))) (tIf (tTest (tOp (uEq K) (tOp uMod (tCB (uInt) (tCons (tVar 2) tNil)) (tC (.int 2))) (tC (.int 1)))) (tC (.int 1)) (tUn uNeg (tC (.int 1))))) (tCons (tC (.int 1)) tNil))) [2]) (tLst (tCons (tC (.str "far")) tNil)))))
theorem c_mulM {K : PySem.W.Frag} {H : Hp} {Q : VK} {t : Int} (q : Q (.int (t * -1)) H) : uMul K (.int t) (.int (-1)) H Q := c_mulI (.inl (.inr ⟨by decide, by decide⟩)) q
theorem pure_default (K : PySem.W.Frag) (vs : List V) (H : Hp) (Q : VK) (E : XK) (h : sp__law_default vs H Q E) : t_f_law_default K { nx := fun _ H' => Q .non H', rt := Q } (start ["p", "many", "k"] vs) H := by
  obtain ⟨p, many, rfl, hp, m1, m2, q1, q2⟩ := h
  have p0 := hp.nonneg
  unfold t_f_law_default
  walk_at "tw"
  refine c_ite (fun h1 => ?_) (fun h1 => ?_)
  · have hp0 : 0 < p := of_decide_eq_true h1
    walk_at "tw"
    refine c_ite (fun h2 => ?_) (fun h2 => ?_)
    · walk_at "tw"
      exact q1 hp0 (by have := of_decide_eq_true h2; omega)
    · have le : (many : Int) ≤ p + 1 := by have := of_decide_eq_false h2; omega
      have q := q2 (.inr le)
      walk_at "tw"
      refine ⟨_, rfl, fun P fP => ?_⟩
      walk_at "tw"
      refine .inr ⟨P, many - 1, rfl, ?_, by omega, fun l fl => ?_⟩
      · rw [show ((many - 1 : Nat) : Int) = (many : Int) - 1 from by omega]
        exact upd_same
      have e1 := (Ex.new (o := .rng 0 ((many : Int) - 1)) fP).trans (Ex.new (o := .lst ((List.range (many - 1)).map fun i : Nat => V.int (i : Int))) fl)
      walk_at "tw"
      refine ⟨by show 1 ≤ sizeLine; decide, fun M fM => ?_⟩
      refine c_catL ((Ex.new fM) _ _ upd_same) upd_same (Nat.le_trans (m := 2000) (by simp; omega) (by decide)) fun O fO => ?_
      have e2 := e1.trans (Ex.new (o := .lst [V.str "far"]) fM)
      refine q _ _ (e2.trans (Ex.new fO)) (.lst (grow_new (fresh_back e2 fO) upd_same) ?_)
      unfold defPts
      rw [List.map_append, List.map_map]
      refine DxA.append ?_ (.cons (.str _) .nil)
      have : ∀ l : List Nat, (∀ k ∈ l, (k : Int) < p) → ∀ G : Hp, DxA G (l.map fun i : Nat => V.int (i : Int)) (l.map (ptD ∘ fun k => some (defNu p k))) := fun l => by
        induction l with
        | nil => intro _ _; exact .nil
        | cons k l ih =>
          intro h G
          (rw [List.map_cons, List.map_cons])
          refine .cons ?_ (ih (fun x hx => h x (List.mem_cons_of_mem _ hx)) G)
          show Dx G (.int (k : Int)) (defNu p k).d
          unfold defNu
          rw [if_pos hp0, ofInt_r hp0, Int.emod_eq_of_lt (by omega) (h k List.mem_cons_self)]
          exact .int _
      exact this _ (fun k hk => by have := List.mem_range.mp hk; omega) _
  · have hp0 : p = 0 := by have := of_decide_eq_false h1; omega
    have q := q2 (.inl hp0)
    walk_at "tw"
    refine ⟨_, rfl, by omega, by omega, fun L hL => ?_⟩
    rw [show ((many : Int) - 1).toNat = many - 1 from by omega]
    refine lcB_range (G := Tw.hp0) (fun i => (((List.range (many - 1)).map fun k => some (defNu p k)).map ptD).take i) (ex0 _) hL rfl (fun i _ => pre_len _ (by simp; omega) i) ?_ ?_
    · intro i H2 Q2 N hi e2 td
      have ei : (0 : Int) + (i : Int) = (i : Int) := by omega
      have nu : defNu p i = .f (((if (i : Int) % 2 = 1 then ((i : Int) + 1) / 2 else -((i : Int) / 2)) : Int) : Rat) := by unfold defNu; rw [if_neg (by omega), ofInt_f hp0]
      have hs : (((List.range (many - 1)).map fun k => some (defNu p k)).map ptD)[i]? = some (defNu p i).d := pre_map hi
      walk_at "tw"
      refine ⟨rfl, ?_⟩
      walk_at "tw"
      rw [ei]
      refine c_ite (fun h2 => ?_) (fun h2 => ?_)
      · walk_at "tw"
        refine ⟨by show 2 ≤ sizeLine; decide, fun t ft => ?_⟩
        refine td.1 _ _ _ (take_succ hs) (Ex.new ft) ?_
        rw [nu, if_pos (of_decide_eq_true h2), Int.mul_one]
        exact Dx.frac (grow_new ft upd_same) rfl rfl
      · walk_at "tw"
        refine ⟨by show 2 ≤ sizeLine; decide, fun t ft => ?_⟩
        refine td.1 _ _ _ (take_succ hs) (Ex.new ft) ?_
        have hne := of_decide_eq_false h2
        rw [nu, if_neg hne]
        have e3 : ((i : Int) + 1) / 2 * -1 = -((i : Int) / 2) := by omega
        rw [e3]
        exact Dx.frac (grow_new ft upd_same) rfl rfl
    · intro H2 e2 d2
      rw [List.take_of_length_le (by simp)] at d2
      obtain ⟨_, ls, eL, hl, rl, ll⟩ := d2.lst_map
      cases eL
      have hl2 := grow_in (ex0 _) _ _ hl
      walk_at "tw"
      refine ⟨by show 1 ≤ sizeLine; decide, fun M hM => ?_⟩
      refine c_catL ((Ex.new hM) _ _ hl2) upd_same (Nat.le_trans (m := 2000) (by simp at ll; simp; omega) (by decide)) fun P hP => ?_
      have e3 := e2.trans (Ex.new (o := .lst [V.str "far"]) hM)
      refine q _ _ (e3.trans (Ex.new hP)) (.lst (grow_new (fresh_back e3 hP) upd_same) ?_)
      unfold defPts
      rw [List.map_append]
      exact (rl.mono (grow_mono (Ex.refl _) ((Ex.new hM).trans (Ex.new hP)))).append (.cons (.str _) .nil)
/-! the first pair of places that goes wrong -/
def IsFirst (bad : Nat → Nat → Prop) (m r : Nat) : Option (Nat × Nat) → Prop
  | none => ∀ i, i < m → ∀ j, j < r → ¬ bad i j
  | some (i, j) => i < m ∧ j < r ∧ bad i j ∧ (∀ i', i' < i → ∀ j', j' < r → ¬ bad i' j') ∧ ∀ j', j' < j → ¬ bad i j'
theorem IsFirst.uniq {bad : Nat → Nat → Prop} {m r : Nat} : ∀ {a b : Option (Nat × Nat)}, IsFirst bad m r a → IsFirst bad m r b → a = b
  | none, none, _, _ => rfl
  | none, some (i, j), h, ⟨h1, h2, h3, _⟩ => absurd h3 (h i h1 j h2)
  | some (i, j), none, ⟨h1, h2, h3, _⟩, h => absurd h3 (h i h1 j h2)
  | some (i, j), some (k, l), ⟨h1, h2, h3, h4, h5⟩, ⟨g1, g2, g3, g4, g5⟩ => by
    have e1 : i = k := by
      rcases Nat.lt_trichotomy i k with z | z | z
      · exact absurd h3 (g4 i z j h2)
      · exact z
      · exact absurd g3 (h4 k z l g2)
    subst e1
    have e2 : j = l := by
      rcases Nat.lt_trichotomy j l with z | z | z
      · exact absurd h3 (g5 j z)
      · exact z
      · exact absurd g3 (h5 l z)
    rw [e2]
def optD : Option (Nat × Nat) → PyData
  | none => .none
  | some (i, j) => .tuple [.int (i : Int), .int (j : Int)]
def facN (p : Int) (tr : List Trip) (i j : Nat) : List Nu := tr.map fun q => Nu.mul p (q.1.getD i (ofInt p 0)) (q.2.1.getD j (ofInt p 0))
def badN (p : Int) (tr : List Trip) (z i j : Nat) : Prop := combN p (facN p tr i j) (tr.map fun q => q.2.2) z ≠ baseN p z ((i : Int) + (j : Int))
theorem getD_of {xs : List Nu} {i : Nat} {x d : Nu} (h : xs[i]? = some x) : xs.getD i d = x := by
  rw [List.getD_eq_getElem?_getD, h]; rfl
end Tw
namespace Tw
open PySem PySem.Spec PyProof.Rows L2 Evl RZ
/-! ### _law_dressed, _law_bent -/
abbrev sp__law_copied : Sp := spC 5
/-- a program's rows: p, sizes, bits -/
structure TrS (p : Int) (m r z bu bw : Nat) (tr : List Trip) : Prop where
  ok : TrOk m r z tr
  bits : TrBits p bu bw tr
/-- what is solid, told of a draw's two heaps -/
theorem grow_draw {b : Addr} {G H H2 H3 : Hp} {o : HO} (hb : H b = some o) (x : ExB b H H2) (hb2 : ∃ o, H2 b = some o) (x3 : ExB b H2 H3) (Gb : G b = none) : Ex (grow (grow G H H2) H2 H3) (grow G H H3) := fun c u h => by
  obtain ⟨o2, ho2⟩ := hb2
  cases z : H2 c with
  | none =>
    unfold grow at h
    rw [z] at h
    exact grow_new (x.free hb ho2 z) h
  | some u2 =>
    rw [grow_old z] at h
    cases z0 : H c with
    | some u0 => rw [grow_old z0] at h ⊢; exact h
    | none =>
      unfold grow at h
      rw [z0] at h
      have cb : c ≠ b := fun e => by rw [e, hb] at z0; cases z0
      exact grow_new z0 (x3 _ _ cb h)
theorem grow_drawE {b : Addr} {G H H2 : Hp} {o : HO} (hb : H b = some o) (x : ExB b H H2) (Gb : G b = none) (eG : Ex G H) : Ex (grow G H H2) H2 := fun c u h => by
  cases z : H c with
  | some u0 =>
    rw [grow_old z] at h
    exact x _ _ (fun e => by rw [e, Gb] at h; cases h) (eG _ _ h)
  | none => unfold grow at h; rw [z] at h; exact h
theorem grow_b {b : Addr} {G H H2 : Hp} {o : HO} (hb : H b = some o) (Gb : G b = none) : grow G H H2 b = none := by rw [grow_old hb]; exact Gb
structure SolI (b M : Addr) (G H S H' : Hp) : Prop where
  sb : S b = none
  sM : S M = none
  sh : Ex S H'
  old : ∀ c o, S c = some o → G c = some o ∨ H c = none
theorem SolI.fin {b M : Addr} {G H S H' : Hp} (I : SolI b M G H S H') (eG : Ex G H) : Ex S (grow G H H') := fun c o h => by
  rcases I.old c o h with k | k
  · rw [grow_old (eG _ _ k)]; exact k
  · exact grow_new k (I.sh _ _ h)
theorem SolI.step {b M : Addr} {G H S H2 H3 : Hp} {o1 o2 : HO} (I : SolI b M G H S H2) (hb : H2 b = some o1) (hM : H2 M = some o2) (x : ExB b H2 H3) (fr : ∀ c, H2 c = none → H c = none) : SolI b M G H (grow S H2 H3) H3 := by
  refine ⟨by rw [grow_old hb]; exact I.sb, by rw [grow_old hM]; exact I.sM, grow_drawE hb x I.sb I.sh, fun c o h => ?_⟩
  cases z : H2 c with
  | none => exact .inr (fr c z)
  | some u => rw [grow_old z] at h; exact I.old c o h
theorem SolI.set {b M : Addr} {G H S H2 : Hp} {u : HO} (I : SolI b M G H S H2) : SolI b M G H S (upd H2 M u) :=
  ⟨I.sb, I.sM, fun c o h => by rw [upd_ne (fun z => by rw [z, I.sM] at h; cases h)]; exact I.sh _ _ h, I.old⟩
/-- what is new since Ha is new since H2 -/
theorem newer {b : Addr} {S Ha Hb H2 H3 : Hp} {o : HO} (hb : Ha b = some o) (fr : ∀ c, Ha c = none → H2 c = none) (x : ExB b Hb H3) : Ex (grow hp0 Ha Hb) (grow S H2 H3) := fun c u h => by
  cases z : Ha c with
  | some w => rw [grow_old z] at h; cases h
  | none =>
    unfold grow at h
    rw [z] at h
    exact grow_new (fr c z) (x _ _ (fun e => by rw [e, hb] at z; cases z) h)
theorem newH {b : Addr} {Ha Hb H3 : Hp} {o : HO} (hb : Ha b = some o) (x : ExB b Hb H3) : Ex (grow hp0 Ha Hb) H3 := fun c u h => by
  cases z : Ha c with
  | some w => rw [grow_old z] at h; cases h
  | none =>
    unfold grow at h
    rw [z] at h
    exact x _ _ (fun e => by rw [e, hb] at z; cases z) h
theorem BagAt.off {b L M : Addr} {H : Hp} (h : BagAt b L H) : ∀ {H0 : Hp}, BagAt b L H0 → H0 M = none → M ≠ b ∧ M ≠ L := fun {H0} hb0 hM => by
  obtain ⟨_, _, _, _, _, _, k1, k2, _⟩ := hb0
  exact ⟨fun z => (by rw [z, k1] at hM; cases hM), fun z => (by rw [z, k2] at hM; cases hM)⟩
theorem BagAt.upd {b L M : Addr} {H : Hp} {u : HO} (h : BagAt b L H) (n : M ≠ b ∧ M ≠ L) : BagAt b L (upd H M u) := by
  obtain ⟨cs, i, g, m, c, nn, h1, h2, h3⟩ := h
  exact ⟨cs, i, g, m, c, nn, by rw [upd_ne n.1.symm]; exact h1, by rw [upd_ne n.2.symm]; exact h2, h3⟩
theorem ExB.setN {b M : Addr} {H H2 : Hp} {u : HO} (x : ExB b H H2) (hM : H M = none) : ExB b H (upd H2 M u) := fun c o nc h => by
  rw [upd_ne (fun z => by rw [z, hM] at h; cases h)]; exact x _ _ nc h
theorem g_nzN {p : Int} (h : PrN p) {x y : Nu} (hx : x.ok p) (hy : y.ok p) (nx : x ≠ ofInt p 0) (ny : y ≠ ofInt p 0) : Nu.mul p x y ≠ ofInt p 0 := fun z => by
  rcases g_nz h ⟨x, hx⟩ ⟨y, hy⟩ (Gn.ext z) with k | k
  · exact nx (congrArg Subtype.val k)
  · exact ny (congrArg Subtype.val k)
theorem okN_mul {p : Int} {x : Nu} {n m : Nat} {xs : List Nu} (hx : x.ok p) (lx : x.le n) (ox : OkN p m xs) : OkN p (n + m) (xs.map (Nu.mul p x)) := fun y hy => by
  obtain ⟨w, mw, rfl⟩ := List.mem_map.mp hy
  exact ⟨Nu.mul_ok hx (ox w mw).1, Nu.mul_le hx (ox w mw).1 lx (ox w mw).2⟩
theorem okN_mono {p : Int} {n m : Nat} {xs : List Nu} (h : OkN p n xs) (e : n ≤ m) : OkN p m xs := fun x hx => ⟨(h x hx).1, Nu.le_mono e (h x hx).2⟩
def sp__law_dressed : Sp := fun vs H Q _ => ∃ (b L : Addr) (G : Hp) (p : Int) (m r z bu bw : Nat) (tr : List Trip) (v : V), vs = [.ref b, .int p, v] ∧ BagAt b L H ∧ Ex G H ∧ G b = none ∧ PrN p ∧ Dx G v (.list (tr.map tripD)) ∧ TrS p m r z bu bw tr ∧ tr.length ≤ 1000 ∧ m ≤ 100 ∧ r ≤ 100 ∧ z ≤ 100 ∧ bu ≤ 1000 ∧ bw ≤ 1000 ∧
  ∀ (tr' : List Trip) l H', ExB b H H' → BagAt b L H' → TrS p m r z (bu + 14) (bw + 28) tr' → tr'.length = tr.length → H l = none → Dx (grow G H H') (.ref l) (.list (tr'.map tripD)) → Q (.ref l) H'
def t_f_law_dressed (K : PySem.W.Frag) : TS :=
    (tSeq (tAsg (tLst tNil) (gName 3))
    (tSeq (tFor (iSeq K (tCall sp__law_mixed [] E0 (tCons (tVar 0) (tCons (tVar 2) tNil)))) (gTup K 3 (gCons (gName 4) (gCons (gName 5) (gCons (gName 6) gNil)))) (tSeq (tPar 7 8 (tCons (tCall sp__law_unit [] E0 (tCons (tVar 0) (tCons (tVar 1) tNil))) (tCons (tCall sp__law_unit [] E0 (tCons (tVar 0) (tCons (tVar 1) tNil))) tNil)))
    (tDrop (tBM K "list" rAppend (tVar 3) (tCons (tTup (tCons (tCall sp__law_times [] E0 (tCons (tVar 1) (tCons (tVar 7) (tCons (tVar 4) tNil)))) (tCons (tCall sp__law_times [] E0 (tCons (tVar 1) (tCons (tVar 8) (tCons (tVar 5) tNil)))) (tCons (tCall sp__law_times [] E0 (tCons (tVar 1) (tCons (tCall sp__law_inv [] E0 (tCons (tVar 1) (tCons (tCall sp__law_mul [] E0 (tCons (tVar 1) (tCons (tVar 7) (tCons (tVar 8) tNil)))) tNil))) (tCons (tVar 6) tNil)))) tNil)))) tNil)))))
    (tRet (tVar 3))))
theorem pure_dressed (K : PySem.W.Frag) (vs : List V) (H : Hp) (Q : VK) (E : XK) (h : sp__law_dressed vs H Q E) : t_f_law_dressed K { nx := fun _ H' => Q .non H', rt := Q } (start ["bag", "p", "triples", "told", "u", "v", "w", "one", "two"] vs) H := by
  obtain ⟨b, L, G, p, m, r, z, bu, bw, tr, v, rfl, hb, eG, Gb, hp, dv, ts, l1000, m100, r100, z100, b1000, w1000, q⟩ := h
  have p0 := hp.nonneg
  obtain ⟨ob, hob⟩ := hb.some
  unfold t_f_law_dressed
  walk_at "tw"
  refine ⟨by show 0 ≤ sizeLine; decide, fun M hM => ?_⟩
  have e1 : Ex H (upd H M (.lst [])) := Ex.new hM
  have off := BagAt.off hb hb hM
  walk_at "tw"
  refine ⟨G, b, L, v, tr.map tripD, rfl, hb.ex e1, eG.trans e1, Gb, dv, by simp; omega, fun es l H2 x2 hb2 pe hl d2 => ?_⟩
  obtain ⟨tm, rfl, ptm⟩ := perm_map pe _ rfl
  have hob1 := e1 _ _ hob
  obtain ⟨ob2, hob2⟩ := hb2.some
  obtain ⟨G1, hG1⟩ : ∃ G1, G1 = grow G (upd H M (.lst [])) H2 := ⟨_, rfl⟩
  rw [← hG1] at d2
  have x02 : ExB b H H2 := (ExB.of e1).trans x2
  have hM2 : H2 M = some (.lst []) := x2 _ _ off.1 upd_same
  have fr2 : ∀ c, H2 c = none → H c = none := fun c h => x02.free hob hob2 h
  have S0 : SolI b M G H G1 H2 := by
    refine ⟨by rw [hG1]; exact grow_b hob1 Gb, by rw [hG1, grow_old upd_same]; exact fresh_back eG hM, by rw [hG1]; exact grow_drawE hob1 x2 Gb (eG.trans e1), fun c o h => ?_⟩
    rw [hG1] at h
    cases z1 : upd H M (.lst []) c with
    | some u => rw [grow_old z1] at h; exact .inl h
    | none => exact .inr (fresh_back e1 z1)
  obtain ⟨_, us, el, hl1, ru, lu⟩ := d2.lst_map
  cases el
  have tsm : TrS p m r z bu bw tm := ⟨fun w hw => ts.ok w (ptm.mem_iff.mp hw), fun w hw => ts.bits w (ptm.mem_iff.mp hw)⟩
  have ltm : tm.length = tr.length := ptm.length_eq
  have lb : ∀ S, Ex G1 S → ∀ c o, G1 c = some o → S c = some o := fun S e c o h => e _ _ h
  refine ⟨l, rfl, .inl ⟨⟨_, SqL.of (S0.sh _ _ hl1)⟩, ?_⟩⟩
  refine for_list (K := K) (a := l) (xs := us) (fun i σ' H' => ∃ (o4 o5 o6 o7 o8 : Option V) (S : Hp) (ws : List V) (tr' : List Trip), σ' = [some (.ref b), some (.int p), some v, some (.ref M), o4, o5, o6, o7, o8] ∧ ExB b H H' ∧ BagAt b L H' ∧ SolI b M G H S H' ∧ Ex G1 S ∧ H' M = some (.lst ws) ∧ DxA S ws (tr'.map tripD) ∧ tr'.length = i ∧ TrS p m r z (bu + 14) (bw + 28) tr')
    ⟨none, none, none, none, none, G1, [], [], rfl, x02, hb2, S0, Ex.refl _, hM2, .nil, rfl, ⟨fun w hw => (by cases hw), fun w hw => (by cases hw)⟩⟩ (fun i σ' H' _ ⟨_, _, _, _, _, S, _, _, _, _, _, I, e, _⟩ => SqL.of (I.sh _ _ (e _ _ hl1))) ?_ ?_
  · rintro i u σ' H3 hu ⟨o4, o5, o6, o7, o8, S, ws, tr', rfl, x3, hb3, I, eS, hM3, dx, li, ts'⟩
    obtain ⟨w, ew, mw, dw⟩ := ru.map_get hu
    obtain ⟨w1, w2, w3⟩ := tsm.ok w mw
    obtain ⟨c1, c2, c3⟩ := tsm.bits w mw
    have dwS := dw.mono eS
    obtain ⟨A, v1, v2, v3, rfl, hA, d1, d2', d3⟩ := dwS.three_inv
    have hA3 := I.sh _ _ hA
    obtain ⟨ob3, hob3⟩ := hb3.some
    have iu : i < us.length := (List.getElem?_eq_some_iff.mp hu).1
    walk_at "tw"
    refine ⟨b, L, p, rfl, hb3, hp, fun x1 y1 H4 x4 hb4 ok1 le1 nz1 dy1 => ?_⟩
    walk_at "tw"
    refine ⟨b, L, p, rfl, hb4, hp, fun x5 y5 H5 xx5 hb5 ok5 le5 nz5 dy5 => ?_⟩
    obtain ⟨ob4, hob4⟩ := hb4.some
    obtain ⟨ob5, hob5⟩ := hb5.some
    have x35 := x4.trans xx5
    have hM5 := x35 _ _ off.1 hM3
    have dy1' : Dx H5 y1 x1.d := dy1.mono (newH hob3 xx5)
    have dy5' : Dx H5 y5 x5.d := dy5.mono (newH hob4 (ExB.refl _ _))
    have toH5 : ∀ {c o}, S c = some o → H5 c = some o := fun {c o} h => x35 _ _ (fun e => by rw [e, I.sb] at h; cases h) (I.sh _ _ h)
    have e5S : Ex S H5 := fun c o h => toH5 h
    walk_at "tw"
    refine ⟨c_tyL hM5, ?_⟩
    walk_at "tw"
    refine ⟨p, x1, w.1, y1, v1, 14, bu, rfl, p0, ok1, le1, c1, by omega, by omega, dy1', d1.mono e5S, fun r1 H6 e6 d6 => ?_⟩
    walk_at "tw"
    refine ⟨p, x5, w.2.1, y5, v2, 14, bu, rfl, p0, ok5, le5, c2, by omega, by omega, dy5'.mono e6, (d2'.mono e5S).mono e6, fun r2 H7 e7 d7 => ?_⟩
    walk_at "tw"
    refine ⟨hp0, p, x1, x5, y1, y5, 14, 14, rfl, p0, ok1, ok5, dy1'.mono (e6.trans e7), dy5'.mono (e6.trans e7), le1, le5, by decide, fun r3 H8 e8 d8 => ?_⟩
    have nzm := g_nzN hp ok1 ok5 nz1 nz5
    have okm := Nu.mul_ok ok1 ok5
    have lem := Nu.mul_le ok1 ok5 le1 le5
    walk_at "tw"
    refine ⟨hp0, p, Nu.mul p x1 x5, r3, rfl, hp, okm, nzm, Nu.le_mono (by decide) lem, d8.mono (grow_in (ex0 _)), fun r4 H9 e9 d9 => ?_⟩
    have lei := Nu.inv_le hp okm lem (by decide)
    walk_at "tw"
    refine ⟨p, Nu.inv p (Nu.mul p x1 x5), w.2.2, r4, v3, 28, bw, rfl, p0, Nu.inv_ok okm, lei, c3, by omega, by omega, d9.mono (grow_in (ex0 _)), (d3.mono e5S).mono (((e6.trans e7).trans e8).trans e9), fun r5 H10 e10 d10 => ?_⟩
    walk_at "tw"
    refine ⟨by show 3 ≤ sizeLine; decide, fun T fT => ?_⟩
    have e5T := ((((e6.trans e7).trans e8).trans e9).trans e10).trans (Ex.new (o := .tup [r1, r2, r5]) fT)
    walk_at "tw"
    have lws : ws.length = i := by rw [dx.length, List.length_map, li]
    refine c_app (e5T _ _ hM5) (sz_of_le (by omega)) ?_
    have x3T : ExB b H3 (upd H10 T (.tup [r1, r2, r5])) := x35.trans (ExB.of e5T)
    have fr3 : ∀ c, H3 c = none → H c = none := fun c h => x3.free hob hob3 h
    have fr35 : ∀ c, H5 c = none → H3 c = none := fun c h => x35.free hob3 hob5 h
    have I2 := I.step hob3 hM3 x3T fr3
    have newS : ∀ {Ha Hb : Hp}, Ex H5 Ha → Ex Hb (upd H10 T (.tup [r1, r2, r5])) → Ex (grow hp0 Ha Hb) (grow S H3 (upd H10 T (.tup [r1, r2, r5]))) := fun {Ha Hb} ea eb => newer (ea _ _ hob5) (fun c h => fr35 c (fresh_back ea h)) (ExB.of eb)
    refine ⟨_, _, _, _, _, grow S H3 (upd H10 T (.tup [r1, r2, r5])), ws ++ [.ref T], tr' ++ [(w.1.map (Nu.mul p x1), w.2.1.map (Nu.mul p x5), w.2.2.map (Nu.mul p (Nu.inv p (Nu.mul p x1 x5))))], rfl, (x3.trans x3T).setN hM, (hb5.ex e5T).upd off, I2.set, eS.trans (grow_ex I.sh), upd_same, ?_, by rw [List.length_append, li]; rfl, ?_⟩
    · rw [List.map_append]
      refine (dx.mono (grow_ex I.sh)).append (.cons ?_ .nil)
      refine .tup (grow_new (fr35 T (fresh_back ((((e6.trans e7).trans e8).trans e9).trans e10) fT)) upd_same) (.cons (d6.mono (newS (Ex.refl _) ((((e7.trans e8).trans e9).trans e10).trans (Ex.new fT)))) (.cons (d7.mono (newS e6 (((e8.trans e9).trans e10).trans (Ex.new fT)))) (.cons (d10.mono (newS (((e6.trans e7).trans e8).trans e9) (Ex.new fT))) .nil)))
    · refine ⟨fun y hy => ?_, fun y hy => ?_⟩
      · rcases List.mem_append.mp hy with h | h
        · exact ts'.ok y h
        · rw [List.mem_singleton.mp h]
          exact ⟨by rw [List.length_map]; exact w1, by rw [List.length_map]; exact w2, by rw [List.length_map]; exact w3⟩
      · rcases List.mem_append.mp hy with h | h
        · exact ts'.bits y h
        · rw [List.mem_singleton.mp h]
          exact ⟨okN_mono (okN_mul ok1 le1 c1) (by omega), okN_mono (okN_mul ok5 le5 c2) (by omega), okN_mono (okN_mul (Nu.inv_ok okm) lei c3) (by omega)⟩
  · rintro σ' H3 ⟨o4, o5, o6, o7, o8, S, ws, tr', rfl, x3, hb3, I, eS, hM3, dx, li, ts'⟩
    walk_at "tw"
    exact q tr' M H3 x3 hb3 ts' (by omega) hM (.lst (grow_new hM hM3) (dx.mono (I.fin eG)))
end Tw
namespace Tw
open PySem PySem.Spec PyProof.Rows L2 Evl RZ
/-! ### _law_bent -/
def sp__law_pickT : Sp := fun vs H Q _ => ∃ (b L l : Addr) (xs : List V), vs = [.ref b, .ref l] ∧ BagAt b L H ∧ l ≠ b ∧ H l = some (.tup xs) ∧ 0 < xs.length ∧ xs.length < 1000000 ∧ ∀ (j : Nat) v H', xs[j]? = some v → ExB b H H' → BagAt b L H' → Q v H'
theorem pure_pickT (K : PySem.W.Frag) (vs : List V) (H : Hp) (Q : VK) (E : XK) (h : sp__law_pickT vs H Q E) : t_f_law_pick K { nx := fun _ H' => Q .non H', rt := Q } (start ["bag", "menu"] vs) H := by
  obtain ⟨b, L, l, xs, rfl, hb, hl, hx, n0, n1, q⟩ := h
  unfold t_f_law_pick
  with_reducible refine c_ret ?_
  with_reducible refine c_op ?_
  refine c_var (by exact rfl) ?_
  with_reducible refine c_call ?_
  with_reducible refine c_cons ?_
  refine c_var (by exact rfl) ?_
  with_reducible refine c_cons ?_
  with_reducible refine c_cb ?_
  with_reducible refine c_cons ?_
  refine c_var (by exact rfl) ?_
  with_reducible refine c_nil ?_
  refine c_lenT (SqT.of hx) ?_
  with_reducible refine c_nil ?_
  refine ⟨b, L, _, rfl, hb, by omega, by omega, fun d H' x hb' d0 d1 => ?_⟩
  have hx' := x _ _ hl hx
  obtain ⟨j, rfl⟩ : ∃ j : Nat, d = (j : Int) := ⟨d.toNat, by omega⟩
  have hj : xs[j]? = some xs[j] := List.getElem?_eq_getElem (by omega)
  refine c_ixT (SqT.of hx') (atI_nat hj) ?_
  exact q j _ _ hj x hb'
theorem dep_row {xs : List Nu} (h : xs.length ≤ 30000) : Dep 2 (rowN xs) := ⟨by rw [List.length_map]; exact h, fun d hd => by
  obtain ⟨x, _, rfl⟩ := List.mem_map.mp hd
  cases x with
  | r i => exact trivial
  | f q =>
    refine ⟨by show 2 ≤ 30000; decide, fun d hd => ?_⟩
    (rcases List.mem_cons.mp hd with rfl | hd)
    · exact trivial
    (rcases List.mem_cons.mp hd with rfl | hd)
    · exact trivial
    · cases hd⟩
theorem dep_trip {q : Trip} (h1 : q.1.length ≤ 30000) (h2 : q.2.1.length ≤ 30000) (h3 : q.2.2.length ≤ 30000) : Dep 3 (tripD q) := ⟨by show 3 ≤ 30000; decide, fun d hd => by
  (rcases List.mem_cons.mp hd with rfl | hd)
  · exact dep_row h1
  (rcases List.mem_cons.mp hd with rfl | hd)
  · exact dep_row h2
  (rcases List.mem_cons.mp hd with rfl | hd)
  · exact dep_row h3
  · cases hd⟩
theorem dep_trs {m r z : Nat} {tr : List Trip} (ok : TrOk m r z tr) (hm : m ≤ 100) (hr : r ≤ 100) (hz : z ≤ 100) (hl : tr.length ≤ 1000) : Dep 4 (.list (tr.map tripD)) := ⟨by rw [List.length_map]; omega, fun d hd => by
  obtain ⟨q, hq, rfl⟩ := (List.mem_map.mp hd)
  obtain ⟨h1, h2, h3⟩ := ok q hq
  exact dep_trip (by omega) (by omega) (by omega)⟩
def sp__law_bent : Sp := fun vs H Q _ => ∃ (b L : Addr) (G : Hp) (p : Int) (m r z bu bw : Nat) (tr : List Trip) (v : V), vs = [.ref b, .int p, v] ∧ BagAt b L H ∧ Ex G H ∧ G b = none ∧ PrN p ∧ Dx G v (.list (tr.map tripD)) ∧ TrS p m r z bu bw tr ∧ 1 ≤ tr.length ∧ tr.length ≤ 1000 ∧ 1 ≤ m ∧ 1 ≤ r ∧ 1 ≤ z ∧ m ≤ 100 ∧ r ≤ 100 ∧ z ≤ 100 ∧ bu ≤ 1000 ∧ bw ≤ 1000 ∧
  ∀ (tr' : List Trip) l H', ExB b H H' → BagAt b L H' → TrS p m r z (bu + 15) (bw + 15) tr' → tr'.length = tr.length → H l = none → Dx (grow G H H') (.ref l) (.list (tr'.map tripD)) → Q (.ref l) H'
def t_f_law_bent (K : PySem.W.Frag) : TS :=
    (tSeq (tAsg (tCall sp__law_copied [] E0 (tCons (tVar 2) tNil)) (gName 3))
    (tSeq (tAsg (tCall sp__law_pickT [] E0 (tCons (tVar 0) (tCons (tCall sp__law_pick [] E0 (tCons (tVar 0) (tCons (tVar 3) tNil))) tNil))) (gName 4))
    (tSeq (tAsg (tCall sp__law_draw [] E0 (tCons (tVar 0) (tCons (tCB (uLen K) (tCons (tVar 4) tNil)) tNil))) (gName 5))
    (tSeq (tAsg (tCall sp__law_add [] E0 (tCons (tVar 1) (tCons (tOp (uIx K) (tVar 4) (tVar 5)) (tCons (tCall sp__law_unit [] E0 (tCons (tVar 0) (tCons (tVar 1) tNil))) tNil)))) (gSub (tVar 4) (tVar 5) rSetL))
    (tRet (tVar 3))))))
theorem trset {p : Int} {m r z bu bw : Nat} {tr : List Trip} {k : Nat} {q : Trip} (ts : TrS p m r z bu bw tr) (o : q.1.length = m ∧ q.2.1.length = r ∧ q.2.2.length = z) (b : OkN p (bu + 15) q.1 ∧ OkN p (bu + 15) q.2.1 ∧ OkN p (bw + 15) q.2.2) : TrS p m r z (bu + 15) (bw + 15) (tr.set k q) := by
  refine ⟨fun w hw => ?_, fun w hw => ?_⟩
  · rcases List.mem_or_eq_of_mem_set hw with h | h
    · exact ts.ok w h
    · rw [h]; exact o
  · rcases List.mem_or_eq_of_mem_set hw with h | h
    · obtain ⟨h1, h2, h3⟩ := ts.bits w h
      exact ⟨okN_mono h1 (by omega), okN_mono h2 (by omega), okN_mono h3 (by omega)⟩
    · rw [h]; exact b
theorem okN_set {p : Int} {n : Nat} {xs : List Nu} {k : Nat} {x : Nu} (h : OkN p n xs) (hx : x.ok p ∧ x.le n) : OkN p n (xs.set k x) := fun y hy => by
  rcases List.mem_or_eq_of_mem_set hy with h' | h'
  · exact h y h'
  · rw [h']; exact hx
theorem nuD_fn {S : Hp} {v : V} {x y : Nu} (h1 : Dx S v x.d) (h2 : Dx S v y.d) : x = y := by
  cases x with
  | r i =>
    cases h1.int_inv
    cases y with
    | r j => have := h2.int_inv; cases this; rfl
    | f b => obtain ⟨a, e, _⟩ := h2.frac_inv; cases e
  | f a =>
    obtain ⟨c, rfl, hc⟩ := h1.frac_inv
    cases y with
    | r j => have := h2.int_inv; cases this
    | f b =>
      obtain ⟨c', e, hc'⟩ := h2.frac_inv
      cases e
      rw [hc] at hc'
      injection hc' with k
      injection k with k
      injection k with k1 k
      injection k with k2 _
      injection k1 with k1
      injection k2 with k2
      exact congrArg Nu.f (Rat.ext k1 (Int.ofNat.inj k2))
theorem nusD_fn {S : Hp} : ∀ {us : List V} {xs ys : List Nu}, DxA S us (xs.map Nu.d) → DxA S us (ys.map Nu.d) → xs = ys
  | _, [], [], _, _ => rfl
  | _, [], _ :: _, h1, h2 => by cases h1; cases h2
  | _, _ :: _, [], h1, h2 => by cases h2; cases h1
  | _, x :: xs, y :: ys, .cons a r, .cons b s => by rw [nuD_fn a b, nusD_fn r s]
section
variable {S S' : Hp} {a : Addr} {us : List V} {xv : V} {n : Nat} {x0 y : Nu} {p : Int} {xs : List Nu}
theorem nu_keep (hS : ∀ c o, c ≠ a → S c = some o → S' c = some o) (ha : S a = some (.lst us)) {v : V} {x : Nu} (h : Dx S v x.d) : Dx S' v x.d := by
  cases x with
  | r i => rw [h.int_inv]; exact .int i
  | f q =>
    obtain ⟨c, rfl, hc⟩ := h.frac_inv
    have ca : c ≠ a := fun z => by rw [z, ha] at hc; cases hc
    exact Dx.frac (hS _ _ ca hc) rfl rfl
theorem nus_keep (hS : ∀ c o, c ≠ a → S c = some o → S' c = some o) (ha : S a = some (.lst us)) : ∀ {vs : List V} {ys : List Nu}, DxA S vs (ys.map Nu.d) → DxA S' vs (ys.map Nu.d)
  | _, [], .nil => .nil
  | _, _ :: _, .cons h r => .cons (nu_keep hS ha h) (nus_keep hS ha r)
theorem bent_row (hS : ∀ c o, c ≠ a → S c = some o → S' c = some o) (ha : S a = some (.lst us)) (ha' : S' a = some (.lst (us.set n xv))) (dx : DxA S us (xs.map Nu.d)) (hn : xs[n]? = some x0) (oy : y.ok p) (ly : y.le 14) (dxv : Dx S' xv (Nu.add p x0 y).d)
    {v : V} {ys : List Nu} {b : Nat} (h : Dx S v (rowN ys)) (ok : OkN p b ys) : ∃ ys', Dx S' v (rowN ys') ∧ ys'.length = ys.length ∧ OkN p (b + 15) ys' := by
  obtain ⟨c, vs, rfl, hc, rr, lr⟩ := rowN_inv h
  by_cases e : c = a
  · subst e
    rw [ha] at hc
    injection hc with hc
    injection hc with hc
    subst hc
    have exy := nusD_fn dx rr
    subst exy
    obtain ⟨o0, l0⟩ := ok x0 (List.mem_of_getElem? hn)
    refine ⟨xs.set n (Nu.add p x0 y), .lst ha' ?_, by simp, okN_set (okN_mono ok (by omega)) ⟨Nu.add_ok o0 oy, Nu.le_mono (by omega) (Nu.add_le o0 oy l0 ly)⟩⟩
    rw [List.map_set]
    exact DxA.set n (nus_keep hS ha rr) dxv
  · exact ⟨ys, .lst (hS _ _ e hc) (nus_keep hS ha rr), rfl, okN_mono ok (by omega)⟩
theorem bent_data (hS : ∀ c o, c ≠ a → S c = some o → S' c = some o) (ha : S a = some (.lst us)) (ha' : S' a = some (.lst (us.set n xv))) (dx : DxA S us (xs.map Nu.d)) (hn : xs[n]? = some x0) (oy : y.ok p) (ly : y.le 14) (dxv : Dx S' xv (Nu.add p x0 y).d) {m r z bu bw : Nat} :
    ∀ {vs : List V} {tr : List Trip}, DxA S vs (tr.map tripD) → TrS p m r z bu bw tr → ∃ tr', DxA S' vs (tr'.map tripD) ∧ TrS p m r z (bu + 15) (bw + 15) tr' ∧ tr'.length = tr.length
  | _, [], .nil, _ => ⟨[], .nil, ⟨fun w hw => (by cases hw), fun w hw => (by cases hw)⟩, rfl⟩
  | _, q :: tr, .cons h rest, ts => by
    obtain ⟨tr', k1, k2, k3⟩ := bent_data hS ha ha' dx hn oy ly dxv rest ⟨fun w hw => ts.ok w (List.mem_cons_of_mem _ hw), fun w hw => ts.bits w (List.mem_cons_of_mem _ hw)⟩
    obtain ⟨A, v1, v2, v3, rfl, hA, d1, d2, d3⟩ := h.three_inv
    obtain ⟨w1, w2, w3⟩ := ts.ok q List.mem_cons_self
    obtain ⟨b1, b2, b3⟩ := ts.bits q List.mem_cons_self
    obtain ⟨y1, f1, g1, i1⟩ := bent_row hS ha ha' dx hn oy ly dxv d1 b1
    obtain ⟨y2, f2, g2, i2⟩ := bent_row hS ha ha' dx hn oy ly dxv d2 b2
    obtain ⟨y3, f3, g3, i3⟩ := bent_row hS ha ha' dx hn oy ly dxv d3 b3
    have Aa : A ≠ a := fun z => by rw [z, ha] at hA; cases hA
    refine ⟨(y1, y2, y3) :: tr', .cons (.tup (hS _ _ Aa hA) (.cons f1 (.cons f2 (.cons f3 .nil)))) k1, ⟨fun w hw => ?_, fun w hw => ?_⟩, by rw [List.length_cons, List.length_cons, k3]⟩
    · rcases List.mem_cons.mp hw with rfl | h
      · exact ⟨by rw [g1]; exact w1, by rw [g2]; exact w2, by rw [g3]; exact w3⟩
      · exact k2.ok w h
    · rcases List.mem_cons.mp hw with rfl | h
      · exact ⟨i1, i2, i3⟩
      · exact k2.bits w h
end
theorem pure_bent (K : PySem.W.Frag) (vs : List V) (H : Hp) (Q : VK) (E : XK) (h : sp__law_bent vs H Q E) : t_f_law_bent K { nx := fun _ H' => Q .non H', rt := Q } (start ["bag", "p", "triples", "told", "row", "at"] vs) H := by
  obtain ⟨b, L, G, p, m, r, z, bu, bw, tr, v, rfl, hb, eG, Gb, hp, dv, ts, l1, l1000, m1, r1, z1, m100, r100, z100, b1000, w1000, q⟩ := h
  have p0 := hp.nonneg
  obtain ⟨ob, hob⟩ := hb.some
  unfold t_f_law_bent
  walk_at "tw"
  refine ⟨v, .list (tr.map tripD), rfl, dv.mono eG, dep_trs ts.ok m100 r100 z100 l1000, fun v3 H1 e1 d1 => ?_⟩
  obtain ⟨S, hS⟩ : ∃ S, S = grow hp0 H H1 := ⟨_, rfl⟩
  rw [← hS] at d1
  have eS : Ex S H1 := by rw [hS]; exact grow_in (ex0 _)
  have nS : ∀ c o, S c = some o → H c = none := fun c o h => by
    cases k : H c with
    | none => rfl
    | some u => rw [hS, grow_old k] at h; cases h
  have Sb : ∀ c o, S c = some o → c ≠ b := fun c o h e => by rw [e] at h; rw [nS b o h] at hob; cases hob
  obtain ⟨l, us, rfl, hl, ru, lu⟩ := d1.lst_map
  have hl1 := eS _ _ hl
  walk_at "tw"
  refine ⟨b, L, l, us, rfl, hb.ex e1, Sb _ _ hl, hl1, by omega, by omega, fun k u H2 hu x2 hb2 => ?_⟩
  obtain ⟨w, ew, mw, dw⟩ := ru.map_get hu
  obtain ⟨A, v1, v2, v3, rfl, hA, d1', d2, d3⟩ := dw.three_inv
  obtain ⟨w1, w2, w3⟩ := ts.ok w mw
  have S2 : Ex S H2 := fun c o h => x2 _ _ (Sb c o h) (eS _ _ h)
  walk_at "tw"
  refine ⟨b, L, A, [v1, v2, v3], rfl, hb2, Sb _ _ hA, S2 _ _ hA, by show 0 < 3; decide, by show 3 < 1000000; decide, fun c cv H3 hc x3 hb3 => ?_⟩
  have S3 : Ex S H3 := fun c o h => x3 _ _ (Sb c o h) (S2 _ _ h)
  obtain ⟨ys, dys, ly1, ly2⟩ : ∃ ys, Dx S cv (rowN ys) ∧ 1 ≤ ys.length ∧ ys.length ≤ 100 := by
    match c, hc with
    | 0, hc => cases hc; exact ⟨w.1, d1', by omega, by omega⟩
    | 1, hc => cases hc; exact ⟨w.2.1, d2, by omega, by omega⟩
    | 2, hc => cases hc; exact ⟨w.2.2, d3, by omega, by omega⟩
    | c + 3, hc => cases hc
  obtain ⟨okb, hokb⟩ : ∃ bb, OkN p bb ys ∧ bb ≤ 1000 := by
    obtain ⟨b1, b2, b3⟩ := ts.bits w mw
    match c, hc with
    | 0, hc => cases hc; exact ⟨bu, (by
        obtain ⟨_, _, e1, k1, r1', _⟩ := rowN_inv dys
        obtain ⟨_, _, e2, k2, r2', _⟩ := rowN_inv d1'
        rw [e1] at e2; cases e2
        rw [k1] at k2; injection k2 with k2; injection k2 with k2; subst k2
        rw [nusD_fn r1' r2']; exact b1), b1000⟩
    | 1, hc => cases hc; exact ⟨bu, (by
        obtain ⟨_, _, e1, k1, r1', _⟩ := rowN_inv dys
        obtain ⟨_, _, e2, k2, r2', _⟩ := rowN_inv d2
        rw [e1] at e2; cases e2
        rw [k1] at k2; injection k2 with k2; injection k2 with k2; subst k2
        rw [nusD_fn r1' r2']; exact b2), b1000⟩
    | 2, hc => cases hc; exact ⟨bw, (by
        obtain ⟨_, _, e1, k1, r1', _⟩ := rowN_inv dys
        obtain ⟨_, _, e2, k2, r2', _⟩ := rowN_inv d3
        rw [e1] at e2; cases e2
        rw [k1] at k2; injection k2 with k2; injection k2 with k2; subst k2
        rw [nusD_fn r1' r2']; exact b3), w1000⟩
    | c + 3, hc => cases hc
  obtain ⟨a, rs, rfl, ha, rr, lr⟩ := rowN_inv dys
  have ha3 := S3 _ _ ha
  walk_at "tw"
  refine ⟨b, L, (rs.length : Int), rfl, hb3, by omega, by omega, fun nn H4 x4 hb4 n0 n1 => ?_⟩
  obtain ⟨n, rfl⟩ : ∃ n : Nat, nn = (n : Int) := ⟨nn.toNat, by omega⟩
  have S4 : Ex S H4 := fun c o h => x4 _ _ (Sb c o h) (S3 _ _ h)
  have hrn : rs[n]? = some rs[n] := List.getElem?_eq_getElem (by omega)
  obtain ⟨x0, hx0, mx0, dx0⟩ := rr.nu2 hrn
  obtain ⟨o0, le0⟩ := hokb.1 x0 mx0
  have ha4 := S4 _ _ ha
  walk_at "tw"
  refine ⟨b, L, p, rfl, hb4, hp, fun y yv H5 x5 hb5 oy ly nzy dy => ?_⟩
  obtain ⟨ob4, hob4⟩ := hb4.some
  have S5 : Ex S H5 := fun c o h => x5 _ _ (Sb c o h) (S4 _ _ h)
  have dy5 : Dx H5 yv y.d := dy.mono (newH hob4 (ExB.refl _ _))
  walk_at "tw"
  refine ⟨hp0, p, x0, y, rs[n], yv, okb, 14, rfl, p0, o0, oy, dx0.mono S5, dy5, le0, ly, by omega, fun xv H6 e6 d6 => ?_⟩
  have ha6 := e6 _ _ (S5 _ _ ha)
  walk_at "tw"
  refine c_setL (n := n) ha6 (Evl.ixN_nat (by omega)) ?_
  walk_at "tw"
  have x06 : ExB b H H6 := (ExB.of e1).trans (x2.trans (x3.trans (x4.trans (x5.trans (ExB.of e6)))))
  have a0 : H a = none := nS a _ ha
  have l0 : H l = none := nS l _ hl
  have offa := BagAt.off hb hb a0
  obtain ⟨ob5, hob5⟩ := hb5.some
  have keepS : ∀ c o, c ≠ a → S c = some o → grow hp0 H (upd H6 a (.lst (rs.set n xv))) c = some o := fun c o ca h => grow_new (nS c o h) (by rw [upd_ne ca]; exact e6 _ _ (S5 _ _ h))
  have x05 : ExB b H H5 := (ExB.of e1).trans (x2.trans (x3.trans (x4.trans x5)))
  have dxv : Dx (grow hp0 H (upd H6 a (.lst (rs.set n xv)))) xv (Nu.add p x0 y).d := by
    refine d6.mono fun c o h => ?_
    cases k : H5 c with
    | some u => rw [grow_old k] at h; cases h
    | none =>
      unfold grow at h
      rw [k] at h
      have ca : c ≠ a := fun e => by rw [e] at k; rw [S5 _ _ ha] at k; cases k
      exact grow_new (x05.free hob hob5 k) (by rw [upd_ne ca]; exact h)
  obtain ⟨tr', k1, k2, k3⟩ := bent_data keepS ha (grow_new a0 upd_same) rr hx0 oy ly dxv ru ts
  have la : l ≠ a := fun e => by
    rw [e, ha] at hl
    injection hl with hl
    injection hl with hl
    rw [← hl] at hu
    obtain ⟨xk, _, _, dk⟩ := rr.nu2 hu
    cases xk with
    | r i => have := dk.int_inv; cases this
    | f a' =>
      obtain ⟨A', eA, hA'⟩ := dk.frac_inv
      cases eA
      rw [hA] at hA'
      cases hA'
  refine q tr' l _ (x06.setN a0) ((hb5.ex e6).upd offa) k2 k3 l0 ?_
  exact .lst (grow_new l0 (by rw [upd_ne la]; exact e6 _ _ (S5 _ _ hl))) (k1.mono (grow_mono (ex0 _) (Ex.refl _)))
end Tw
namespace Tw
open PySem PySem.Spec PyProof.Rows L2 Evl RZ LamX
/-! ### _first_unlike, errs_rectangle -/
theorem dotL_skip {α : Type} {p : Int} (h : 0 ≤ p) (c : α → Bool) (f : α → Nu × Nu) : ∀ (l : List α) (t : Nu), t.ok p → (∀ a ∈ l, (f a).1.ok p ∧ (f a).2.ok p ∧ (c a = false → (f a).1 = ofInt p 0)) → dotL p t ((l.filter c).map f) = dotL p t (l.map f)
  | [], _, _, _ => rfl
  | a :: l, t, ht, hl => by
    obtain ⟨h1, h2, h3⟩ := hl a List.mem_cons_self
    have tail := fun t ht => dotL_skip h c f l t ht fun x hx => hl x (List.mem_cons_of_mem _ hx)
    cases e : c a with
    | true =>
      rw [List.filter_cons_of_pos e]
      exact tail _ (Nu.add_ok ht (Nu.mul_ok h1 h2))
    | false =>
      rw [List.filter_cons_of_neg (by rw [e]; decide)]
      show _ = dotL p (Nu.add p t (Nu.mul p (f a).1 (f a).2)) (l.map f)
      rw [h3 e, nuMul0 h h2, nuAdd0 h ht]
      exact tail t ht
def seenN (p : Int) (tr : List Trip) (i : Nat) : List Trip := tr.filter fun q => decide (q.1.getD i (ofInt p 0) ≠ ofInt p 0)
def seenD (p : Int) (i : Nat) (q : Trip) : PyData := .tuple [(q.1.getD i (ofInt p 0)).d, rowN q.2.1, rowN q.2.2]
theorem getD_okN {p : Int} (h : 0 ≤ p) {n k : Nat} {xs : List Nu} (ox : OkN p n xs) : (xs.getD k (ofInt p 0)).ok p := by
  (rw [List.getD_eq_getElem?_getD])
  cases e : xs[k]? with
  | none => exact ofInt_ok h
  | some x => exact (ox x (List.mem_of_getElem? e)).1
theorem comb_seen {p : Int} (h : 0 ≤ p) {bu bw : Nat} {tr : List Trip} (tb : TrBits p bu bw tr) (z i j : Nat) : combN p (facN p (seenN p tr i) i j) ((seenN p tr i).map fun q => q.2.2) z = combN p (facN p tr i j) (tr.map fun q => q.2.2) z := by
  unfold combN
  refine (List.map_congr_left fun k _ => ?_)
  unfold dotN col facN
  rw [List.map_map, List.map_map, zip_maps, zip_maps]
  refine dotL_skip h _ (fun q : Trip => (Nu.mul p (q.1.getD i (ofInt p 0)) (q.2.1.getD j (ofInt p 0)), ((fun r : List Nu => r.getD k (ofInt p 0)) ∘ fun q : Trip => q.2.2) q)) tr _ (ofInt_ok h) fun q hq => ?_
  obtain ⟨b1, b2, b3⟩ := tb q hq
  refine ⟨Nu.mul_ok (getD_okN h b1) (getD_okN h b2), getD_okN h b3, fun e => ?_⟩
  have e2 : q.1.getD i (ofInt p 0) = ofInt p 0 := by simpa using e
  show Nu.mul p (q.1.getD i (ofInt p 0)) _ = _
  rw [e2, nuMul0 h (getD_okN h b2)]
theorem ne_z1 : ¬ (("sizes" : Str) = "_triples") := by decide +kernel
theorem ne_z2 : ¬ (("sizes" : Str) = "_sizes") := by decide +kernel
theorem ne_z3 : ¬ (("sizes" : Str) = "ground") := by decide +kernel
theorem ne_y1 : ¬ (("triples" : Str) = "_triples") := by decide +kernel
theorem ne_y2 : ¬ (("triples" : Str) = "_sizes") := by decide +kernel
theorem ne_y3 : ¬ (("triples" : Str) = "ground") := by decide +kernel
theorem ne_x1 : ¬ (("tells" : Str) = "_triples") := by decide +kernel
theorem ne_x2 : ¬ (("tells" : Str) = "_sizes") := by decide +kernel
theorem ne_x3 : ¬ (("tells" : Str) = "ground") := by decide +kernel
theorem c_lrM {K : PySem.W.Frag} {σ : L2.St} {H : Hp} {Q : VK} {x g t l : Addr} {p : Int} {m r n i : Nat} {tr : List Trip} {f : Str} {sp : Sp} {dvs : List V} {E : XK} {ta : TA} (hs : σ[i]? = some (some (.ref x))) (h : LrObj K H x g t l p m r n tr) (h1 : ¬ f = "_triples") (h2 : ¬ f = "_sizes") (h3 : ¬ f = "ground")
    (q : ta σ H fun vs H2 => sp (.ref x :: (vs ++ dvs)) H2 Q E) : tMeth (He.ga K "LeftRight") f sp dvs E (tVar i) ta σ H Q := by
  obtain ⟨dx, h⟩ := h.at_
  exact ⟨_, hs, x, dx, _, rfl, h, lrF_no g t l h1 h2 h3, q⟩
/-- the lambda's body -/
def t_lamE (K : PySem.W.Frag) : TE := tCall (sp_unit_row K) [] E0 (tCons (tVar 2) (tCons (tOp uSub (tOp (uAdd K) (tVar 3) (tVar 4)) (tC (.int 1))) (tCons (tOp (uAdd K) (tVar 0) (tVar 1)) tNil)))
abbrev NLam : List Str := ["i", "j", "ground", "m", "r"]
def t_f_first_unlike (K : PySem.W.Frag) (f c' : Addr) (q : Str) (ws : List (Option V)) (NL : List Str) (tb : TE) : TS :=
    (tSeq (tAsg (tFld K (tVar 0) "ground") (gName 2))
    (tSeq (tAsg (tMeth (He.ga K "LeftRight") "sizes" (sp_LeftRight_sizes K) [] E0 (tVar 0) tNil) (gTup K 3 (gCons (gName 3) (gCons (gName 4) (gCons (gName 5) gNil)))))
    (tSeq (tAsg (tCall (sp_zero_of K) [] E0 (tCons (tVar 2) tNil)) (gName 6))
    (tSeq (tAsg (tMeth (He.ga K "LeftRight") "triples" (sp_LeftRight_triples K) [] E0 (tVar 0) tNil) (gName 7))
    (tSeq (tFor (iRng1 (tCons (tVar 3) tNil)) (gName 8) (tSeq (tAsg (tLc (iSeq K (tVar 7)) (gTup K 3 (gCons (gName 12) (gCons (gName 13) (gCons (gName 14) gNil)))) (tTest (tOp (uNe K) (tOp (uIx K) (tVar 12) (tVar 8)) (tVar 6))) (tTup (tCons (tOp (uIx K) (tVar 12) (tVar 8)) (tCons (tVar 13) (tCons (tVar 14) tNil)))) [12, 13, 14]) (gName 9))
    (tFor (iRng1 (tCons (tVar 4) tNil)) (gName 10) (tSeq (tAsg (tLc (iSeq K (tVar 9)) (gTup K 3 (gCons (gName 15) (gCons (gName 13) (gCons (gName 14) gNil)))) tYes (tMeth (He.ga K "Ground") "mul" (sp_Ground_mul K) [] E0 (tVar 2) (tCons (tVar 15) (tCons (tOp (uIx K) (tVar 13) (tVar 10)) tNil))) [13, 14, 15]) (gName 11))
    (tIfS (tTest (tOp (uNe K) (tCall (sp_blend K) [] E0 (tCons (tVar 2) (tCons (tVar 11) (tCons (tLc (iSeq K (tVar 9)) (gTup K 3 (gCons (gName 15) (gCons (gName 13) (gCons (gName 14) gNil)))) tYes (tVar 14) [13, 14, 15]) (tCons (tVar 5) tNil))))) (tDue f c' q ws 1 2 NL tb (tCons (tVar 8) (tCons (tVar 10) tNil))))) (tRet (tTup (tCons (tVar 8) (tCons (tVar 10) tNil)))) tNext)))))
    (tRet (tC .non)))))))
end Tw
namespace Tw
open PySem PySem.Spec PyProof.Rows L2 Evl RZ LamX
/-! ### errs_rectangle -/
/-- no table in it -/
def NoT (G : Hp) : Prop := ∀ c ps, G c ≠ some (.tbl ps)
theorem NoT.ext {G H H' : Hp} (n : NoT G) (e : Ex G H) (x : ExtN H H') : Ex G H' := fun c o h => x c o (e _ _ h) fun ps z => n c ps (by rw [h, z])
theorem eqv3d (a b c d e f : Int) : PyData.eqv (.tuple [.int a, .int b, .int c]) (.tuple [.int d, .int e, .int f]) = (decide (a = d) && (decide (b = e) && decide (c = f))) := by
  simp only [PyData.eqv, PyData.eqvAll, Bool.and_true]
  rw [Bool.beq_eq_decide_eq, Bool.beq_eq_decide_eq, Bool.beq_eq_decide_eq]
end Tw
namespace Tw
open PySem PySem.Spec PyProof.Rows L2 Evl RZ
/-! ### _law_fault, of a TooMany, a BadPoints, an Unlike -/
def hotL : List Str := ["TooMany", "BadPoints", "Unlike"]
def hits (C : Str) (i : Nat) : List V := ((errL.take i).filter fun x : Str => decide (x = C)).map V.str
structure FtC (K : PySem.W.Frag) (C : Str) : Prop where
  exc : ExcC K (He.ga K C)
  kit : ∀ x ∈ errL, PySem.W.kitOne K (.ref (He.ga K C)) (.ref (He.ga K x)) = some (decide (x = C))
  hit : hits C errL.length = [.str C]
def FtK (K : PySem.W.Frag) : Prop := ∀ C ∈ hotL, FtC K C
/-- an error of the class C, its fields as its dict and as the law tells them -/
inductive Flt : Str → List (Str × V) → List PyData → Prop
  | tm (n : Int) : Flt "TooMany" (tmF "window" n) [.str "window", .int n]
  | bp (w : Str) : Flt "BadPoints" (bpF w) [.str w]
  | ul (w : Str) : Flt "Unlike" (ulF w) [.str w]
def faultD (C : Str) (ds : List PyData) : PyData := .list [.str "fault", .str "Refused", .list [.str C], .list ds, .str C]
def sp__law_fault (K : PySem.W.Frag) : SpH := fun a c d vs H Q _ => ∃ (C : Str) (dd : Addr) (fs : List (Str × V)) (ds : List PyData), vs = [.ref a, .str "Refused"] ∧ Flt C fs ds ∧ c = .ref (He.ga K C) ∧ d = some dd ∧ H dd = some (.xd fs) ∧ RetN (faultD C ds) H Q
def t_f_law_fault (K : PySem.W.Frag) (C : Str) (a : Addr) (cls : Value) (d : Option Addr) : TS :=
    (tSeq (tAsg (tLst (tCons (tTup (tCons (tC (.str "BadGround")) (tCons (tCB (rIsP K a cls d) (tCons (tVar 0) (tCons (tC (.ref (He.ga K "BadGround"))) tNil))) tNil))) (tCons (tTup (tCons (tC (.str "BadNumber")) (tCons (tCB (rIsP K a cls d) (tCons (tVar 0) (tCons (tC (.ref (He.ga K "BadNumber"))) tNil))) tNil))) (tCons (tTup (tCons (tC (.str "BadTable")) (tCons (tCB (rIsP K a cls d) (tCons (tVar 0) (tCons (tC (.ref (He.ga K "BadTable"))) tNil))) tNil))) (tCons (tTup (tCons (tC (.str "BadName")) (tCons (tCB (rIsP K a cls d) (tCons (tVar 0) (tCons (tC (.ref (He.ga K "BadName"))) tNil))) tNil))) tNil))))) (gName 2))
    (tSeq (tAsg (tOp (uAdd K) (tVar 2) (tLst (tCons (tTup (tCons (tC (.str "BadProgram")) (tCons (tCB (rIsP K a cls d) (tCons (tVar 0) (tCons (tC (.ref (He.ga K "BadProgram"))) tNil))) tNil))) (tCons (tTup (tCons (tC (.str "BadFormula")) (tCons (tCB (rIsP K a cls d) (tCons (tVar 0) (tCons (tC (.ref (He.ga K "BadFormula"))) tNil))) tNil))) (tCons (tTup (tCons (tC (.str "BadScript")) (tCons (tCB (rIsP K a cls d) (tCons (tVar 0) (tCons (tC (.ref (He.ga K "BadScript"))) tNil))) tNil))) (tCons (tTup (tCons (tC (.str "Broken")) (tCons (tCB (rIsP K a cls d) (tCons (tVar 0) (tCons (tC (.ref (He.ga K "Broken"))) tNil))) tNil))) tNil)))))) (gName 2))
    (tSeq (tAsg (tOp (uAdd K) (tVar 2) (tLst (tCons (tTup (tCons (tC (.str "Unlike")) (tCons (tCB (rIsP K a cls d) (tCons (tVar 0) (tCons (tC (.ref (He.ga K "Unlike"))) tNil))) tNil))) (tCons (tTup (tCons (tC (.str "NotRight")) (tCons (tCB (rIsP K a cls d) (tCons (tVar 0) (tCons (tC (.ref (He.ga K "NotRight"))) tNil))) tNil))) (tCons (tTup (tCons (tC (.str "NotLeast")) (tCons (tCB (rIsP K a cls d) (tCons (tVar 0) (tCons (tC (.ref (He.ga K "NotLeast"))) tNil))) tNil))) (tCons (tTup (tCons (tC (.str "NotLow")) (tCons (tCB (rIsP K a cls d) (tCons (tVar 0) (tCons (tC (.ref (He.ga K "NotLow"))) tNil))) tNil))) tNil)))))) (gName 2))
    (tSeq (tAsg (tOp (uAdd K) (tVar 2) (tLst (tCons (tTup (tCons (tC (.str "BadPoints")) (tCons (tCB (rIsP K a cls d) (tCons (tVar 0) (tCons (tC (.ref (He.ga K "BadPoints"))) tNil))) tNil))) (tCons (tTup (tCons (tC (.str "TooMany")) (tCons (tCB (rIsP K a cls d) (tCons (tVar 0) (tCons (tC (.ref (He.ga K "TooMany"))) tNil))) tNil))) (tCons (tTup (tCons (tC (.str "NoSuch")) (tCons (tCB (rIsP K a cls d) (tCons (tVar 0) (tCons (tC (.ref (He.ga K "NoSuch"))) tNil))) tNil))) (tCons (tTup (tCons (tC (.str "Stops")) (tCons (tCB (rIsP K a cls d) (tCons (tVar 0) (tCons (tC (.ref (He.ga K "Stops"))) tNil))) tNil))) tNil)))))) (gName 2))
    (tSeq (tAsg (tOp (uAdd K) (tVar 2) (tLst (tCons (tTup (tCons (tC (.str "Enough")) (tCons (tCB (rIsP K a cls d) (tCons (tVar 0) (tCons (tC (.ref (He.ga K "Enough"))) tNil))) tNil))) (tCons (tTup (tCons (tC (.str "Endless")) (tCons (tCB (rIsP K a cls d) (tCons (tVar 0) (tCons (tC (.ref (He.ga K "Endless"))) tNil))) tNil))) (tCons (tTup (tCons (tC (.str "NothingLeft")) (tCons (tCB (rIsP K a cls d) (tCons (tVar 0) (tCons (tC (.ref (He.ga K "NothingLeft"))) tNil))) tNil))) tNil))))) (gName 2))
    (tSeq (tAsg (tLc (iList K (tVar 2)) (gName 6) (tTru K (tOp (uIx K) (tVar 6) (tC (.int 1)))) (tOp (uIx K) (tVar 6) (tC (.int 0))) [6]) (gName 3))
    (tSeq (tIfS (tTest (tOp (uNe K) (tCB (uLen K) (tCons (tVar 3) tNil)) (tC (.int 1)))) (tRet (tLst (tCons (tC (.str "fault")) (tCons (tVar 1) (tCons (tVar 3) (tCons (tLst tNil) (tCons (tC (.str "")) tNil))))))) tNext)
    (tSeq (tAsg (tOp (uIx K) (tVar 3) (tC (.int 0))) (gName 4))
    (tSeq (tAsg (tIf (tTest (tOp (uEq K) (tVar 4) (tC (.str "TooMany")))) (tLst (tCons (tXf a cls d (He.ga K C) "what" (tVar 0)) (tCons (tXf a cls d (He.ga K C) "count" (tVar 0)) tNil))) (tIf (tTest (tOp (uEq K) (tVar 4) (tC (.str "Unlike")))) (tLst (tCons (tXf a cls d (He.ga K C) "what" (tVar 0)) tNil)) (tIf (tTest (tOp (uEq K) (tVar 4) (tC (.str "NoSuch")))) (tLst (tCons (tXf a cls d (He.ga K C) "name" (tVar 0)) tNil)) (tIf (tTest (tOp (uEq K) (tVar 4) (tC (.str "Stops")))) (tLst (tCons (tXf a cls d (He.ga K C) "line" (tVar 0)) tNil)) (tLst tNil))))) (gName 5))
    (tSeq (tAsg (tIf (tTest (tOp (uIn K) (tVar 4) (tLst (tCons (tC (.str "NotRight")) (tCons (tC (.str "BadNumber")) (tCons (tC (.str "BadFormula")) tNil)))))) (tLst (tCons (tXf a cls d (He.ga K C) "at" (tVar 0)) tNil)) (tIf (tTest (tOp (uIn K) (tVar 4) (tLst (tCons (tC (.str "BadTable")) (tCons (tC (.str "BadProgram")) (tCons (tC (.str "BadName")) (tCons (tC (.str "BadScript")) tNil))))))) (tLst (tCons (tXf a cls d (He.ga K C) "line" (tVar 0)) tNil)) (tVar 5))) (gName 5))
    (tSeq (tAsg (tIf (tTest (tOp (uIn K) (tVar 4) (tLst (tCons (tC (.str "NotLeast")) (tCons (tC (.str "BadPoints")) tNil))))) (tLst (tCons (tXf a cls d (He.ga K C) "why" (tVar 0)) tNil)) (tIf (tTest (tOp (uEq K) (tVar 4) (tC (.str "NotLow")))) (tLst (tCons (tXf a cls d (He.ga K C) "place" (tVar 0)) tNil)) (tIf (tTest (tOp (uEq K) (tVar 4) (tC (.str "Enough")))) (tLst (tCons (tXf a cls d (He.ga K C) "cost" (tVar 0)) tNil)) (tVar 5)))) (gName 5))
    (tSeq (tAsg (tIf (tTest (tOp (uEq K) (tVar 4) (tC (.str "Broken")))) (tLst (tCons (tXf a cls d (He.ga K C) "condition" (tVar 0)) (tCons (tXf a cls d (He.ga K C) "where" (tVar 0)) tNil))) (tVar 5)) (gName 5))
    (tCut (tIfS (tTest (tOp (uIn K) (tVar 4) (tLst (tCons (tC (.str "BadGround")) (tCons (tC (.str "BadNumber")) (tCons (tC (.str "BadTable")) (tCons (tC (.str "BadProgram")) (tCons (tC (.str "BadName")) (tCons (tC (.str "BadFormula")) (tCons (tC (.str "BadScript")) tNil)))))))))) (tDrop (tBM K "list" rAppend (tVar 5) (tCons (tAndV (tCB (uIsi K) (tCons (tXf a cls d (He.ga K C) "why" (tVar 0)) (tCons (tC (.ty "str")) tNil))) (tOp (uNe K) (tXf a cls d (He.ga K C) "why" (tVar 0)) (tC (.str "")))) tNil))) tNext)
    (tRet (tLst (tCons (tC (.str "fault")) (tCons (tVar 1) (tCons (tVar 3) (tCons (tVar 5) (tCons (tXf a cls d (He.ga K C) "code" (tVar 0)) tNil))))))))))))))))))))
section
variable {K : PySem.W.Frag} {C : Str}
def tIs (K : PySem.W.Frag) (a : Addr) (c : Value) (d : Option Addr) : List Str → TA
  | [] => tNil
  | x :: xs => tCons (tTup (tCons (tC (.str x)) (tCons (tCB (rIsP K a c d) (tCons (tVar 0) (tCons (tC (.ref (He.ga K x))) tNil))) tNil))) (tIs K a c d xs)
/-- a row of the table: the class's name, whether e is of it -/
def RowE (C : Str) (H : Hp) (v : V) (x : Str) : Prop := ∃ t, v = .ref t ∧ H t = some (.tup [.str x, .bl (decide (x = C))])
theorem rows_mono {H H' : Hp} (e : Ex H H') : ∀ {rs : List V} {xs : List Str}, Paired (RowE C H) rs xs → Paired (RowE C H') rs xs
  | _, _, .nil => .nil
  | _, _, .cons ⟨t, h1, h2⟩ r => .cons ⟨t, h1, e _ _ h2⟩ (rows_mono e r)
theorem rows_app {H : Hp} : ∀ {rs ss : List V} {xs ys : List Str}, Paired (RowE C H) rs xs → Paired (RowE C H) ss ys → Paired (RowE C H) (rs ++ ss) (xs ++ ys)
  | _, _, _, _, .nil, r => r
  | _, _, _, _, .cons h r, r2 => .cons h (rows_app r r2)
theorem rows_get {H : Hp} : ∀ {rs : List V} {xs : List Str} {i : Nat} {v : V}, Paired (RowE C H) rs xs → rs[i]? = some v → ∃ x, xs[i]? = some x ∧ RowE C H v x
  | _, _, 0, _, .cons h _, e => ⟨_, rfl, by cases e; exact h⟩
  | _, _, i + 1, _, .cons _ r, e => by
    rw [List.getElem?_cons_succ] at e ⊢
    exact rows_get r e
theorem c_is {σ : L2.St} {a dd : Addr} {fs : List (Str × V)} (T : FtC K C) (h0 : σ[0]? = some (some (.ref a))) : ∀ (xs : List Str) {H : Hp} {QA : List V → Hp → Prop}, (∀ x ∈ xs, x ∈ errL) → H dd = some (.xd fs) →
    (∀ rs H2, Ex H H2 → Paired (RowE C H2) rs xs → QA rs H2) → tIs K a (.ref (He.ga K C)) (some dd) xs σ H QA
  | [], H, QA, _, _, q => q [] H (Ex.refl _) .nil
  | x :: xs, H, QA, hx, hd, q => by
    refine c_cons (c_tup (c_cons (c_c (c_cons (c_cb (c_cons (c_var h0 (c_cons (c_c (c_nil ?_))))))))))
    refine ⟨.ref (He.ga K x), .ref (He.ga K x), _, _, dd, fs, rfl, rfl, rfl, hd, T.exc, fun u r => r, T.kit x (hx x List.mem_cons_self), c_nil ⟨by show 2 ≤ sizeLine; decide, fun p hp => ?_⟩⟩
    have e1 : Ex H (upd H p (.tup [.str x, .bl (decide (x = C))])) := Ex.new hp
    exact c_is T h0 xs (fun y hy => hx y (List.mem_cons_of_mem _ hy)) (e1 _ _ hd) fun rs H2 e2 r => q _ _ (e1.trans e2) (.cons ⟨p, rfl, e2 _ _ upd_same⟩ r)
def RowsAt (C : Str) (H : Hp) (l : Addr) (xs : List Str) : Prop := ∃ rs, H l = some (.lst rs) ∧ Paired (RowE C H) rs xs
theorem c_rows0 {σ : L2.St} {a dd : Addr} {fs : List (Str × V)} {H : Hp} {Q : VK} (T : FtC K C) (h0 : σ[0]? = some (some (.ref a))) (hd : H dd = some (.xd fs)) (xs : List Str) (hx : ∀ x ∈ xs, x ∈ errL) (hl : xs.length ≤ 10)
    (q : ∀ l H2, Ex H H2 → RowsAt C H2 l xs → Q (.ref l) H2) : tLst (tIs K a (.ref (He.ga K C)) (some dd) xs) σ H Q := by
  refine c_lst (c_is T h0 xs hx hd fun rs H2 e2 r => ⟨?_, fun l fl => ?_⟩)
  · rw [r.length]
    exact Nat.le_of_lt (sz_of_le (Nat.le_trans hl (by decide)))
  · exact q l _ (e2.trans (Ex.new fl)) ⟨rs, upd_same, rows_mono (Ex.new fl) r⟩
theorem c_rowsN {σ : L2.St} {a dd l : Addr} {fs : List (Str × V)} {H : Hp} {Q : VK} {xs : List Str} (T : FtC K C) (h0 : σ[0]? = some (some (.ref a))) (h2 : σ[2]? = some (some (.ref l))) (hd : H dd = some (.xd fs)) (R : RowsAt C H l xs) (hz : xs.length ≤ 100) (ys : List Str)
    (hy : ∀ x ∈ ys, x ∈ errL) (hl : ys.length ≤ 10) (q : ∀ l2 H2, Ex H H2 → RowsAt C H2 l2 (xs ++ ys) → Q (.ref l2) H2) : tOp (uAdd K) (tVar 2) (tLst (tIs K a (.ref (He.ga K C)) (some dd) ys)) σ H Q := by
  refine c_op (c_var h2 (c_rows0 T h0 hd ys hy hl fun m H2 e2 R2 => ?_))
  obtain ⟨rs, h3, r3⟩ := R
  obtain ⟨ss, h4, r4⟩ := R2
  refine .inr (.inr (.inl ⟨l, m, rs, ss, rfl, rfl, e2 _ _ h3, h4, ?_, fun p fp => ?_⟩))
  · rw [r3.length, r4.length]
    exact Nat.le_of_lt (sz_of_le (Nat.le_trans (Nat.add_le_add hz hl) (by decide)))
  · exact q p _ (e2.trans (Ex.new fp)) ⟨_, upd_same, rows_app (rows_mono (e2.trans (Ex.new fp)) r3) (rows_mono (Ex.new fp) r4)⟩
theorem c_xf {σ : L2.St} {H : Hp} {Q : VK} {a dd : Addr} {f : Str} {fs : List (Str × V)} {v : V} (h0 : σ[0]? = some (some (.ref a))) (hd : H dd = some (.xd fs)) (l : fs.lookup f = some v) (q : Q v H) :
    tXf a (.ref (He.ga K C)) (some dd) (He.ga K C) f (tVar 0) σ H Q := ⟨_, h0, rfl, rfl, dd, fs, v, rfl, hd, l, q⟩
theorem c_hits (T : FtC K C) {σ : L2.St} {H : Hp} {l : Addr} {Q : VK} (hs : 6 < σ.length) (h2 : σ[2]? = some (some (.ref l))) (R : RowsAt C H l errL) (q : ∀ L H2, Ex H H2 → H L = none → H2 L = some (.lst [.str C]) → Q (.ref L) H2) :
    tLc (iList K (tVar 2)) (gName 6) (tTru K (tOp (uIx K) (tVar 6) (tC (.int 1)))) (tOp (uIx K) (tVar 6) (tC (.int 0))) [6] σ H Q := by
  obtain ⟨rs, hl, r⟩ := R
  refine c_lc (c_iList (c_var h2 ⟨l, rfl, ⟨rs, SqL.of hl⟩, fun L hL => ?_⟩))
  refine lc_list (K := K) (xs := rs) (fun i H2 => Ex H H2 ∧ H2 L = some (.lst (hits C i))) ⟨Ex.new hL, upd_same⟩ (fun i H2 _ p => SqL.of (p.1 _ _ hl)) ?_ ?_
  · rintro i x H2 hi ⟨e2, at2⟩
    obtain ⟨y, hy, t, rfl, ht⟩ := rows_get r hi
    have ht2 := e2 _ _ ht
    have s6 : ((wipe σ [6]).set 6 (some (V.ref t)))[6]? = some (some (V.ref t)) := List.getElem?_set_self (by rw [wipe_length]; exact hs)
    have hs1 : hits C (i + 1) = hits C i ++ (if decide (y = C) = true then [V.str y] else []) := by
      unfold hits
      rw [take_succ hy, List.filter_append, List.map_append]
      by_cases z : y = C
      · rw [if_pos (decide_eq_true z)]
        congr 1
        rw [show ([y] : List Str).filter (fun x => decide (x = C)) = [y] from by simp [z]]
        rfl
      · rw [if_neg (by rw [decide_eq_false z]; decide)]
        congr 1
        rw [List.filter_cons_of_neg (by rw [decide_eq_false z]; decide)]
        rfl
    have hlen : (hits C i).length < sizeLine := by
      unfold hits
      rw [List.length_map]
      refine Nat.lt_of_le_of_lt (Nat.le_trans (List.length_filter_le _ _) (List.length_take_le' _ _)) ?_
      decide
    refine c_name ⟨by show ((σ.set 6 none).set 6 (some (V.ref t))).set 6 none = σ.set 6 none; rw [List.set_set, List.set_set], ?_⟩
    refine c_op (c_var s6 (c_c (c_ixT (SqT.of ht2) rfl ⟨_, rfl, ?_⟩)))
    cases z : decide (y = C) with
    | true =>
      rw [if_pos rfl]
      refine c_op (c_var s6 (c_c (c_ixT (SqT.of ht2) rfl ⟨_, at2, hlen, e2.mut hL, ?_⟩)))
      rw [hs1, z, if_pos rfl]
      exact upd_same
    | false =>
      (rw [if_neg Bool.false_ne_true])
      refine ⟨e2, ?_⟩
      rw [hs1, z, if_neg Bool.false_ne_true, List.append_nil]
      exact at2
  · rintro H2 ⟨e2, at2⟩
    rw [r.length] at at2
    exact q L H2 e2 hL (by rw [at2, T.hit])
end
theorem pure_fault_tm (K : PySem.W.Frag) (T : FtC K "TooMany") (a dd : Addr) (n : Int) (H : Hp) (Q : VK) (hd : H dd = some (.xd (tmF "window" n))) (q : RetN (faultD "TooMany" [.str "window", .int n]) H Q) : t_f_law_fault K "TooMany" a (.ref (He.ga K "TooMany")) (some dd) { nx := fun _ H' => Q .non H', rt := Q } (start ["e", "base", "rows", "names", "name", "fields", "one"] [.ref a, .str "Refused"]) H := by
  unfold t_f_law_fault
  refine c_seq (c_asg ?_)
  refine c_rows0 T (by exact rfl) hd err1 (by decide +kernel) (by decide) fun l1 H1 e1 R1 => ?_
  with_reducible refine c_name ?_
  with_reducible refine c_seq ?_
  with_reducible refine c_asg ?_
  refine c_rowsN T (by exact rfl) (by exact rfl) (e1 _ _ hd) R1 (by decide) err2 (by decide +kernel) (by decide) fun l2 H2 e2 R2 => ?_
  with_reducible refine c_name ?_
  with_reducible refine c_seq ?_
  with_reducible refine c_asg ?_
  refine c_rowsN T (by exact rfl) (by exact rfl) ((e1.trans e2) _ _ hd) R2 (by decide) err3 (by decide +kernel) (by decide) fun l3 H3 e3 R3 => ?_
  with_reducible refine c_name ?_
  with_reducible refine c_seq ?_
  with_reducible refine c_asg ?_
  refine c_rowsN T (by exact rfl) (by exact rfl) (((e1.trans e2).trans e3) _ _ hd) R3 (by decide) err4 (by decide +kernel) (by decide) fun l4 H4 e4 R4 => ?_
  with_reducible refine c_name ?_
  with_reducible refine c_seq ?_
  with_reducible refine c_asg ?_
  refine c_rowsN T (by exact rfl) (by exact rfl) ((((e1.trans e2).trans e3).trans e4) _ _ hd) R4 (by decide) err5 (by decide +kernel) (by decide) fun l5 H5 e5 R5 => ?_
  with_reducible refine c_name ?_
  with_reducible refine c_seq ?_
  with_reducible refine c_asg ?_
  refine c_hits T (by show 6 < 7; decide) (by exact rfl) R5 fun L H6 e6 nL atL => ?_
  have eT : Ex H H6 := ((((e1.trans e2).trans e3).trans e4).trans e5).trans e6
  have nL0 : H L = none := fresh_back ((((e1.trans e2).trans e3).trans e4).trans e5) nL
  have hd6 := eT _ _ hd
  walk_at "tw"
  refine c_xf (by exact rfl) hd6 rfl ?_
  walk_at "tw"
  refine c_xf (by exact rfl) hd6 rfl ?_
  walk_at "tw"
  refine ⟨by show 2 ≤ sizeLine; decide, fun m hm => ?_⟩
  walk_at "tw"
  refine ⟨by show 3 ≤ sizeLine; decide, fun m1 hm1 => ?_⟩
  refine c_inL upd_same rfl rfl ?_
  walk_at "tw"
  refine ⟨by show 4 ≤ sizeLine; decide, fun m2 hm2 => ?_⟩
  refine c_inL upd_same rfl rfl ?_
  walk_at "tw"
  refine ⟨by show 2 ≤ sizeLine; decide, fun m3 hm3 => ?_⟩
  refine c_inL upd_same rfl rfl ?_
  walk_at "tw"
  refine c_cut (fun σ' H' => (σ'[0]? = some (some (.ref a)) ∧ σ'[1]? = some (some (.str "Refused")) ∧ σ'[3]? = some (some (.ref L)) ∧ σ'[5]? = some (some (.ref m))) ∧ Ex H6 H' ∧ H' m = some (.lst [.str "window", .int n])) ?_ ?_
  · walk_at "tw"
    refine ⟨by show 7 ≤ sizeLine; decide, fun m4 hm4 => ?_⟩
    refine c_inL upd_same rfl rfl ?_
    walk_at "tw"
    exact ⟨⟨rfl, rfl, rfl, rfl⟩, (((((Ex.new hm).trans (Ex.new hm1)).trans (Ex.new hm2)).trans (Ex.new hm3)).trans (Ex.new hm4)), ((Ex.new hm4) _ _ ((Ex.new hm3) _ _ ((Ex.new hm2) _ _ ((Ex.new hm1) _ _ upd_same))))⟩
  · rintro σ7 H7 ⟨⟨s0, s1, s3, s5⟩, e7, at7⟩
    have hd7 := e7 _ _ hd6
    have mL : m ≠ L := fun z => by rw [z, atL] at hm; cases hm
    have nm : H m = none := fresh_back eT hm
    with_reducible refine c_ret ?_
    with_reducible refine c_lst ?_
    refine c_cons (c_c (c_cons (c_var s1 (c_cons (c_var s3 (c_cons (c_var s5 (c_cons (c_xf s0 hd7 rfl (c_nil ?_))))))))))
    refine ⟨by show 5 ≤ sizeLine; decide, fun r hr => ?_⟩
    have e8 := (eT.trans e7).trans (Ex.new (o := .lst [.str "fault", .str "Refused", .ref L, .ref m, .str "TooMany"]) hr)
    have nr : H r = none := fresh_back (eT.trans e7) hr
    refine q _ _ e8 (.lst (grow_new nr upd_same) (.cons (.str _) (.cons (.str _) (.cons (.lst (grow_new nL0 ((Ex.new hr) _ _ (e7 _ _ atL))) (.cons (.str _) .nil)) (.cons (.lst (grow_new nm ((Ex.new hr) _ _ at7)) (.cons (.str _) (.cons (.int _) .nil))) (.cons (.str _) .nil))))))
theorem pure_fault_ul (K : PySem.W.Frag) (T : FtC K "Unlike") (a dd : Addr) (w : Str) (H : Hp) (Q : VK) (hd : H dd = some (.xd (ulF w))) (q : RetN (faultD "Unlike" [.str w]) H Q) : t_f_law_fault K "Unlike" a (.ref (He.ga K "Unlike")) (some dd) { nx := fun _ H' => Q .non H', rt := Q } (start ["e", "base", "rows", "names", "name", "fields", "one"] [.ref a, .str "Refused"]) H := by
  unfold t_f_law_fault
  refine c_seq (c_asg ?_)
  refine c_rows0 T (by exact rfl) hd err1 (by decide +kernel) (by decide) fun l1 H1 e1 R1 => ?_
  with_reducible refine c_name ?_
  with_reducible refine c_seq ?_
  with_reducible refine c_asg ?_
  refine c_rowsN T (by exact rfl) (by exact rfl) (e1 _ _ hd) R1 (by decide) err2 (by decide +kernel) (by decide) fun l2 H2 e2 R2 => ?_
  with_reducible refine c_name ?_
  with_reducible refine c_seq ?_
  with_reducible refine c_asg ?_
  refine c_rowsN T (by exact rfl) (by exact rfl) ((e1.trans e2) _ _ hd) R2 (by decide) err3 (by decide +kernel) (by decide) fun l3 H3 e3 R3 => ?_
  with_reducible refine c_name ?_
  with_reducible refine c_seq ?_
  with_reducible refine c_asg ?_
  refine c_rowsN T (by exact rfl) (by exact rfl) (((e1.trans e2).trans e3) _ _ hd) R3 (by decide) err4 (by decide +kernel) (by decide) fun l4 H4 e4 R4 => ?_
  with_reducible refine c_name ?_
  with_reducible refine c_seq ?_
  with_reducible refine c_asg ?_
  refine c_rowsN T (by exact rfl) (by exact rfl) ((((e1.trans e2).trans e3).trans e4) _ _ hd) R4 (by decide) err5 (by decide +kernel) (by decide) fun l5 H5 e5 R5 => ?_
  with_reducible refine c_name ?_
  with_reducible refine c_seq ?_
  with_reducible refine c_asg ?_
  refine c_hits T (by show 6 < 7; decide) (by exact rfl) R5 fun L H6 e6 nL atL => ?_
  have eT : Ex H H6 := ((((e1.trans e2).trans e3).trans e4).trans e5).trans e6
  have nL0 : H L = none := fresh_back ((((e1.trans e2).trans e3).trans e4).trans e5) nL
  have hd6 := eT _ _ hd
  walk_at "tw"
  refine c_xf (by exact rfl) hd6 rfl ?_
  walk_at "tw"
  refine ⟨by show 1 ≤ sizeLine; decide, fun m hm => ?_⟩
  walk_at "tw"
  refine ⟨by show 3 ≤ sizeLine; decide, fun m1 hm1 => ?_⟩
  refine c_inL upd_same rfl rfl ?_
  walk_at "tw"
  refine ⟨by show 4 ≤ sizeLine; decide, fun m2 hm2 => ?_⟩
  refine c_inL upd_same rfl rfl ?_
  walk_at "tw"
  refine ⟨by show 2 ≤ sizeLine; decide, fun m3 hm3 => ?_⟩
  refine c_inL upd_same rfl rfl ?_
  walk_at "tw"
  refine c_cut (fun σ' H' => (σ'[0]? = some (some (.ref a)) ∧ σ'[1]? = some (some (.str "Refused")) ∧ σ'[3]? = some (some (.ref L)) ∧ σ'[5]? = some (some (.ref m))) ∧ Ex H6 H' ∧ H' m = some (.lst [.str w])) ?_ ?_
  · walk_at "tw"
    refine ⟨by show 7 ≤ sizeLine; decide, fun m4 hm4 => ?_⟩
    refine c_inL upd_same rfl rfl ?_
    walk_at "tw"
    exact ⟨⟨rfl, rfl, rfl, rfl⟩, (((((Ex.new hm).trans (Ex.new hm1)).trans (Ex.new hm2)).trans (Ex.new hm3)).trans (Ex.new hm4)), ((Ex.new hm4) _ _ ((Ex.new hm3) _ _ ((Ex.new hm2) _ _ ((Ex.new hm1) _ _ upd_same))))⟩
  · rintro σ7 H7 ⟨⟨s0, s1, s3, s5⟩, e7, at7⟩
    have hd7 := e7 _ _ hd6
    have mL : m ≠ L := fun z => by rw [z, atL] at hm; cases hm
    have nm : H m = none := fresh_back eT hm
    with_reducible refine c_ret ?_
    with_reducible refine c_lst ?_
    refine c_cons (c_c (c_cons (c_var s1 (c_cons (c_var s3 (c_cons (c_var s5 (c_cons (c_xf s0 hd7 rfl (c_nil ?_))))))))))
    refine ⟨by show 5 ≤ sizeLine; decide, fun r hr => ?_⟩
    have e8 := (eT.trans e7).trans (Ex.new (o := .lst [.str "fault", .str "Refused", .ref L, .ref m, .str "Unlike"]) hr)
    have nr : H r = none := fresh_back (eT.trans e7) hr
    refine q _ _ e8 (.lst (grow_new nr upd_same) (.cons (.str _) (.cons (.str _) (.cons (.lst (grow_new nL0 ((Ex.new hr) _ _ (e7 _ _ atL))) (.cons (.str _) .nil)) (.cons (.lst (grow_new nm ((Ex.new hr) _ _ at7)) (.cons (.str _) .nil)) (.cons (.str _) .nil))))))
theorem pure_fault_bp (K : PySem.W.Frag) (T : FtC K "BadPoints") (a dd : Addr) (w : Str) (H : Hp) (Q : VK) (hd : H dd = some (.xd (bpF w))) (q : RetN (faultD "BadPoints" [.str w]) H Q) : t_f_law_fault K "BadPoints" a (.ref (He.ga K "BadPoints")) (some dd) { nx := fun _ H' => Q .non H', rt := Q } (start ["e", "base", "rows", "names", "name", "fields", "one"] [.ref a, .str "Refused"]) H := by
  unfold t_f_law_fault
  refine c_seq (c_asg ?_)
  refine c_rows0 T (by exact rfl) hd err1 (by decide +kernel) (by decide) fun l1 H1 e1 R1 => ?_
  with_reducible refine c_name ?_
  with_reducible refine c_seq ?_
  with_reducible refine c_asg ?_
  refine c_rowsN T (by exact rfl) (by exact rfl) (e1 _ _ hd) R1 (by decide) err2 (by decide +kernel) (by decide) fun l2 H2 e2 R2 => ?_
  with_reducible refine c_name ?_
  with_reducible refine c_seq ?_
  with_reducible refine c_asg ?_
  refine c_rowsN T (by exact rfl) (by exact rfl) ((e1.trans e2) _ _ hd) R2 (by decide) err3 (by decide +kernel) (by decide) fun l3 H3 e3 R3 => ?_
  with_reducible refine c_name ?_
  with_reducible refine c_seq ?_
  with_reducible refine c_asg ?_
  refine c_rowsN T (by exact rfl) (by exact rfl) (((e1.trans e2).trans e3) _ _ hd) R3 (by decide) err4 (by decide +kernel) (by decide) fun l4 H4 e4 R4 => ?_
  with_reducible refine c_name ?_
  with_reducible refine c_seq ?_
  with_reducible refine c_asg ?_
  refine c_rowsN T (by exact rfl) (by exact rfl) ((((e1.trans e2).trans e3).trans e4) _ _ hd) R4 (by decide) err5 (by decide +kernel) (by decide) fun l5 H5 e5 R5 => ?_
  with_reducible refine c_name ?_
  with_reducible refine c_seq ?_
  with_reducible refine c_asg ?_
  refine c_hits T (by show 6 < 7; decide) (by exact rfl) R5 fun L H6 e6 nL atL => ?_
  have eT : Ex H H6 := ((((e1.trans e2).trans e3).trans e4).trans e5).trans e6
  have nL0 : H L = none := fresh_back ((((e1.trans e2).trans e3).trans e4).trans e5) nL
  have hd6 := eT _ _ hd
  walk_at "tw"
  refine ⟨by show 0 ≤ sizeLine; decide, fun m0 hm0 => ?_⟩
  walk_at "tw"
  refine ⟨by show 3 ≤ sizeLine; decide, fun m1 hm1 => ?_⟩
  refine c_inL upd_same rfl rfl ?_
  walk_at "tw"
  refine ⟨by show 4 ≤ sizeLine; decide, fun m2 hm2 => ?_⟩
  refine c_inL upd_same rfl rfl ?_
  walk_at "tw"
  refine ⟨by show 2 ≤ sizeLine; decide, fun m3 hm3 => ?_⟩
  refine c_inL upd_same rfl rfl ?_
  walk_at "tw"
  refine c_xf (by exact rfl) ((((((Ex.new hm0).trans (Ex.new hm1)).trans (Ex.new hm2)).trans (Ex.new hm3))) _ _ hd6) rfl ?_
  walk_at "tw"
  refine ⟨by show 1 ≤ sizeLine; decide, fun m hm => ?_⟩
  walk_at "tw"
  refine c_cut (fun σ' H' => (σ'[0]? = some (some (.ref a)) ∧ σ'[1]? = some (some (.str "Refused")) ∧ σ'[3]? = some (some (.ref L)) ∧ σ'[5]? = some (some (.ref m))) ∧ Ex H6 H' ∧ H' m = some (.lst [.str w])) ?_ ?_
  · walk_at "tw"
    refine ⟨by show 7 ≤ sizeLine; decide, fun m4 hm4 => ?_⟩
    refine c_inL upd_same rfl rfl ?_
    walk_at "tw"
    exact ⟨⟨rfl, rfl, rfl, rfl⟩, ((((((Ex.new hm0).trans (Ex.new hm1)).trans (Ex.new hm2)).trans (Ex.new hm3)).trans (Ex.new hm)).trans (Ex.new hm4)), ((Ex.new hm4) _ _ upd_same)⟩
  · rintro σ7 H7 ⟨⟨s0, s1, s3, s5⟩, e7, at7⟩
    have hd7 := e7 _ _ hd6
    have nm : H m = none := fresh_back (((((eT.trans (Ex.new hm0)).trans (Ex.new hm1)).trans (Ex.new hm2)).trans (Ex.new hm3))) hm
    with_reducible refine c_ret ?_
    with_reducible refine c_lst ?_
    refine c_cons (c_c (c_cons (c_var s1 (c_cons (c_var s3 (c_cons (c_var s5 (c_cons (c_xf s0 hd7 rfl (c_nil ?_))))))))))
    refine ⟨by show 5 ≤ sizeLine; decide, fun r hr => ?_⟩
    have e8 := (eT.trans e7).trans (Ex.new (o := .lst [.str "fault", .str "Refused", .ref L, .ref m, .str "BadPoints"]) hr)
    have nr : H r = none := fresh_back (eT.trans e7) hr
    refine q _ _ e8 (.lst (grow_new nr upd_same) (.cons (.str _) (.cons (.str _) (.cons (.lst (grow_new nL0 ((Ex.new hr) _ _ (e7 _ _ atL))) (.cons (.str _) .nil)) (.cons (.lst (grow_new nm ((Ex.new hr) _ _ at7)) (.cons (.str _) .nil)) (.cons (.str _) .nil))))))
theorem pure_fault (K : PySem.W.Frag) (T : FtK K) (a : Addr) (c : Value) (d : Option Addr) (vs : List V) (H : Hp) (Q : VK) (E : XK) (h : sp__law_fault K a c d vs H Q E) : ∃ C ∈ hotL, t_f_law_fault K C a c d { nx := fun _ H' => Q .non H', rt := Q } (start ["e", "base", "rows", "names", "name", "fields", "one"] vs) H := by
  obtain ⟨C, dd, fs, ds, rfl, fl, rfl, rfl, hd, q⟩ := h
  cases fl with
  | tm n => exact ⟨"TooMany", by decide, pure_fault_tm K (T _ (by decide)) a dd n H Q hd q⟩
  | bp w => exact ⟨"BadPoints", by decide, pure_fault_bp K (T _ (by decide)) a dd w H Q hd q⟩
  | ul w => exact ⟨"Unlike", by decide, pure_fault_ul K (T _ (by decide)) a dd w H Q hd q⟩
end Tw
namespace Tw
open PySem PySem.Spec PyProof.Rows L2 Evl RZ
/-! ## Words of digits, lines of grounds -/
def prB (n : Nat) : Bool := decide (3 ≤ n) && (decide (n % 2 = 1) && (List.range 10).all fun d => decide (d < 3) || decide (n % d ≠ 0) || decide (n < d * d))
def word (p : Int) : Str := (toString p : Str)
theorem words : ∀ p : Fin 100, 1 ≤ p.val → ((word (p.val : Int)).length ≤ 60 ∧ Txt.isascii (word (p.val : Int)) = true ∧ Txt.isdigit (word (p.val : Int)) = true ∧ Txt.startswith (word (p.val : Int)) "0" = false ∧ PySem.intText? (word (p.val : Int)) = some (p.val : Int)) := by decide +kernel
theorem lines_ : ∀ p : Fin 100, 1 ≤ p.val → ((("rests " : Str) ++ word (p.val : Int)).length ≤ 100 ∧ ¬ (("rests " : Str) ++ word (p.val : Int) = "fractions") ∧ Txt.startswith (("rests " : Str) ++ word (p.val : Int)) "rests " = true ∧ cutS (("rests " : Str) ++ word (p.val : Int)) (some 6) none = word (p.val : Int)) := by decide +kernel
structure WordOk (p : Int) : Prop where
  l : (word p).length ≤ 60
  a : Txt.isascii (word p) = true
  d : Txt.isdigit (word p) = true
  s : Txt.startswith (word p) "0" = false
  i : PySem.intText? (word p) = some p
theorem word_ok {p : Int} (h0 : 0 < p) (h1 : p < 100) : WordOk p := by
  have e : ((p.toNat : Nat) : Int) = p := by omega
  obtain ⟨a, b, c, d, f⟩ := words ⟨p.toNat, by omega⟩ (by show 1 ≤ p.toNat; omega)
  rw [show (((⟨p.toNat, by omega⟩ : Fin 100).val : Nat) : Int) = p from e] at a b c d f
  exact ⟨a, b, c, d, f⟩
structure LineOk (p : Int) : Prop where
  l : (("rests " : Str) ++ word p).length ≤ 100
  f : ¬ (("rests " : Str) ++ word p = "fractions")
  s : Txt.startswith (("rests " : Str) ++ word p) "rests " = true
  c : cutS (("rests " : Str) ++ word p) (some 6) none = word p
theorem line_ok {p : Int} (h0 : 0 < p) (h1 : p < 100) : LineOk p := by
  have e : ((p.toNat : Nat) : Int) = p := by omega
  obtain ⟨a, b, c, d⟩ := lines_ ⟨p.toNat, by omega⟩ (by show 1 ≤ p.toNat; omega)
  rw [show (((⟨p.toNat, by omega⟩ : Fin 100).val : Nat) : Int) = p from e] at a b c d
  exact ⟨a, b, c, d⟩
theorem sz1 {n : Nat} (h : n ≤ 100) : n ≤ sizeLine := Nat.le_trans h (by decide)
def sp_unsigned : Sp := fun vs H Q _ => ∃ p : Int, vs = [.str (word p), .int 60] ∧ 0 < p ∧ p < 100 ∧ Q (.int p) H
def t_f_unsigned (K : PySem.W.Frag) : TS :=
    (tSeq (tIfS (tOr (tTest (tOp (uGt K) (tCB (uLen K) (tCons (tVar 0) tNil)) (tVar 1))) (tOr (tNot (tB (tM0 rIsascii (tVar 0)))) (tNot (tB (tM0 rIsdigit (tVar 0)))))) (tRet (tC .non)) tNext)
    (tSeq (tIfS (tAnd (tB (tM1 rStarts (tVar 0) (tC (.str "0")))) (tTest (tOp (uGt K) (tCB (uLen K) (tCons (tVar 0) tNil)) (tC (.int 1))))) (tRet (tC .non)) tNext)
    (tRet (tCB (uInt) (tCons (tVar 0) tNil)))))
theorem pure_unsigned (K : PySem.W.Frag) (vs : List V) (H : Hp) (Q : VK) (E : XK) (h : sp_unsigned vs H Q E) : t_f_unsigned K { nx := fun _ H' => Q .non H', rt := Q } (start ["word", "most"] vs) H := by
  obtain ⟨p, rfl, p0, p1, q⟩ := h
  obtain ⟨hl, ha, hd, hs, hi⟩ := word_ok p0 p1
  unfold t_f_unsigned
  walk_at "tw"
  refine c_lenS (sz1 (by omega)) ?_
  walk_at "tw"
  rw [ha]
  walk_at "tw"
  rw [hd]
  walk_at "tw"
  rw [hs]
  walk_at "tw"
  exact c_intS hi (by omega) q
def sp_is_odd_prime : Sp := fun vs H Q _ => ∃ n : Int, vs = [.int n] ∧ 0 ≤ n ∧ n < 100 ∧ prB n.toNat = true ∧ Q (.bl true) H
def t_f_is_odd_prime (K : PySem.W.Frag) : TS :=
    (tSeq (tIfS (tOr (tTest (tOp (uLt K) (tVar 0) (tC (.int 3)))) (tTest (tOp (uEq K) (tOp uMod (tVar 0) (tC (.int 2))) (tC (.int 0))))) (tRet (tC (.bl false))) tNext)
    (tSeq (tAsg (tC (.int 3)) (gName 1))
    (tSeq (tWhile (tTest (tOp (uLe K) (tOp (uMul K) (tVar 1) (tVar 1)) (tVar 0))) (tSeq (tIfS (tTest (tOp (uEq K) (tOp uMod (tVar 0) (tVar 1)) (tC (.int 0)))) (tRet (tC (.bl false))) tNext)
    (tAug 1 (tC (.int 2)) (ipI fun i j => i + j))))
    (tRet (tC (.bl true))))))
theorem prB_no {n : Nat} (h : prB n = true) : 3 ≤ n ∧ n % 2 = 1 ∧ ∀ d, 3 ≤ d → d < 10 → d * d ≤ n → n % d ≠ 0 := by
  unfold prB at h
  simp only [Bool.and_eq_true, decide_eq_true_eq, List.all_eq_true, List.mem_range, Bool.or_eq_true] at h
  refine ⟨h.1, h.2.1, fun d d3 d10 dd => ?_⟩
  rcases h.2.2 d d10 with (z | z) | z
  · omega
  · exact z
  · omega
theorem pure_is_odd_prime (K : PySem.W.Frag) (vs : List V) (H : Hp) (Q : VK) (E : XK) (h : sp_is_odd_prime vs H Q E) : t_f_is_odd_prime K { nx := fun _ H' => Q .non H', rt := Q } (start ["number", "divisor"] vs) H := by
  obtain ⟨n, rfl, n0, n1, hp, q⟩ := h
  obtain ⟨h3, h2, hd⟩ := prB_no hp
  have hm : n % 2 = 1 := by omega
  unfold t_f_is_odd_prime
  walk_at "tw"
  refine ⟨fun m σ H' => ∃ d : Nat, σ = [some (.int n), some (.int (d : Int))] ∧ H' = H ∧ 3 ≤ d ∧ d ≤ 11 ∧ d + m = 12, ⟨9, 3, rfl, rfl, by decide, by decide, rfl⟩, ?_⟩
  rintro m σ H' ⟨d, rfl, rfl, d3, d11, dm⟩
  walk_at "tw"
  refine c_ite (fun hy => ?_) (fun hy => ?_)
  · have hy2 : (d : Int) * (d : Int) ≤ n := of_decide_eq_true hy
    have hy3 : d * d ≤ n.toNat := by
      have : ((d * d : Nat) : Int) ≤ n := by rw [Int.natCast_mul]; exact hy2
      omega
    have d10 : d < 10 := by
      rcases Nat.lt_or_ge d 10 with z | z
      · exact z
      · have : 10 * 10 ≤ d * d := Nat.mul_le_mul z z
        omega
    have hz := hd d d3 d10 hy3
    have hz2 : ¬ n % (d : Int) = 0 := fun z => hz (by
      have e : ((n.toNat % d : Nat) : Int) = n % (d : Int) := by rw [Int.natCast_emod, Int.toNat_of_nonneg n0]
      omega)
    refine ⟨_, fun _ _ z => z, ?_⟩
    walk_at "tw"
    refine ⟨_, rfl, ?_⟩
    walk_at "tw"
    refine ⟨_, _, rfl, rfl, ?_⟩
    exact ⟨m - 2, by omega, d + 2, rfl, rfl, by omega, by omega, by omega⟩
  · walk_at "tw"
    exact q
def sp_prime_of_line : Sp := fun vs H Q _ => ∃ p : Int, vs = [.str (lineOf p)] ∧ (p = 0 ∨ (0 ≤ p ∧ p < 100 ∧ prB p.toNat = true)) ∧ Q (grV p) H
def t_f_prime_of_line (K : PySem.W.Frag) : TS :=
    (tSeq (tIfS (tTest (tOp (uEq K) (tVar 0) (tC (.str "fractions")))) (tRet (tC .non)) tNext)
    (tSeq (tIfS (tNot (tB (tM1 rStarts (tVar 0) (tC (.str "rests "))))) tNever tNext)
    (tSeq (tAsg (tCall sp_unsigned [.int 60] E0 (tCons (tSl (uSl K) (tVar 0) (tPart (tC (.int 6))) tNoPart) tNil)) (gName 1))
    (tSeq (tIfS (tOr (tTest (tOp uIsN (tVar 1) (tC .non))) (tOr (tTest (tOp (uGt K) (tVar 1) (tC (.int 10007)))) (tNot (tB (tCall sp_is_odd_prime [] E0 (tCons (tVar 1) tNil)))))) tNever tNext)
    (tRet (tVar 1))))))
theorem lineOf_pos {p : Int} (h : 0 < p) : lineOf p = ("rests " : Str) ++ word p := if_pos h
theorem pure_prime_of_line (K : PySem.W.Frag) (vs : List V) (H : Hp) (Q : VK) (E : XK) (h : sp_prime_of_line vs H Q E) : t_f_prime_of_line K { nx := fun _ H' => Q .non H', rt := Q } (start ["line", "prime"] vs) H := by
  obtain ⟨p, rfl, hp, q⟩ := h
  unfold t_f_prime_of_line
  rcases hp with rfl | ⟨p0, p1, hp⟩
  · walk_at "tw"
    exact q
  · obtain ⟨h3, _, _⟩ := prB_no hp
    have p0' : 0 < p := by omega
    obtain ⟨hl, hf, hs, hc⟩ := line_ok p0' p1
    rw [lineOf_pos p0']
    walk_at "tw"
    rw [hs]
    walk_at "tw"
    refine c_slS (sz1 hl) ?_
    rw [hc]
    walk_at "tw"
    refine ⟨p, rfl, p0', p1, ?_⟩
    walk_at "tw"
    refine ⟨p, rfl, p0, p1, hp, ?_⟩
    walk_at "tw"
    rw [grV_pos p0'] at q
    exact q
def sp_Ground_init (K : PySem.W.Frag) : Sp := fun vs H Q _ => ∃ (g dx : Addr) (p : Int), vs = [.ref g, .str (lineOf p)] ∧ (p = 0 ∨ (0 ≤ p ∧ p < 100 ∧ prB p.toNat = true)) ∧ H g = some (.ins (He.ga K "Ground") dx []) ∧ Q .non (upd H g (.ins (He.ga K "Ground") dx (grF p)))
def t_m_Ground_init (K : PySem.W.Frag) : TS :=
    (tSeq (sFld K (tVar 0) (tVar 1) "line")
    (sFld K (tVar 0) (tCall sp_prime_of_line [] E0 (tCons (tVar 1) tNil)) "prime"))
theorem pure_ginit (K : PySem.W.Frag) (T : GrK K) (vs : List V) (H : Hp) (Q : VK) (E : XK) (h : sp_Ground_init K vs H Q E) : t_m_Ground_init K { nx := fun _ H' => Q .non H', rt := Q } (start ["self", "line"] vs) H := by
  obtain ⟨g, dx, p, rfl, hp, hg, q⟩ := h
  unfold t_m_Ground_init
  walk_at "tw"
  refine ⟨g, _, dx, [], rfl, hg, T.cl, T.nL, by show 0 < 1000; decide, ?_⟩
  walk_at "tw"
  refine ⟨p, rfl, hp, ?_⟩
  walk_at "tw"
  refine ⟨g, _, dx, _, rfl, upd_same, T.cl, T.nP, by show 1 < 1000; decide, ?_⟩
  rw [upd_upd]
  exact q
end Tw
namespace Tw
open PySem
open Lean.Grind
/-! ## Plain: the interpolation, told of numbers -/
def Gn.v {p : Int} (x : Gn p) : Nu := x.1
def Gn.of {p : Int} (x : Nu) (h : x.ok p) : Gn p := ⟨x, h⟩
instance {p : Int} : DecidableEq (Gn p) := fun a b => if h : a.v = b.v then isTrue (Gn.ext h) else isFalse fun z => h (by rw [z])
theorem lift_nu {p : Int} : ∀ (xs : List Nu), (∀ x ∈ xs, x.ok p) → ∃ gs : List (Gn p), gs.map Gn.v = xs
  | [], _ => ⟨[], rfl⟩
  | x :: xs, h => by
    obtain ⟨gs, e⟩ := lift_nu xs fun y hy => h y (List.mem_cons_of_mem _ hy)
    exact ⟨Gn.of x (h x List.mem_cons_self) :: gs, by rw [List.map_cons, e]; rfl⟩
theorem lift_pt {p : Int} : ∀ (pts : List (Option Nu)), (∀ x, some x ∈ pts → x.ok p) → ∃ gs : List (Option (Gn p)), gs.map (Option.map Gn.v) = pts
  | [], _ => ⟨[], rfl⟩
  | none :: pts, h => by
    obtain ⟨gs, e⟩ := lift_pt pts fun y hy => h y (List.mem_cons_of_mem _ hy)
    exact ⟨none :: gs, by rw [List.map_cons, e]; rfl⟩
  | some x :: pts, h => by
    obtain ⟨gs, e⟩ := lift_pt pts fun y hy => h y (List.mem_cons_of_mem _ hy)
    exact ⟨some (Gn.of x (h x List.mem_cons_self)) :: gs, by rw [List.map_cons, e]; rfl⟩
section
variable {p : Int} (h : 0 ≤ p)
theorem gn_zero : (letI := gRing h; (0 : Gn p)).v = ofInt p 0 := rfl
theorem gn_one : (letI := gRing h; (1 : Gn p)).v = ofInt p 1 := rfl
theorem prodA_val (x : Gn p) : ∀ (os : List (Gn p)) (v : Gn p), (letI := gRing h; La.prodA v x os).v = (os.map Gn.v).foldl (fun v o => Nu.mul p v (subN p x.v o)) v.v
  | [], v => rfl
  | o :: os, v => prodA_val x os (letI := gRing h; v * (x - o))
theorem linA_val (o : Gn p) : ∀ (c : List (Gn p)) (v : Gn p), (letI := gRing h; La.linA o v c).map Gn.v = List.zipWith (fun x y => subN p x (Nu.mul p o.v y)) (v.v :: c.map Gn.v) (c.map Gn.v ++ [ofInt p 0])
  | [], v => by
    letI := gRing h
    have e : v = v - o * 0 := by grind
    show [v.v] = [subN p v.v (Nu.mul p o.v (ofInt p 0))]
    have e2 : v.v = (v - o * 0).v := congrArg Gn.v e
    rw [e2]
    congr 1
    rw [← e2]
    exact e2
  | a :: c, v => by
    letI := gRing h
    have ih := linA_val o c a
    have e : v + -o * a = v - o * a := by grind
    show (v + -o * a).v :: (La.linA o a c).map Gn.v = _
    rw [e, ih]
    rfl
theorem lin_val (o : Gn p) (c : List (Gn p)) : (letI := gRing h; La.lin o c).map Gn.v = stepN p o.v (c.map Gn.v) := linA_val h o c (letI := gRing h; 0)
theorem polyA_val : ∀ (os c : List (Gn p)), (letI := gRing h; La.polyA c os).map Gn.v = (os.map Gn.v).foldl (fun c o => stepN p o c) (c.map Gn.v)
  | [], c => rfl
  | o :: os, c => by
    letI := gRing h
    have ih := polyA_val os (La.lin o c)
    rw [lin_val h] at ih
    exact ih
theorem polyOf_val (os : List (Gn p)) : (letI := gRing h; La.polyOf os).map Gn.v = polyN p (os.map Gn.v) := polyA_val h os [letI := gRing h; 1]
theorem fin_val : ∀ gs : List (Option (Gn p)), (La.fin gs).map Gn.v = finP (gs.map (Option.map Gn.v))
  | [] => rfl
  | none :: gs => fin_val gs
  | some x :: gs => by
    show x.v :: (La.fin gs).map Gn.v = x.v :: finP (gs.map (Option.map Gn.v))
    rw [fin_val gs]
theorem filter_val (x : Gn p) : ∀ l : List (Gn p), (l.filter fun o => decide (o ≠ x)).map Gn.v = (l.map Gn.v).filter fun o => decide (o ≠ x.v)
  | [] => rfl
  | o :: l => by
    have ih := filter_val x l
    by_cases e : o = x
    · rw [List.filter_cons_of_neg (by simp [e]), List.map_cons, List.filter_cons_of_neg (by simp [e]), ih]
    · have e2 : o.v ≠ x.v := fun z => e (Gn.ext z)
      rw [List.filter_cons_of_pos (by simp [e]), List.map_cons, List.map_cons, List.filter_cons_of_pos (by simp [e2]), ih]
theorem others_val (x : Gn p) (gs : List (Option (Gn p))) : (La.othersOf x gs).map Gn.v = othersN (some x.v) (gs.map (Option.map Gn.v)) := by
  show ((La.fin gs).filter fun o => decide (o ≠ x)).map Gn.v = (finP (gs.map (Option.map Gn.v))).filter fun o => decide (o ≠ x.v)
  rw [filter_val, fin_val]
theorem pad_val (z : Nat) (c : List (Gn p)) : (letI := gRing h; La.pad z c).map Gn.v = padN p z (c.map Gn.v) := by
  letI := gRing h
  show (c ++ List.replicate (z - c.length) 0).map Gn.v = c.map Gn.v ++ List.replicate (z - (c.map Gn.v).length) (ofInt p 0)
  rw [List.map_append, List.map_replicate, List.length_map]
  rfl
theorem smul_val (s : Gn p) (c : List (Gn p)) : (letI := gRing h; La.smul s c).map Gn.v = (c.map Gn.v).map (Nu.mul p s.v) := by
  letI := gRing h
  show (c.map (s * ·)).map Gn.v = _
  (rw [List.map_map, List.map_map])
  rfl
theorem rowL_val (z : Nat) (gs : List (Option (Gn p))) : ∀ q : Option (Gn p), (letI := gRing h; La.rowL gInv z gs q).map Gn.v = valRow p z (gs.map (Option.map Gn.v)) (q.map Gn.v)
  | none => by
    letI := gRing h
    show (La.pad z (La.smul (gInv 1) (La.polyOf (La.fin gs)))).map Gn.v = _
    rw [pad_val h, smul_val h, polyOf_val h, fin_val]
    rfl
  | some x => by
    letI := gRing h
    show (La.pad z (La.smul (gInv (La.prodA 1 x (La.othersOf x gs))) (La.polyOf (La.othersOf x gs)))).map Gn.v = _
    rw [pad_val h, smul_val h, polyOf_val h, others_val]
    have e : (gInv (La.prodA 1 x (La.othersOf x gs))).v = Nu.inv p (prodN p x.v (othersN (some x.v) (gs.map (Option.map Gn.v)))) := by
      show Nu.inv p (La.prodA 1 x (La.othersOf x gs)).v = _
      rw [prodA_val h, others_val]
      rfl
    rw [e]
    rfl
end
theorem gn_nz {p : Int} (hp : PrN p) : letI := gRing hp.nonneg; La.NZ (Gn p) := fun a b e => g_nz hp a b e
theorem pts_nodup {p : Int} {gs : List (Option (Gn p))} (h : (gs.map (Option.map Gn.v)).Nodup) : gs.Nodup := by
  rw [List.nodup_iff_pairwise_ne] at h ⊢
  exact (List.pairwise_map.mp h).imp fun ne z => ne (by rw [z])
/-- unlike points: their scales are not nought -/
theorem sc_ok {p : Int} (hp : PrN p) {pts : List (Option Nu)} (ok : PtOk p pts) (nd : pts.Nodup) : ScOk p pts := by
  intro x hx z
  obtain ⟨gs, rfl⟩ := lift_pt pts fun y hy => (ok y hy).1
  letI := gRing hp.nonneg
  obtain ⟨gx, hgx, ex⟩ := List.mem_map.mp hx
  cases gx with
  | none => cases ex
  | some g =>
    have ex2 : g.v = x := Option.some.inj ex
    subst ex2
    have ne := La.prodA_ne (gn_nz hp) g (La.othersOf g gs) 1 (g_one0 hp) (fun m => by
      have := (List.mem_filter.mp m).2
      simp at this)
    refine ne (Gn.ext ?_)
    show (La.prodA 1 g (La.othersOf g gs)).v = ofInt p 0
    rw [prodA_val hp.nonneg, others_val]
    exact z
theorem one_ne {p : Int} (hp : PrN p) : ofInt p 1 ≠ ofInt p 0 := fun z => g_one0 hp (Gn.ext z)
/-! ### sums -/
section
variable {p : Int} (h : 0 ≤ p)
theorem dotL_val {α : Type} (f g : α → Gn p) : ∀ (l : List α) (t : Gn p), dotL p t.v (l.map fun a => ((f a).v, (g a).v)) = (letI := gRing h; t + La.sumF (l.map fun a => f a * g a)).v
  | [], t => by
    letI := gRing h
    have e : t = t + 0 := by grind
    exact congrArg Gn.v e
  | a :: l, t => by
    letI := gRing h
    have ih := dotL_val f g l (t + f a * g a)
    have e : t + f a * g a + La.sumF (l.map fun a => f a * g a) = t + (f a * g a + La.sumF (l.map fun a => f a * g a)) := by grind
    show dotL p (t + f a * g a).v (l.map fun a => ((f a).v, (g a).v)) = (t + (f a * g a + La.sumF (l.map fun a => f a * g a))).v
    rw [ih, e]
theorem dot_val {α : Type} (f g : α → Gn p) (l : List α) : dotL p (ofInt p 0) (l.map fun a => ((f a).v, (g a).v)) = (letI := gRing h; La.sumF (l.map fun a => f a * g a)).v := by
  letI := gRing h
  have e := dotL_val h f g l 0
  have e2 : 0 + La.sumF (l.map fun a => f a * g a) = La.sumF (l.map fun a => f a * g a) := by grind
  rw [e2] at e
  exact e
theorem pwN_val (x : Gn p) : ∀ k : Nat, pwN p x.v k = (letI := gRing h; x ^ k).v
  | 0 => rfl
  | k + 1 => by
    letI := gRing h
    show Nu.mul p (pwN p x.v k) x.v = _
    rw [pwN_val x k]
    rfl
end
end Tw
namespace Tw
open PySem
open Lean.Grind
/-! ## Plain: the rectangle by points is right -/
section
variable {p : Int} (h : 0 ≤ p)
theorem getD_val (k : Nat) : ∀ c : List (Gn p), (c.map Gn.v).getD k (ofInt p 0) = (letI := gRing h; c.getD k 0).v := fun c => by
  letI := gRing h
  (rw [List.getD_eq_getElem?_getD, List.getD_eq_getElem?_getD, List.getElem?_map])
  cases c[k]? <;> rfl
theorem base_val {z e : Nat} (he : e < z) : (letI := gRing h; (La.base z e : List (Gn p))).map Gn.v = baseN p z (e : Int) := by
  letI := gRing h
  apply List.ext_getElem?
  intro k
  unfold baseN
  show ((List.replicate e (0 : Gn p) ++ (1 : Gn p) :: List.replicate (z - e - 1) 0).map Gn.v)[k]? = _
  rw [List.map_append, List.map_replicate, List.map_cons, List.map_replicate]
  by_cases hk : k < z
  · rw [List.getElem?_map, List.getElem?_range hk]
    show _ = some (ofInt p (if (k : Int) = (e : Int) then 1 else 0))
    rcases Nat.lt_trichotomy k e with c | c | c
    · rw [List.getElem?_append_left (by rw [List.length_replicate]; exact c), List.getElem?_replicate, if_pos c, if_neg (by omega)]
      rfl
    · subst c
      rw [List.getElem?_append_right (by rw [List.length_replicate]; exact Nat.le_refl _), List.length_replicate, Nat.sub_self, if_pos rfl]
      rfl
    · rw [List.getElem?_append_right (by rw [List.length_replicate]; omega), List.length_replicate, show k - e = (k - e - 1) + 1 from by omega, List.getElem?_cons_succ, List.getElem?_replicate, if_pos (by omega), if_neg (by omega)]
      rfl
  · rw [List.getElem?_eq_none (by simp; omega), List.getElem?_eq_none (by simp; omega)]
/-- a point's two powers multiplied -/
theorem pw_val {m r : Nat} (m1 : 1 ≤ m) (r1 : 1 ≤ r) {i j : Nat} (hi : i < m) (hj : j < r) : ∀ q : Option (Gn p), Nu.mul p ((powN p (q.map Gn.v) m).getD i (ofInt p 0)) ((powN p (q.map Gn.v) r).getD j (ofInt p 0)) = (letI := gRing h; La.pw (m + r - 1) (i + j) q).v
  | some x => by
    letI := gRing h
    have e1 : (powN p (some x.v) m).getD i (ofInt p 0) = pwN p x.v i := by
      unfold powN
      rw [List.getD_eq_getElem?_getD, List.getElem?_map, List.getElem?_range hi]
      rfl
    have e2 : (powN p (some x.v) r).getD j (ofInt p 0) = pwN p x.v j := by
      unfold powN
      rw [List.getD_eq_getElem?_getD, List.getElem?_map, List.getElem?_range hj]
      rfl
    show Nu.mul p ((powN p (some x.v) m).getD i (ofInt p 0)) ((powN p (some x.v) r).getD j (ofInt p 0)) = (x ^ (i + j)).v
    rw [e1, e2, pwN_val h, pwN_val h, Semiring.pow_add]
    rfl
  | none => by
    letI := gRing h
    have e1 : (powN p none m).getD i (ofInt p 0) = ofInt p (if i + 1 = m then 1 else 0) := by
      unfold powN
      rw [List.getD_eq_getElem?_getD, List.getElem?_map, List.getElem?_range hi]
      show ofInt p (if (i : Int) = (m : Int) - 1 then 1 else 0) = _
      by_cases c : i + 1 = m
      · rw [if_pos (by omega), if_pos c]
      · rw [if_neg (by omega), if_neg c]
    have e2 : (powN p none r).getD j (ofInt p 0) = ofInt p (if j + 1 = r then 1 else 0) := by
      unfold powN
      rw [List.getD_eq_getElem?_getD, List.getElem?_map, List.getElem?_range hj]
      show ofInt p (if (j : Int) = (r : Int) - 1 then 1 else 0) = _
      by_cases c : j + 1 = r
      · rw [if_pos (by omega), if_pos c]
      · rw [if_neg (by omega), if_neg c]
    show Nu.mul p ((powN p none m).getD i (ofInt p 0)) ((powN p none r).getD j (ofInt p 0)) = (if i + j + 1 = m + r - 1 then (1 : Gn p) else 0).v
    rw [e1, e2]
    by_cases c1 : i + 1 = m
    · by_cases c2 : j + 1 = r
      · rw [if_pos c1, if_pos c2, if_pos (by omega)]
        have e : (1 : Gn p) * 1 = 1 := by grind
        exact congrArg Gn.v e
      · rw [if_pos c1, if_neg c2, if_neg (by omega)]
        have e : (1 : Gn p) * 0 = 0 := by grind
        exact congrArg Gn.v e
    · rw [if_neg c1, if_neg (by omega : ¬ i + j + 1 = m + r - 1)]
      by_cases c2 : j + 1 = r
      · rw [if_pos c2]
        have e : (0 : Gn p) * 1 = 0 := by grind
        exact congrArg Gn.v e
      · rw [if_neg c2]
        have e : (0 : Gn p) * 0 = 0 := by grind
        exact congrArg Gn.v e
end
/-- the sums over the points, as one place of La.comb -/
theorem comb_place {p : Int} (hp : PrN p) {gs : List (Option (Gn p))} {m r : Nat} (m1 : 1 ≤ m) (r1 : 1 ≤ r) (hl : gs.length = m + r - 1) (nd : gs.Nodup) {i j k : Nat} (hi : i < m) (hj : j < r) (hk : k < m + r - 1) :
    (letI := gRing hp.nonneg; La.sumF (gs.map fun q => La.pw (m + r - 1) (i + j) q * (La.rowL gInv (m + r - 1) gs q).getD k 0)) = (letI := gRing hp.nonneg; if i + j = k then 1 else 0) := by
  letI := gRing hp.nonneg
  have it := La.interp (F := Gn p) (inv := gInv) (pts := gs) (z := m + r - 1) (e := i + j) (gn_nz hp) (g_one0 hp) (fun a ha => g_inv hp a ha) nd hl (by omega)
  have gk := La.get_comb (F := Gn p) (m + r - 1) k hk (gs.map fun q => (La.pw (m + r - 1) (i + j) q, La.rowL gInv (m + r - 1) gs q)) (fun q hq => by
    obtain ⟨a, ha, rfl⟩ := List.mem_map.mp hq
    exact La.rowL_length nd hl a ha)
  rw [it, List.map_map] at gk
  have gb : (La.base (m + r - 1) (i + j) : List (Gn p))[k]? = some (if i + j = k then 1 else 0) := by
    show (List.replicate (i + j) (0 : Gn p) ++ (1 : Gn p) :: List.replicate (m + r - 1 - (i + j) - 1) 0)[k]? = _
    rcases Nat.lt_trichotomy k (i + j) with c | c | c
    · rw [List.getElem?_append_left (by rw [List.length_replicate]; exact c), List.getElem?_replicate, if_pos c, if_neg (by omega)]
    · rw [List.getElem?_append_right (by rw [List.length_replicate]; omega), List.length_replicate, if_pos c.symm, show k - (i + j) = 0 from by omega]
      rfl
    · rw [List.getElem?_append_right (by rw [List.length_replicate]; omega), List.length_replicate, show k - (i + j) = (k - (i + j) - 1) + 1 from by omega, List.getElem?_cons_succ, List.getElem?_replicate, if_pos (by omega), if_neg (by omega)]
  rw [gb] at gk
  exact (Option.some.inj gk).symm
theorem rect_good {p : Int} (hp : PrN p) {pts : List (Option Nu)} {m r : Nat} (ok : PtOk p pts) (nd : pts.Nodup) (m1 : 1 ≤ m) (r1 : 1 ≤ r) (hl : pts.length = m + r - 1) {i j : Nat} (hi : i < m) (hj : j < r) : ¬ badN p (rectTr p m r pts) (m + r - 1) i j := by
  intro bad
  refine bad ?_
  obtain ⟨gs, rfl⟩ := lift_pt pts fun y hy => (ok y hy).1
  have ndg := pts_nodup nd
  have hlg : gs.length = m + r - 1 := by rw [← hl, List.length_map]
  have h0 := hp.nonneg
  letI := gRing h0
  have ee : ((i : Int) + (j : Int)) = ((i + j : Nat) : Int) := by omega
  rw [ee, ← base_val h0 (show i + j < m + r - 1 by omega)]
  apply List.ext_getElem?
  intro k
  by_cases hk : k < m + r - 1
  · unfold combN
    rw [List.getElem?_map, List.getElem?_range hk]
    show some (dotN p (facN p (rectTr p m r (gs.map (Option.map Gn.v))) i j) (col p k ((rectTr p m r (gs.map (Option.map Gn.v))).map fun q => q.2.2))) = _
    have e1 : dotN p (facN p (rectTr p m r (gs.map (Option.map Gn.v))) i j) (col p k ((rectTr p m r (gs.map (Option.map Gn.v))).map fun q => q.2.2)) =
        dotL p (ofInt p 0) (gs.map fun q => ((La.pw (m + r - 1) (i + j) q).v, ((La.rowL gInv (m + r - 1) gs q).getD k 0).v)) := by
      unfold dotN facN col rectTr
      rw [List.map_map, List.map_map, List.map_map, List.map_map, List.map_map, zip_maps]
      congr 1
      refine List.map_congr_left fun q _ => ?_
      show (Nu.mul p ((powN p (q.map Gn.v) m).getD i (ofInt p 0)) ((powN p (q.map Gn.v) r).getD j (ofInt p 0)), (valRow p (gs.map (Option.map Gn.v)).length (gs.map (Option.map Gn.v)) (q.map Gn.v)).getD k (ofInt p 0)) = _
      rw [pw_val h0 m1 r1 hi hj q, List.length_map, hlg, ← rowL_val h0, getD_val h0]
    rw [e1, dot_val h0, comb_place hp m1 r1 hlg ndg hi hj hk, base_val h0 (show i + j < m + r - 1 by omega)]
    unfold baseN
    rw [List.getElem?_map, List.getElem?_range hk]
    show some (if i + j = k then (1 : Gn p) else 0).v = some (ofInt p (if (k : Int) = ((i + j : Nat) : Int) then 1 else 0))
    by_cases c : i + j = k
    · rw [if_pos c, if_pos (by omega)]; rfl
    · rw [if_neg c, if_neg (by omega)]; rfl
  · rw [List.getElem?_eq_none (by unfold combN; simp; omega), List.getElem?_eq_none (by rw [base_val h0 (show i + j < m + r - 1 by omega)]; unfold baseN; simp; omega)]
end Tw
namespace Tw
open PySem PySem.Spec PyProof.Rows L2 Evl RZ LamX
/-! ### _law_asked -/
theorem prB_fin : ∀ n ∈ primesN, prB n = true ∧ n < 100 := by decide
theorem PrN.line {p : Int} (h : PrN p) : p = 0 ∨ (0 ≤ p ∧ p < 100 ∧ prB p.toNat = true) := by
  rcases h with h | ⟨n, hn, rfl⟩
  · exact .inl h
  · obtain ⟨h1, h2⟩ := prB_fin n hn
    exact .inr ⟨by omega, by omega, by rw [show ((n : Nat) : Int).toNat = n from by omega]; exact h1⟩
abbrev sp__law_same : Sp := spS 5
structure AskK (K : PySem.W.Frag) : Prop where
  exm : ∀ C ∈ hotL, PySem.W.exmOne K (.ref (He.ga K C)) (.ref (He.ga K "Refused")) = some true
theorem Flt.mem {C : Str} {fs : List (Str × V)} {ds : List PyData} (f : Flt C fs ds) : C ∈ hotL := by
  cases f <;> decide
theorem RetN.back {d : PyData} {H H1 : Hp} {Q : VK} (q : RetN d H Q) (e : Ex H H1) : RetN d H1 Q := fun v H2 e2 h => q v H2 (e.trans e2) (h.mono (grow0_back0 e))
theorem c_try {K : PySem.W.Frag} {c : Value} {i : Nat} {tb : WX → TS} {ts : Addr → Value → Option Addr → TS} {D : Ends} {σ : L2.St} {H : Hp} (h : tb (wAs K c i ts (fun _ _ _ _ => False) D) D σ H) : tTry K c i tb ts D σ H := h
theorem c_callKS {sp : Sp} {gV : List V → List V → List V} {E : L2.St → XK} {t tk : TA} {σ : L2.St} {H : Hp} {Q : VK} (h : t σ H fun vs H1 => tk σ H1 fun zs H2 => sp (gV vs zs) H2 Q (E σ)) : tCallKS sp gV E t tk σ H Q := h
theorem c_callS {sp : Sp} {dvs : List V} {E : L2.St → XK} {t : TA} {σ : L2.St} {H : Hp} {Q : VK} (h : t σ H fun vs H1 => sp (vs ++ dvs) H1 Q (E σ)) : tCallS sp dvs E t σ H Q := h
theorem c_callP {a : Addr} {c : Value} {d : Option Addr} {sp : SpH} {t : TA} {σ : L2.St} {H : Hp} {Q : VK} (h : t σ H fun vs H1 => sp a c d vs H1 Q E0) : tCallP a c d sp t σ H Q := h
theorem c_bad {K : PySem.W.Frag} (T : AskK K) {C : Str} {fs : List (Str × V)} {ds : List PyData} (fl : Flt C fs ds) {σ : L2.St} {D : Ends} {H H3 : Hp} (q : RetN (faultD C ds) H D.rt) (e : Ex H H3) (hs : 7 < σ.length) :
    Ow K C fs H3 (L2.WE (wAs K (.ref (He.ga K "Refused")) 7 (fun a cls d => tRet (tCallP a cls d (sp__law_fault K) (tCons (tVar 7) (tCons (tC (.str "Refused")) tNil)))) (fun _ _ _ _ => False) D) σ) := by
  intro d H4 e4 nd atd
  refine ⟨true, T.exm C fl.mem, fun _ a ha => ?_, fun z => by cases z⟩
  with_reducible refine c_ret ?_
  refine c_callP (c_cons (c_var (List.getElem?_set_self hs) (c_cons (c_c (c_nil ?_)))))
  exact ⟨C, d, fs, ds, rfl, fl, rfl, rfl, atd, q.back (e.trans e4)⟩
theorem dep_nu {n : Nat} (x : Nu) : Dep (n + 1) x.d := by
  cases x with
  | r i => exact trivial
  | f q => exact ⟨by show 2 ≤ 30000; decide, fun d hd => by
      (rcases List.mem_cons.mp hd with rfl | hd)
      · cases n <;> exact trivial
      (rcases List.mem_cons.mp hd with rfl | hd)
      · cases n <;> exact trivial
      · cases hd⟩
theorem dep_pts {pts : List (Option Nu)} (h : pts.length ≤ 30000) : Dep 4 (ptsD pts) := ⟨by rw [List.length_map]; exact h, fun d hd => by
  obtain ⟨q, _, rfl⟩ := List.mem_map.mp hd
  cases q with
  | none => exact trivial
  | some x => exact dep_nu x⟩
def toldD (d : PyData) : PyData := .list [.str "told", d]
/-- a rectangle told -/
def RetL (K : PySem.W.Frag) (p : Int) (m r z : Nat) (tr : List Trip) (G H : Hp) (Q : VK) : Prop := ∀ l x H', Ex H H' → grow G H H' l = some (.lst [.str "told", .ref x]) → LrAt K (grow G H H') x p m r z tr → Q (.ref l) H'
end Tw
namespace Tw
open PySem PySem.Spec PyProof.Rows L2 Evl RZ LamX
/-! ### where the law stands -/
/-- without tables -/
def strip (X : Hp) : Hp := fun c => match X c with
  | some (.tbl _) => none
  | o => o
theorem strip_noT (X : Hp) : NoT (strip X) := fun c ps h => by
  unfold strip at h
  cases e : X c with
  | none => (rw [e] at h; cases h)
  | some o =>
    rw [e] at h
    cases o <;> cases h
theorem strip_ex (X : Hp) : Ex (strip X) X := fun c o h => by
  unfold strip at h
  cases e : X c with
  | none => (rw [e] at h; cases h)
  | some u =>
    rw [e] at h
    cases u <;> first | exact h | cases h
theorem strip_some {X : Hp} {c : Addr} {o : HO} (h : X c = some o) (n : ∀ ps, o ≠ .tbl ps) : strip X c = some o := by
  unfold strip
  rw [h]
  cases o <;> first | rfl | exact absurd rfl (n _)
mutual
theorem Dx.strip {X : Hp} : ∀ (d : PyData) {v : V}, Dx X v d → Dx (strip X) v d
  | .none, _, .non => .non
  | .bool _, _, .bl b => .bl b
  | .int _, _, .int i => .int i
  | .str _, _, .str x => .str x
  | .list ds, _, .lst h r => .lst (strip_some h fun _ z => (nomatch z)) (DxA.strip ds r)
  | .tuple ds, _, .tup h r => .tup (strip_some h fun _ z => (nomatch z)) (DxA.strip ds r)
theorem DxA.strip {X : Hp} : ∀ (ds : List PyData) {vs : List V}, DxA X vs ds → DxA (strip X) vs ds
  | [], _, .nil => .nil
  | d :: ds, _, .cons h r => .cons (Dx.strip d h) (DxA.strip ds r)
end
theorem LrAt.strip {K : PySem.W.Frag} {X : Hp} {x : Addr} {p : Int} {m r n : Nat} {tr : List Trip} (h : LrAt K X x p m r n tr) : LrAt K (strip X) x p m r n tr := by
  obtain ⟨g, t, l, ⟨dx, h1⟩, ⟨dy, h2⟩, h3, h4⟩ := h
  exact ⟨g, t, l, ⟨dx, strip_some h1 fun _ z => (nomatch z)⟩, ⟨dy, strip_some h2 fun _ z => (nomatch z)⟩, strip_some h3 fun _ z => (nomatch z), Dx.strip _ h4⟩
/-- what is solid once more has been made -/
def gro (G H H' : Hp) : Hp := strip (grow G H H')
section
variable {K : PySem.W.Frag} {b L : Addr} {G H H' : Hp}
theorem BagAt.extN (h : BagAt b L H) (x : ExtN H H') : BagAt b L H' := by
  obtain ⟨cs, i, g, m, c, n, k1, k2, k3⟩ := h
  exact ⟨cs, i, g, m, c, n, x _ _ k1 fun _ z => (nomatch z), x _ _ k2 fun _ z => (nomatch z), k3⟩
theorem gro_new {v : V} {d : PyData} (h : Dx (grow hp0 H H') v d) : Dx (gro G H H') v d := Dx.strip _ (h.mono (grow_mono (ex0 _) (Ex.refl _)))
theorem gro_in {v : V} {d : PyData} (h : Dx (grow G H H') v d) : Dx (gro G H H') v d := Dx.strip _ h
end
theorem trs_lay : ∀ tr : List Trip, PyData.canLayAll0 (tr.map tripD) = true ∧ PyData.depthAll (tr.map tripD) ≤ 3
  | [] => ⟨rfl, by show 0 ≤ 3; decide⟩
  | q :: tr => by
    obtain ⟨h3, h4⟩ := trs_lay tr
    obtain ⟨a1, a2⟩ := nus_lay q.1
    obtain ⟨b1, b2⟩ := nus_lay q.2.1
    obtain ⟨c1, c2⟩ := nus_lay q.2.2
    have l1 : (tripD q).canLay0 = true := by
      show PyData.canLay0 (.tuple [rowN q.1, rowN q.2.1, rowN q.2.2]) = true
      simp only [PyData.canLay0, PyData.canLayAll0, rowN, a1, b1, c1, Bool.and_self]
    have l2 : (tripD q).depth ≤ 3 := by
      show max (PyData.depthAll (q.1.map Nu.d) + 1) (max (PyData.depthAll (q.2.1.map Nu.d) + 1) (max (PyData.depthAll (q.2.2.map Nu.d) + 1) 0)) + 1 ≤ 3
      omega
    rw [List.map_cons]
    refine ⟨?_, ?_⟩
    · simp only [PyData.canLayAll0, l1, h3, Bool.and_self]
    · show max (tripD q).depth (PyData.depthAll (tr.map tripD)) ≤ 3
      omega
theorem sh_trs (tr : List Trip) : SeqAt.shaped (.list (tr.map tripD)) = true := by
  obtain ⟨h1, h2⟩ := trs_lay tr
  unfold SeqAt.shaped
  have e1 : PyData.canLay0 (.list (tr.map tripD)) = true := by simp only [PyData.canLay0]; exact h1
  have e2 : PyData.depth (.list (tr.map tripD)) ≤ 64 := by
    show PyData.depthAll (tr.map tripD) + 1 ≤ 64
    omega
  rw [e1, decide_eq_true e2]
  rfl
theorem dep_opt (res : Option (Nat × Nat)) : Dep 4 (toldD (optD res)) := ⟨by show 2 ≤ 30000; decide, fun d hd => by
  (rcases List.mem_cons.mp hd with rfl | hd)
  · exact trivial
  (rcases List.mem_cons.mp hd with rfl | hd)
  · cases res with
    | none => exact trivial
    | some q => exact ⟨by show 2 ≤ 30000; decide, fun d hd => by
        (rcases List.mem_cons.mp hd with rfl | hd)
        · exact trivial
        (rcases List.mem_cons.mp hd with rfl | hd)
        · exact trivial
        · cases hd⟩
  · cases hd⟩
theorem dep_fault {C : Str} {fs : List (Str × V)} {ds : List PyData} (f : Flt C fs ds) : Dep 4 (faultD C ds) := ⟨by show 5 ≤ 30000; decide, fun d hd => by
  (rcases List.mem_cons.mp hd with rfl | hd)
  · exact trivial
  (rcases List.mem_cons.mp hd with rfl | hd)
  · exact trivial
  (rcases List.mem_cons.mp hd with rfl | hd)
  · refine ⟨by show 1 ≤ 30000; decide, fun d hd => ?_⟩
    (rcases List.mem_cons.mp hd with rfl | hd)
    · exact trivial
    · cases hd
  (rcases List.mem_cons.mp hd with rfl | hd)
  · cases f with
    | tm n =>
      refine ⟨by show 2 ≤ 30000; decide, fun d hd => ?_⟩
      (rcases List.mem_cons.mp hd with rfl | hd)
      · exact trivial
      (rcases List.mem_cons.mp hd with rfl | hd)
      · exact trivial
      · cases hd
    | bp w =>
      refine ⟨by show 1 ≤ 30000; decide, fun d hd => ?_⟩
      (rcases List.mem_cons.mp hd with rfl | hd)
      · exact trivial
      · cases hd
    | ul w =>
      refine ⟨by show 1 ≤ 30000; decide, fun d hd => ?_⟩
      (rcases List.mem_cons.mp hd with rfl | hd)
      · exact trivial
      · cases hd
  (rcases List.mem_cons.mp hd with rfl | hd)
  · exact trivial
  · cases hd⟩
end Tw
namespace Tw
open PySem PySem.Spec PyProof.Rows L2 Evl RZ LamX
/-! ### _law_judged -/
theorem flt_ul : Flt "Unlike" (ulF "sizes") [.str "sizes"] := .ul "sizes"
theorem c_eqEmpty {K : PySem.W.Frag} {H : Hp} {Q : VK} {v : V} {l : Addr} {tr : List Trip} (h : Dx H v (.list (tr.map tripD))) (hl : H l = some (.lst [])) (q : Q (.bl (decide (tr = []))) H) : uEq K v (.ref l) H Q := by
  refine c_eqD h (Dx.lst hl .nil) (sh_trs tr) shaped_nil ?_
  have e : PyData.eqv (.list (tr.map tripD)) (.list []) = decide (tr = []) := by
    simp only [PyData.eqv]
    cases tr with
    | nil => simp [PyData.eqvAll]
    | cons q tr => simp [PyData.eqvAll]
  rw [e]
  exact q
theorem c_iteV {b : Bool} {ta tb : TE} {σ : L2.St} {H : Hp} {Q : VK} (P : VK) (k : ∀ v H', P v H' → Q v H') (h1 : b = true → ∀ Q2 : VK, (∀ v H', P v H' → Q2 v H') → ta σ H Q2) (h2 : b = false → ∀ Q2 : VK, (∀ v H', P v H' → Q2 v H') → tb σ H Q2) : if b = true then ta σ H Q else tb σ H Q := by
  cases b with
  | true => rw [if_pos rfl]; exact h1 rfl Q k
  | false => rw [if_neg Bool.false_ne_true]; exact h2 rfl Q k
/-- a pair of ints, not the one -/
def PrD (m r : Int) (H : Hp) (v : V) : Prop := ∃ T M R, v = .ref T ∧ H T = some (.tup [.int M, .int R]) ∧ (M ≠ m ∨ R ≠ r)
theorem PrD.ex {m r : Int} {H H' : Hp} {v : V} (h : PrD m r H v) (e : Ex H H') : PrD m r H' v := by
  obtain ⟨T, M, R, h1, h2, h3⟩ := h
  exact ⟨T, M, R, h1, e _ _ h2, h3⟩
end Tw
namespace Tw
open PySem PySem.Spec PyProof.Rows L2 Evl RZ LamX
/-! ### _law_refused -/
theorem alike_set {pts : List (Option Nu)} {i j : Nat} {q : Option Nu} (hi : i < pts.length) (hj : j < pts.length) (ne : i ≠ j) (hq : pts[j]? = some q) : alikeB (pts.set i q) = true := by
  have e1 : (pts.set i q)[i]? = some q := List.getElem?_set_self hi
  have e2 : (pts.set i q)[j]? = some q := by rw [List.getElem?_set_ne ne]; exact hq
  have key : ∀ a c : Nat, a < c → c < pts.length → (pts.set i q)[a]? = some q → (pts.set i q)[c]? = some q → alikeB (pts.set i q) = true := fun a c ac cl h1 h2 => by
    unfold alikeB
    rw [List.any_eq_true]
    refine ⟨c, List.mem_range.mpr (by rw [List.length_set]; exact cl), ?_⟩
    rw [List.any_eq_true]
    refine ⟨q, List.mem_of_getElem? (i := a) (by rw [List.getElem?_take_of_lt ac]; exact h1), ?_⟩
    rw [h2]
    exact decide_eq_true rfl
  rcases Nat.lt_or_gt_of_ne ne with h | h
  · exact key i j h hj e1 e2
  · exact key j i h hi e2 e1
theorem due_ok1 : decide (("TooMany" : Str) = "NoSuch") = false ∧ inV (.str "TooMany") haltedL = false := by decide +kernel
theorem due_ok2 : decide (("BadPoints" : Str) = "NoSuch") = false ∧ inV (.str "BadPoints") haltedL = false := by decide +kernel
theorem due_go {Hb Hc : Hp} (e : Ex Hb Hc) {W : Addr} (fW : Hc W = none) {C : Str} {ws : List V} {ds : List PyData} {Q : VK} (h1 : decide (C = "NoSuch") = false ∧ inV (.str C) haltedL = false) (dw : ∀ X : Hp, DxA X ws ds) (k : ∀ u H3, Ex Hc H3 → Dx (grow hp0 Hb H3) u (faultD C ds) → Q u H3) :
    sp__law_due [.str C, .ref W] (upd Hc W (.lst ws)) Q E0 := by
  have e1 : Ex Hc (upd Hc W (.lst ws)) := Ex.new fW
  refine ⟨grow hp0 Hb (upd Hc W (.lst ws)), C, .ref W, .list ds, rfl, grow_in (ex0 _), .lst (grow_new (fresh_back e fW) upd_same) (dw _), h1.1, h1.2, fun u H3 e3 d3 => ?_⟩
  rw [grow_ex2 (e.trans e1) e3] at d3
  exact k u H3 (e1.trans e3) d3
theorem dx_wi (n : Int) (X : Hp) : DxA X [.str "window", .int n] [.str "window", .int n] := .cons (.str _) (.cons (.int _) .nil)
theorem dx_s1 (w : Str) (X : Hp) : DxA X [.str w] [.str w] := .cons (.str _) .nil
end Tw
namespace Tw
open PySem
open Lean.Grind
/-! ## Plain: what the rectangle tells is the polynomials' product -/
section
variable {F : Type} [CommRing F]
def SS {α : Type} (l : List α) (f : α → F) : F := La.sumF (l.map f)
theorem SS_nil {α : Type} (f : α → F) : SS [] f = 0 := rfl
theorem SS_cons {α : Type} (a : α) (l : List α) (f : α → F) : SS (a :: l) f = f a + SS l f := rfl
theorem SS_congr {α : Type} {f g : α → F} : ∀ {l : List α}, (∀ a ∈ l, f a = g a) → SS l f = SS l g
  | [], _ => rfl
  | a :: l, h => by rw [SS_cons, SS_cons, h a List.mem_cons_self, SS_congr fun b hb => h b (List.mem_cons_of_mem _ hb)]
theorem SS_zero {α : Type} : ∀ l : List α, SS l (fun _ => (0 : F)) = 0
  | [] => rfl
  | a :: l => by rw [SS_cons, SS_zero l]; grind
theorem SS_add {α : Type} (f g : α → F) : ∀ l : List α, SS l (fun a => f a + g a) = SS l f + SS l g
  | [] => by rw [SS_nil, SS_nil, SS_nil]; grind
  | a :: l => by rw [SS_cons, SS_cons, SS_cons, SS_add f g l]; grind
theorem SS_mulR {α : Type} (f : α → F) (c : F) : ∀ l : List α, SS l f * c = SS l fun a => f a * c
  | [] => by rw [SS_nil, SS_nil]; grind
  | a :: l => by rw [SS_cons, SS_cons, ← SS_mulR f c l]; grind
theorem SS_mulL {α : Type} (f : α → F) (c : F) : ∀ l : List α, c * SS l f = SS l fun a => c * f a
  | [] => by rw [SS_nil, SS_nil]; grind
  | a :: l => by rw [SS_cons, SS_cons, ← SS_mulL f c l]; grind
theorem SS_swap {α β : Type} (f : α → β → F) (l' : List β) : ∀ l : List α, SS l (fun a => SS l' fun b => f a b) = SS l' fun b => SS l fun a => f a b
  | [] => by rw [SS_nil]; exact (SS_zero l').symm
  | a :: l => by
    rw [SS_cons, SS_swap f l' l, ← SS_add]
    rfl
theorem SS_append {α : Type} (f : α → F) : ∀ l l' : List α, SS (l ++ l') f = SS l f + SS l' f
  | [], l' => by rw [List.nil_append, SS_nil]; grind
  | a :: l, l' => by rw [List.cons_append, SS_cons, SS_cons, SS_append f l l']; grind
theorem SS_filter {α : Type} (c : α → Bool) (f : α → F) : ∀ l : List α, SS (l.filter c) f = SS l fun a => if c a = true then f a else 0
  | [] => rfl
  | a :: l => by
    rw [SS_cons, ← SS_filter c f l]
    cases e : c a with
    | true => rw [List.filter_cons_of_pos e, SS_cons, if_pos rfl]
    | false =>
      rw [List.filter_cons_of_neg (by rw [e]; decide), if_neg (by decide)]
      grind
theorem SS_delta (c : Nat → F) (i k : Nat) : ∀ r : Nat, SS (List.range r) (fun j => c j * if i + j = k then 1 else 0) = if i ≤ k ∧ k - i < r then c (k - i) else 0
  | 0 => by rw [if_neg (by omega)]; rfl
  | r + 1 => by
    rw [List.range_succ, SS_append, SS_delta c i k r, SS_cons, SS_nil]
    by_cases h1 : i + r = k
    · have e : k - i = r := by omega
      rw [if_neg (by omega), if_pos h1, if_pos (by omega), e]
      grind
    · rw [if_neg h1]
      by_cases h2 : i ≤ k ∧ k - i < r
      · rw [if_pos h2, if_pos (by omega)]
        grind
      · rw [if_neg h2, if_neg (by omega)]
        grind
end
section
variable {p : Int} (h : 0 ≤ p)
def upG (h : 0 ≤ p) (m i : Nat) : Option (Gn p) → Gn p
  | some x => letI := gRing h; x ^ i
  | none => letI := gRing h; if i + 1 = m then 1 else 0
theorem pow_up (m : Nat) : ∀ q : Option (Gn p), powN p (q.map Gn.v) m = (List.range m).map fun i => (upG h m i q).v
  | some x => by
    show (List.range m).map (pwN p x.v) = _
    refine (List.map_congr_left fun i _ => ?_)
    exact pwN_val h x i
  | none => by
    show (List.range m).map (fun i : Nat => ofInt p (if (i : Int) = (m : Int) - 1 then 1 else 0)) = _
    refine (List.map_congr_left fun i _ => ?_)
    letI := gRing h
    show _ = (if i + 1 = m then (1 : Gn p) else 0).v
    by_cases c : i + 1 = m
    · rw [if_pos c, if_pos (by omega)]; rfl
    · rw [if_neg c, if_neg (by omega)]; rfl
theorem row_up (n : Nat) (gs : List (Gn p)) (hl : gs.length = n) : gs.map Gn.v = (List.range n).map fun i => (letI := gRing h; gs.getD i 0).v := by
  letI := gRing h
  apply List.ext_getElem?
  intro i
  (rw [List.getElem?_map, List.getElem?_map])
  by_cases hi : i < n
  · rw [List.getElem?_range hi, List.getElem?_eq_getElem (by omega)]
    show _ = some (gs.getD i 0).v
    rw [List.getD_eq_getElem?_getD, List.getElem?_eq_getElem (by omega)]
    rfl
  · rw [List.getElem?_eq_none (by omega), List.getElem?_eq_none (by simp; omega)]
    rfl
theorem pw_up {m r : Nat} (m1 : 1 ≤ m) (r1 : 1 ≤ r) {i j : Nat} (hi : i < m) (hj : j < r) : ∀ q : Option (Gn p), (letI := gRing h; La.pw (m + r - 1) (i + j) q) = (letI := gRing h; upG h m i q * upG h r j q)
  | some x => by
    letI := gRing h
    show x ^ (i + j) = x ^ i * x ^ j
    exact Semiring.pow_add x i j
  | none => by
    letI := gRing h
    show (if i + j + 1 = m + r - 1 then (1 : Gn p) else 0) = (if i + 1 = m then (1 : Gn p) else 0) * (if j + 1 = r then (1 : Gn p) else 0)
    by_cases c1 : i + 1 = m
    · by_cases c2 : j + 1 = r
      · rw [if_pos c1, if_pos c2, if_pos (by omega)]; grind
      · rw [if_neg c2, if_neg (by omega)]; grind
    · rw [if_neg c1, if_neg (by omega)]; grind
end
/-! ### the default points -/
theorem def0_nodup : ((List.range 14).map fun k => some (defNu 0 k)).Nodup := by decide +kernel
theorem def0_le : ∀ k < 14, (match defNu 0 k with | .f a => decide (a.num.natAbs < 32) && decide (a.den < 32) | .r _ => false) = true := by decide +kernel
theorem def_nodup {p : Int} (hp : PrN p) {z : Nat} (z1 : 1 ≤ z) (z15 : z ≤ 15) (hz : p = 0 ∨ (z : Int) ≤ p + 1) : (defPts p z).Nodup ∧ PtOk p (defPts p z) ∧ (defPts p z).length = z := by
  have len : (defPts p z).length = z := by unfold defPts; rw [List.length_append, List.length_map, List.length_range]; show z - 1 + 1 = z; omega
  have nd : ((List.range (z - 1)).map fun k => some (defNu p k)).Nodup := by
    rcases hp with rfl | ⟨n, hn, rfl⟩
    · have e : (List.range (z - 1)).map (fun k => some (defNu 0 k)) = ((List.range 14).map fun k => some (defNu 0 k)).take (z - 1) := by
        rw [← List.map_take, List.take_range, Nat.min_eq_left (by omega)]
      rw [e]
      exact (List.take_sublist _ _).nodup def0_nodup
    · have n1 := prb_fin n hn
      have zz : (z : Int) ≤ (n : Int) + 1 := by omega
      have rr := rest_row (p := (n : Int)) (f := 0) (z - 1) (by omega) (by decide)
      have e : (List.range (z - 1)).map (fun k => some (defNu (n : Int) k)) = ((List.range (z - 1)).map fun k : Nat => Nu.r ((0 + (k : Int)) % (n : Int))).map some := by
        rw [List.map_map]
        refine (List.map_congr_left fun k _ => ?_)
        show some (defNu (n : Int) k) = some (Nu.r ((0 + (k : Int)) % (n : Int)))
        unfold defNu
        rw [if_pos (by omega), ofInt_r (by omega), Int.zero_add]
      rw [e]
      exact nodup_some rr
  refine ⟨?_, fun x hx => ?_, len⟩
  · unfold defPts
    rw [List.nodup_append]
    refine ⟨nd, by simp, ?_⟩
    intro a ha b hb e
    rw [List.mem_singleton.mp hb] at e
    rw [e] at ha
    simp at ha
  · unfold defPts at hx
    have hx2 : x ∈ (List.range (z - 1)).map (defNu p) := by
      simp at hx
      simpa using hx
    obtain ⟨k, hk, rfl⟩ := List.mem_map.mp hx2
    have hk := List.mem_range.mp hk
    have okd : (defNu p k).ok p := by
      unfold defNu
      split <;> exact ofInt_ok hp.nonneg
    refine ⟨okd, ?_⟩
    rcases hp with rfl | ⟨n, hn, rfl⟩
    · have h1 := def0_le k (by omega)
      cases e : defNu 0 k with
      | r i => rw [e] at h1; cases h1
      | f a =>
        rw [e] at h1
        (simp only [Bool.and_eq_true, decide_eq_true_eq] at h1)
        exact ⟨h1.1, h1.2⟩
    · have n1 := prb_fin n hn
      exact ok_le5 (.inr ⟨n, hn, rfl⟩) (by omega) okd
theorem alike_no {pts : List (Option Nu)} (nd : pts.Nodup) : alikeB pts = false := by
  unfold alikeB
  rw [Bool.eq_false_iff]
  intro h
  rw [List.any_eq_true] at h
  obtain ⟨k, hk, h⟩ := h
  have hk := List.mem_range.mp hk
  rw [List.any_eq_true] at h
  obtain ⟨q, hq, h⟩ := h
  have e := _root_.of_decide_eq_true h
  obtain ⟨j, hj⟩ := (List.mem_iff_getElem?.mp hq)
  have jk : j < k := by
    have := (List.getElem?_eq_some_iff.mp hj).1
    rw [List.length_take] at this
    omega
  rw [List.getElem?_take_of_lt jk] at hj
  have := (List.getElem?_inj (by omega) nd).mp (hj.trans e)
  omega
end Tw
namespace Tw
open PySem PySem.Spec PyProof.Rows L2 Evl RZ LamX
/-! ### law, its last part: all products -/
theorem baseN_len (p : Int) (n : Nat) (k : Int) : (baseN p n k).length = n := by unfold baseN; rw [List.length_map, List.length_range]
theorem baseN_okN {p : Int} (p0 : 0 ≤ p) (n : Nat) (k : Int) : OkN p 1 (baseN p n k) := fun x hx => by
  unfold baseN at hx
  obtain ⟨i, _, rfl⟩ := List.mem_map.mp hx
  refine ⟨ofInt_ok p0, ?_⟩
  split
  · exact ofInt1_le p
  · exact ofInt0_le p
theorem TrS.nil (p : Int) (m r z : Nat) : TrS p m r z 1 1 [] := ⟨fun _ h => (nomatch h), fun _ h => (nomatch h)⟩
end Tw
namespace Tw
open PySem PySem.Spec PyProof.Rows L2 Evl RZ LamX
/-! ### law, where the ground has the points -/
theorem c_chain {r r' : R2} {ta tb tc : TE} {σ : L2.St} {H : Hp} {Q : VK} (h : ta σ H fun x H1 => tb σ H1 fun y H2 => r x y H2 fun z H3 => ∃ k, z = .bl k ∧ (if k = true then tc σ H3 fun w' H4 => r' y w' H4 Q else Q (.bl false) H3)) : tChain r r' ta tb tc σ H Q := h
end Tw
namespace Tw
open PySem PySem.Spec PyProof.Rows L2 Evl RZ LamX
structure LawK (K : PySem.W.Frag) : Prop where
  ha : PySem.W.findIn K (.ref (He.ga K "LeftRight")) "__class__" = some (some (.builtin "object.__class__"))
  hn : (PySem.W.specialIn K (.builtin "object.__class__") "__get__" = some (some (.builtin "getset_descriptor.__get__")))
  ht : (PySem.W.takesIn K (.builtin "object.__class__") = some true)
  hm : PySem.W.mroIn K (He.ga K "LeftRight") (.type "object") = some true
  one : PySem.W.kitOne K (.ref (He.ga K "LeftRight")) (.ref (He.ga K "LeftRight")) = some true
theorem rect_s {p : Int} (hp : PrN p) {pts : List (Option Nu)} {m r z : Nat} (hz : pts.length = z) (m6 : m ≤ 6) (r6 : r ≤ 6) (ok : PtOk p pts) : TrS p m r z 26 (17 * z + 11) (rectTr p m r pts) where
  ok := fun w hw => by
    obtain ⟨pt, mpt, rfl⟩ := List.mem_map.mp hw
    exact ⟨powN_len p pt m, powN_len p pt r, (valRow_len mpt).trans hz⟩
  bits := fun w hw => by
    obtain ⟨pt, mpt, rfl⟩ := List.mem_map.mp hw
    have sx : ∀ x, pt = some x → x.ok p ∧ x.le 5 := fun x e => ok x (by rw [← e]; exact mpt)
    have pw : ∀ n, n ≤ 6 → OkN p 26 (powN p pt n) := fun n hn x hx => by
      cases pt with
      | none =>
        obtain ⟨i, _, rfl⟩ := List.mem_map.mp hx
        refine ⟨ofInt_ok hp.nonneg, Nu.le_mono (n := 1) (by decide) ?_⟩
        split
        · exact ofInt1_le p
        · exact ofInt0_le p
      | some y =>
        obtain ⟨i, hi, rfl⟩ := List.mem_map.mp hx
        have hi := List.mem_range.mp hi
        obtain ⟨o1, o2⟩ := pwN_ok hp.nonneg (sx y rfl).1 (sx y rfl).2 i
        exact ⟨o1, Nu.le_mono (by omega) o2⟩
    have vr := valRow_ok hp pts.length ok sx
    rw [hz] at vr
    refine ⟨pw m m6, pw r r6, ?_⟩
    show OkN p (17 * z + 11) (valRow p pts.length pts pt)
    rw [hz]
    exact vr
theorem dep_int3 (i j k : Int) : Dep 4 (.tuple [.int i, .int j, .int k]) := ⟨by show 3 ≤ 30000; decide, fun d hd => by
  (rcases List.mem_cons.mp hd with rfl | hd)
  · exact trivial
  (rcases List.mem_cons.mp hd with rfl | hd)
  · exact trivial
  (rcases List.mem_cons.mp hd with rfl | hd)
  · exact trivial
  · cases hd⟩
theorem dep_row4 {xs : List Nu} (h : xs.length ≤ 30000) : Dep 4 (rowN xs) := ⟨by rw [List.length_map]; exact h, fun d hd => by
  obtain ⟨x, _, rfl⟩ := List.mem_map.mp hd
  exact dep_nu x⟩
theorem ne_ss1 : ¬ (("sizes" : Str) = "_triples") := by decide +kernel
theorem ne_ss2 : ¬ (("sizes" : Str) = "_sizes") := by decide +kernel
theorem ne_ss3 : ¬ (("sizes" : Str) = "ground") := by decide +kernel
theorem ne_st1 : ¬ (("triples" : Str) = "_triples") := by decide +kernel
theorem ne_st2 : ¬ (("triples" : Str) = "_sizes") := by decide +kernel
theorem ne_st3 : ¬ (("triples" : Str) = "ground") := by decide +kernel
theorem ne_sl1 : ¬ (("tells" : Str) = "_triples") := by decide +kernel
theorem ne_sl2 : ¬ (("tells" : Str) = "_sizes") := by decide +kernel
theorem ne_sl3 : ¬ (("tells" : Str) = "ground") := by decide +kernel
theorem c_truB {K : PySem.W.Frag} {σ : L2.St} {H : Hp} {QT : Bool → Hp → Prop} {n : Nat} {c : Bool} (hs : σ[n]? = some (some (.bl c))) (q : QT c H) : tTru K (tVar n) σ H QT := ⟨_, hs, c, rfl, q⟩
end Tw
namespace Tw
open PySem PySem.Spec PyProof.Rows L2 Evl RZ LamX
theorem DxA.nuD {G : Hp} {us : List V} {xs : List Nu} (h : DxA G us (xs.map Nu.d)) {i : Nat} (hi : i < xs.length) (y : Nu) : ∃ u, us[i]? = some u ∧ Dx G u (xs.getD i y).d := by
  have hu : us[i]? = some (us[i]'(by rw [h.length, List.length_map]; exact hi)) := List.getElem?_eq_getElem _
  obtain ⟨x, ex, mx, dx⟩ := h.nu2 hu
  refine ⟨_, hu, ?_⟩
  rw [List.getD_eq_getElem?_getD, ex]
  exact dx
end Tw
namespace Tw
open PySem PySem.Spec PyProof.Rows L2 Evl RZ LamX
theorem primes_of {j : Nat} {v : V} (h : [V.int 0, V.int 0, V.int 0, V.int 3, V.int 5, V.int 7, V.int 11, V.int 13, V.int 17][j]? = some v) : ∃ p : Int, v = .int p ∧ PrN p := by
  match j, h with
  | 0, h => cases h; exact ⟨0, rfl, .inl rfl⟩
  | 1, h => cases h; exact ⟨0, rfl, .inl rfl⟩
  | 2, h => cases h; exact ⟨0, rfl, .inl rfl⟩
  | 3, h => cases h; exact ⟨3, rfl, .inr ⟨3, by decide, rfl⟩⟩
  | 4, h => cases h; exact ⟨5, rfl, .inr ⟨5, by decide, rfl⟩⟩
  | 5, h => cases h; exact ⟨7, rfl, .inr ⟨7, by decide, rfl⟩⟩
  | 6, h => cases h; exact ⟨11, rfl, .inr ⟨11, by decide, rfl⟩⟩
  | 7, h => cases h; exact ⟨13, rfl, .inr ⟨13, by decide, rfl⟩⟩
  | 8, h => cases h; exact ⟨17, rfl, .inr ⟨17, by decide, rfl⟩⟩
  | n + 9, h => cases h
theorem sizes_of {j : Nat} {v : V} (h : [V.int 2, V.int 3, V.int 4, V.int 6][j]? = some v) : ∃ z : Int, v = .int z ∧ 0 < z ∧ z ≤ 6 := by
  match j, h with
  | 0, h => cases h; exact ⟨2, rfl, by decide, by decide⟩
  | 1, h => cases h; exact ⟨3, rfl, by decide, by decide⟩
  | 2, h => cases h; exact ⟨4, rfl, by decide, by decide⟩
  | 3, h => cases h; exact ⟨6, rfl, by decide, by decide⟩
  | n + 4, h => cases h
/-- the defaults, or none -/
def DefD (p : Int) (z : Nat) (G : Hp) (v : V) : Prop := (v = .non ∧ 0 < p ∧ (z : Int) > p + 1) ∨ ((p = 0 ∨ (z : Int) ≤ p + 1) ∧ Dx G v (ptsD (defPts p z)))
theorem DefD.mono {p : Int} {z : Nat} {G G' : Hp} {v : V} (h : DefD p z G v) (e : Ex G G') : DefD p z G' v := h.imp id fun ⟨a, d⟩ => ⟨a, d.mono e⟩
end Tw
namespace Tw
open PySem PySem.Spec PyProof.Rows L2 Evl RZ
/-! ### keywords alone, keyword-only ones left out -/
def kwD {α : Type} (m : Nat) (ds : List α) (vs zs : List α) : List α := if vs.length = 0 ∧ zs.length = m then zs ++ ds else []
theorem kwD_rel {m : Nat} {dvs : List V} {ds : List Value} {vs : List V} {us : List Value} {zs : List V} {ws : List Value} (rd : Vals dvs ds) (r : Vals vs us) (r2 : Vals zs ws) : Vals (kwD m dvs vs zs) (kwD m ds us ws) := by
  unfold kwD
  rw [r.length, r2.length]
  split
  · exact r2.append rd
  · exact .nil
theorem kbinds0 {K : PySem.W.Frag} {x qual : Str} {params : Arguments} {body : List Stmt} {scope : Scope} {f : Addr} {fd : FuncData} {ps ks : List Str} {kws : List (Str × V)} (F : FunD K x qual params body scope [] kws f fd) (hk : kws ≠ []) (hp : ps ≠ [])
    (h : ∀ (D : Addr) (doc pm : Value) (an : Option Addr) (cdv ct : Value) (ws kz : List Value), ws.length = ks.length → kz.length = kws.length →
      KwChain D ((kws.map (·.1)).zip kz) (bindArgs (PySem.W.fnOf x qual params body scope .none (.ref D) doc pm an cdv ct) ⟨[], ks.zip ws⟩) (ps.zip (ws ++ kz))) :
    ∃ ds : List Value, KBinds K fd ps ks (kwD ks.length ds) (kwD ks.length (kws.map (·.2))) := by
  obtain ⟨oc, od, dV, kV, doc, pm, an, cdv, ct, osl, rfl, lk, hcd, hD, hK⟩ := (F.ex)
  (rcases hD with ⟨_, rfl⟩ | ⟨e, _⟩)
  · (rcases hK with e | ⟨D, rfl, hq⟩)
    · exact absurd e hk
    · obtain ⟨kz, hl, rk, hks⟩ := kwd_vals hq
      refine ⟨kz, fun s us ws X hlen => ?_, fun r r2 => kwD_rel rk r r2⟩
      unfold kwD at hlen ⊢
      split at hlen
      · rename_i hh
        rw [if_pos hh]
        obtain rfl : us = [] := List.length_eq_zero_iff.mp hh.1
        exact BindsTo.of_looks fun M => KwChain.looks X hks (h D doc pm an cdv ct ws kz hh.2 hl)
      · cases ps with
        | nil => exact absurd rfl hp
        | cons _ _ => cases hlen
  · exact absurd rfl e
structure OkK0 (P : Program) (w : World) (K : PySem.W.Frag) (mg : Str → Option Value) (base : Heap) (k : Nat) (x : Str) (fd : FuncData) (ps ks : List Str) (ds : List Value) (dvs : List V) (sp : Sp) : Prop where
  fn : FnOk P w K mg base (L2N.CX P w) k (He.ga K x) fd ps sp
  kb : KBinds K fd ps ks (kwD ks.length ds) (kwD ks.length dvs)
  kp : PySem.W.keepIn K (.ref (He.ga K x)) = true
section
variable {X : Cx} {CX : CXT} {k : Nat} {f : Addr} {fd : FuncData} {ps ks : List Str} {sp : Sp} {E : L2.St → XK} {x : Str} {p pos : Pos} {kws : List Keyword} {tk : TA} {g : List Value → List Value → List Value} {gV : List V → List V → List V}
theorem pe_callKS0 (fo : FnOk X.prog X.w X.K X.mg X.base CX k f fd ps sp) (room : Room k X.A) (gl : Gl X x) (mgx : X.mg x = some (.ref f)) (kp : PySem.W.keepIn X.K (.ref f) = true) (bd : KBinds X.K fd ps ks g gV) (pass : ∀ σ, PassesAt CX X σ (E σ))
    (dK : PK X kws tk) (hall : (backToKw pos (keywordEach kws X.env)).all (·.1.isSome) = true := by rfl) (hks : (backToKw pos (keywordEach kws X.env)).filterMap (·.1) = ks := by rfl)
    (hdb : (x == ("__debug__" : Str)) = false := by decide)
    (hpl : ((backTo pos (starEach [] X.env)).any (·.1) || (backToKw pos (keywordEach kws X.env)).any (·.1.isNone)) = false := by exact rfl) :
    PE X (.Call (.Name x p) [] kws pos) (tCallKS sp gV E tNil tk) := by
  refine ⟨fun pns st sg G Qv iv hw => wpAny_Call_Name_kw (ld_glob iv gl mgx ?_ hdb)⟩
  refine PySem.W.callWith_KW0 (h₀ := X.base) iv.ok.mod.kin kp hall (thn (dK.run pos pns st sg G _ iv hw) fun ws st2 h2 => ?_) hpl
  obtain ⟨zs, G2, iv2, r2, w2⟩ := h2
  refine ⟨iv2.kIn, ?_⟩
  rw [hks]
  have rel := bd.rel (vs := []) (us := []) .nil r2
  have len : (g [] ws).length = ps.length := rel.length.symm.trans (fo.len _ _ _ _ w2)
  refine wpAny_call (codeAny_mono (fo.run X.A X.stack st2 G2 ⟨[], ks.zip ws⟩ (g [] ws) (gV [] zs) Qv (E sg) room iv2.env0 (bd.to st2 [] ws iv2.kIn len) rel w2) fun r st3 told => ?_)
  cases r with
  | error er => exact pass sg pns G2 st2 er st3 iv2 told
  | ok fl =>
    cases fl with
    | ret u => exact iv2.after told
    | next => exact told.elim
    | brk => exact told.elim
    | cont => exact told.elim
end
theorem c_callK {sp : Sp} {gV : List V → List V → List V} {E : XK} {t tk : TA} {σ : L2.St} {H : Hp} {Q : VK} (h : t σ H fun vs H1 => tk σ H1 fun zs H2 => sp (gV vs zs) H2 Q E) : tCallK sp gV E t tk σ H Q := h
/-! ### turn -/
def turnL (q : Trip) : Trip := (q.2.2, q.2.1, q.1)
def turnR (q : Trip) : Trip := (q.1, q.2.2, q.2.1)
def sp_turn (K : PySem.W.Frag) : Sp := fun vs H Q _ => ∃ (G : Hp) (x : Addr) (way : Str) (p : Int) (m r n : Nat) (tr : List Trip), vs = [.ref x, .str way] ∧ Ex G H ∧ LrAt K G x p m r n tr ∧ TrOk m r n tr ∧ tr.length ≤ 60 ∧ m ≤ 12 ∧ r ≤ 12 ∧ n ≤ 12 ∧
  (way = "left" → ∀ y H2, Ex H H2 → LrAt K (grow G H H2) y p n r m (tr.map turnL) → Q (.ref y) H2) ∧ (way ≠ "left" → ∀ y H2, Ex H H2 → LrAt K (grow G H H2) y p m n r (tr.map turnR) → Q (.ref y) H2)
def t_f_turn (K : PySem.W.Frag) : TS :=
    (tSeq (tAsg (tMeth (He.ga K "LeftRight") "sizes" (sp_LeftRight_sizes K) [] E0 (tVar 0) tNil) (gTup K 3 (gCons (gName 2) (gCons (gName 3) (gCons (gName 4) gNil)))))
    (tSeq (tIfS (tTest (tOp (uEq K) (tVar 1) (tC (.str "left")))) (tRet (tMake (He.ga K "LeftRight") (sp_LeftRight_init K) [] E0 (tCons (tFld K (tVar 0) "ground") (tCons (tLst (tCons (tVar 4) (tCons (tVar 3) (tCons (tVar 2) tNil)))) (tCons (tLc (iSeq K (tMeth (He.ga K "LeftRight") "triples" (sp_LeftRight_triples K) [] E0 (tVar 0) tNil)) (gTup K 3 (gCons (gName 5) (gCons (gName 6) (gCons (gName 7) gNil)))) tYes (tTup (tCons (tVar 7) (tCons (tVar 6) (tCons (tVar 5) tNil)))) [5, 6, 7]) tNil))))) tNext)
    (tRet (tMake (He.ga K "LeftRight") (sp_LeftRight_init K) [] E0 (tCons (tFld K (tVar 0) "ground") (tCons (tLst (tCons (tVar 2) (tCons (tVar 4) (tCons (tVar 3) tNil)))) (tCons (tLc (iSeq K (tMeth (He.ga K "LeftRight") "triples" (sp_LeftRight_triples K) [] E0 (tVar 0) tNil)) (gTup K 3 (gCons (gName 5) (gCons (gName 6) (gCons (gName 7) gNil)))) tYes (tTup (tCons (tVar 5) (tCons (tVar 7) (tCons (tVar 6) tNil)))) [5, 6, 7]) tNil)))))))
theorem len_copy3 {K : PySem.W.Frag} {σ : L2.St} {G H : Hp} {Q : VK} {i j k : Nat} {v1 v2 v3 : V} {a b c : List Nu} (h1 : σ[i]? = some (some v1)) (h2 : σ[j]? = some (some v2)) (h3 : σ[k]? = some (some v3)) (d1 : Dx G v1 (rowN a)) (d2 : Dx G v2 (rowN b)) (d3 : Dx G v3 (rowN c)) (eG : Ex G H)
    (hq : ∀ y H5, Ex H H5 → Dx (grow G H H5) y (tripD (a, b, c)) → Q y H5) : tTup (tCons (tVar i) (tCons (tVar j) (tCons (tVar k) tNil))) σ H Q := by
  refine c_tup (c_cons (c_var h1 (c_cons (c_var h2 (c_cons (c_var h3 (c_nil ⟨by show 3 ≤ sizeLine; decide, fun T hT => ?_⟩)))))))
  have e : Ex H (upd H T (.tup [v1, v2, v3])) := Ex.new hT
  exact hq _ _ e (.tup (grow_new hT upd_same) (.cons (d1.mono (grow_ex eG)) (.cons (d2.mono (grow_ex eG)) (.cons (d3.mono (grow_ex eG)) .nil))))
/-- the made program, out of a list of triples that stands solid -/
theorem mk_lr {K : PySem.W.Frag} {G H H1 : Hp} {Q : VK} {E : XK} {g Zl M : Addr} {p : Int} {m r n : Nat} {tr : List Trip} (eG : Ex G H) (e1 : Ex H H1) (hg : GrAt K G g p) (hZ : grow G H H1 Zl = some (.lst [.int (m : Int), .int (r : Int), .int (n : Int)])) (dM : Dx (grow G H H1) (.ref M) (.list (tr.map tripD)))
    (tok : TrOk m r n tr) (l60 : tr.length ≤ 60) (m12 : m ≤ 12) (r12 : r ≤ 12) (n12 : n ≤ 12) (q : ∀ y H2, Ex H H2 → LrAt K (grow G H H2) y p m r n tr → Q (.ref y) H2) :
    ∀ x dx, H1 x = none → H1 dx = none → dx ≠ x → sp_LeftRight_init K (.ref x :: ([.ref g, .ref Zl, .ref M] ++ [])) (upd (upd H1 dx (.own x)) x (.ins (He.ga K "LeftRight") dx [])) (fun v H2 => v = .non ∧ Q (.ref x) H2) E := by
  intro x dx hx hdx ndx
  have eGi : Ex (grow G H H1) H1 := grow_in (eG.trans e1)
  have e10 : Ex H1 (upd (upd H1 dx (.own x)) x (.ins (He.ga K "LeftRight") dx [])) := (Ex.new hdx).mut hx
  have hx10 : upd (upd H1 dx (.own x)) x (.ins (He.ga K "LeftRight") dx []) x = some (.ins (He.ga K "LeftRight") dx []) := upd_same
  generalize upd (upd H1 dx (.own x)) x (.ins (He.ga K "LeftRight") dx []) = H10 at e10 hx10 ⊢
  have dZ : Dx (grow G H H1) (.ref Zl) (.list [.int (m : Int), .int (r : Int), .int (n : Int)]) := .lst hZ (.cons (.int _) (.cons (.int _) (.cons (.int _) .nil)))
  refine ⟨grow G H H1, x, g, dx, p, m, r, n, tr, .ref Zl, .ref M, rfl, hx10, eGi.trans e10, fresh_back eGi hx, hg.ex (grow_ex eG), dZ, dM, tok, l60, m12, r12, n12, fun H11 t l x11 k11 ht hl' => ⟨rfl, ?_⟩⟩
  have e11 : Ex H H11 := fun c o h => x11 _ _ (fun z => by rw [z] at h; rw [e1 _ _ h] at hx; cases hx) (e10 _ _ (e1 _ _ h))
  have sol : Ex (grow (grow G H H1) H10 H11) (grow G H H11) := fun c o h => by
    cases z10 : H10 c with
    | none =>
      unfold grow at h
      rw [z10] at h
      have h0 : H c = none := fresh_back (e1.trans e10) z10
      exact grow_new h0 h
    | some u =>
      rw [grow_old z10] at h
      cases z0 : H c with
      | some u0 =>
        rw [grow_old z0] at h ⊢
        exact h
      | none =>
        unfold grow at h
        rw [z0] at h
        have cx : c ≠ x := fun z => by rw [z, hx] at h; cases h
        exact grow_new z0 (x11 _ _ cx (e10 _ _ h))
  have hx0 : H x = none := fresh_back e1 hx
  exact q x H11 e11 ⟨g, t, l, ⟨dx, grow_new hx0 k11⟩, hg.ex (grow_ex eG), sol _ _ ht, hl'.mono sol⟩
theorem pure_turn (K : PySem.W.Frag) (T : LrK K) (vs : List V) (H : Hp) (Q : VK) (E : XK) (h : sp_turn K vs H Q E) : t_f_turn K { nx := fun _ H' => Q .non H', rt := Q } (start ["program", "way", "left", "right", "answers", "u", "v", "w"] vs) H := by
  obtain ⟨G, x, way, p, m, r, n, tr, rfl, eG, ⟨g, t, l, ho⟩, tok, l60, m12, r12, n12, q1, q2⟩ := h
  have hoH := ho.ex eG
  unfold t_f_turn
  walk_at "tw"
  refine c_lrM rfl hoH ne_z1 ne_z2 ne_z3 (c_nil ?_)
  refine ⟨x, g, t, l, p, m, r, n, tr, rfl, hoH, ?_⟩
  have hsz := hoH.sz
  walk_at "tw"
  refine c_ite (fun h1 => ?_) (fun h1 => ?_)
  · have q := q1 (of_decide_eq_true h1)
    walk_at "tw"
    refine c_lrG rfl T hoH ?_
    walk_at "tw"
    refine ⟨by show 3 ≤ sizeLine; decide, fun Zl fZ => ?_⟩
    have e1 : Ex H (upd H Zl (.lst [.int (n : Int), .int (r : Int), .int (m : Int)])) := Ex.new fZ
    have kZ : upd H Zl (.lst [.int (n : Int), .int (r : Int), .int (m : Int)]) Zl = some (.lst [.int (n : Int), .int (r : Int), .int (m : Int)]) := upd_same
    generalize upd H Zl (.lst [.int (n : Int), .int (r : Int), .int (m : Int)]) = H1 at e1 kZ ⊢
    walk_at "tw"
    refine c_lrM rfl (hoH.ex e1) ne_y1 ne_y2 ne_y3 (c_nil ?_)
    refine ⟨grow G H H1, x, g, t, l, p, m, r, n, tr, rfl, grow_in (eG.trans e1), ho.ex (grow_ex eG), by omega, fun tv H2 e2 d2 => ?_⟩
    rw [grow_ex2 e1 e2] at d2
    obtain ⟨a, us, rfl, ha, ru, lu⟩ := d2.lst_map
    have e02 := e1.trans e2
    have ha2 := grow_in (eG.trans e02) _ _ ha
    refine ⟨a, rfl, .inl ⟨⟨_, SqL.of ha2⟩, ?_⟩⟩
    intro L hL
    refine lcB_list (G := grow G H H2) (fun i => ((tr.map turnL).map tripD).take i) (grow_in (eG.trans e02)) hL ha2 rfl (fun i _ => pre_len _ (by simp; omega) i) ?_ ?_
    · intro i u H3 Q2 N hu e3 td
      obtain ⟨w, ew, mw, dw⟩ := ru.map_get hu
      obtain ⟨A, v1, v2, v3, rfl, hA, d1, d2', d3⟩ := dw.three_inv
      have hA3 := e3 _ _ (grow_in (eG.trans e02) _ _ hA)
      walk_at "tw"
      refine ⟨rfl, ?_⟩
      refine c_yes ?_
      refine c_iteT rfl ?_
      refine len_copy3 (K := K) (a := w.2.2) (b := w.2.1) (c := w.1) rfl rfl rfl d3 d2' d1 ((grow_in (eG.trans e02)).trans e3) fun y H5 e5 dy => ?_
      exact td.1 _ (tripD (turnL w)) _ (take_succ (by rw [List.getElem?_map, List.getElem?_map, ew]; rfl)) e5 dy
    · intro H3 e3 d3
      rw [List.take_of_length_le (by simp; omega)] at d3
      rw [grow_ex2 e02 e3] at d3
      walk_at "tw"
      refine mk_lr eG (e02.trans e3) ho.gr (grow_new fZ ((e2.trans e3) _ _ kZ)) d3 (fun w hw => ?_) (by simp; omega) n12 r12 m12 q
      obtain ⟨y, hy, rfl⟩ := List.mem_map.mp hw
      obtain ⟨k1, k2, k3⟩ := tok y hy
      exact ⟨k3, k2, k1⟩
  · have q := q2 (of_decide_eq_false h1)
    walk_at "tw"
    refine c_lrG rfl T hoH ?_
    walk_at "tw"
    refine ⟨by show 3 ≤ sizeLine; decide, fun Zl fZ => ?_⟩
    have e1 : Ex H (upd H Zl (.lst [.int (m : Int), .int (n : Int), .int (r : Int)])) := Ex.new fZ
    have kZ : upd H Zl (.lst [.int (m : Int), .int (n : Int), .int (r : Int)]) Zl = some (.lst [.int (m : Int), .int (n : Int), .int (r : Int)]) := upd_same
    generalize upd H Zl (.lst [.int (m : Int), .int (n : Int), .int (r : Int)]) = H1 at e1 kZ ⊢
    walk_at "tw"
    refine c_lrM rfl (hoH.ex e1) ne_y1 ne_y2 ne_y3 (c_nil ?_)
    refine ⟨grow G H H1, x, g, t, l, p, m, r, n, tr, rfl, grow_in (eG.trans e1), ho.ex (grow_ex eG), by omega, fun tv H2 e2 d2 => ?_⟩
    rw [grow_ex2 e1 e2] at d2
    obtain ⟨a, us, rfl, ha, ru, lu⟩ := d2.lst_map
    have e02 := e1.trans e2
    have ha2 := grow_in (eG.trans e02) _ _ ha
    refine ⟨a, rfl, .inl ⟨⟨_, SqL.of ha2⟩, ?_⟩⟩
    intro L hL
    refine lcB_list (G := grow G H H2) (fun i => ((tr.map turnR).map tripD).take i) (grow_in (eG.trans e02)) hL ha2 rfl (fun i _ => pre_len _ (by simp; omega) i) ?_ ?_
    · intro i u H3 Q2 N hu e3 td
      obtain ⟨w, ew, mw, dw⟩ := ru.map_get hu
      obtain ⟨A, v1, v2, v3, rfl, hA, d1, d2', d3⟩ := dw.three_inv
      have hA3 := e3 _ _ (grow_in (eG.trans e02) _ _ hA)
      walk_at "tw"
      refine ⟨rfl, ?_⟩
      refine c_yes ?_
      refine c_iteT rfl ?_
      refine len_copy3 (K := K) (a := w.1) (b := w.2.2) (c := w.2.1) rfl rfl rfl d1 d3 d2' ((grow_in (eG.trans e02)).trans e3) fun y H5 e5 dy => ?_
      exact td.1 _ (tripD (turnR w)) _ (take_succ (by rw [List.getElem?_map, List.getElem?_map, ew]; rfl)) e5 dy
    · intro H3 e3 d3
      rw [List.take_of_length_le (by simp; omega)] at d3
      rw [grow_ex2 e02 e3] at d3
      walk_at "tw"
      refine mk_lr eG (e02.trans e3) ho.gr (grow_new fZ ((e2.trans e3) _ _ kZ)) d3 (fun w hw => ?_) (by simp; omega) m12 n12 r12 q
      obtain ⟨y, hy, rfl⟩ := List.mem_map.mp hw
      obtain ⟨k1, k2, k3⟩ := tok y hy
      exact ⟨k1, k3, k2⟩
/-! ### window -/
def winTr (p : Int) (m r : Nat) (pts : List (Option Nu)) : List Trip := (rectTr p m r pts).map turnL
def sp_window (K : PySem.W.Frag) : Sp := fun vs H Q E => ∃ (G : Hp) (g : Addr) (p : Int) (m r : Nat) (v : V), vs = [.ref g, .int (m : Int), .int (r : Int), v] ∧ Ex G H ∧ GrAt K G g p ∧ PrN p ∧ 1 ≤ m ∧ 1 ≤ r ∧ m ≤ 100 ∧ r ≤ 100 ∧
  (6 < m → Ow K "TooMany" (tmF "window" m) H E) ∧ (m ≤ 6 → 6 < r → Ow K "TooMany" (tmF "window" r) H E) ∧ (m ≤ 6 → r ≤ 6 →
    (v = .non ∧ (0 < p → ((m + r - 1 : Nat) : Int) > p + 1 → Ow K "BadPoints" (bpF "number") H E) ∧
      ((p = 0 ∨ ((m + r - 1 : Nat) : Int) ≤ p + 1) → PtOk p (defPts p (m + r - 1)) ∧ ScOk p (defPts p (m + r - 1)) ∧ ∀ x H2, Ex H H2 → LrAt K (grow G H H2) x p (m + r - 1) r m (winTr p m r (defPts p (m + r - 1))) → Q (.ref x) H2)) ∨
    (∃ pts, v ≠ .non ∧ Dx G v (ptsD pts) ∧ pts.length ≤ 1000 ∧ (pts.length ≠ m + r - 1 → Ow K "BadPoints" (bpF "number") H E) ∧ (pts.length = m + r - 1 → alikeB pts = true → Ow K "BadPoints" (bpF "alike") H E) ∧
      (pts.length = m + r - 1 → alikeB pts = false → PtOk p pts ∧ ScOk p pts ∧ ∀ x H2, Ex H H2 → LrAt K (grow G H H2) x p (m + r - 1) r m (winTr p m r pts) → Q (.ref x) H2)))
def t_f_window (K : PySem.W.Frag) (E : XK) : TS :=
    (tRet (tCall (sp_turn K) [] E0 (tCons (tCallK (sp_rectangle K) (kwG 3 1) E (tCons (tVar 0) (tCons (tVar 1) (tCons (tVar 2) tNil))) (tCons (tVar 3) tNil)) (tCons (tC (.str "left")) tNil))))
theorem rect_ok {p : Int} {m r : Nat} {pts : List (Option Nu)} (hz : pts.length = m + r - 1) : TrOk m r (m + r - 1) (rectTr p m r pts) := fun w hw => by
  obtain ⟨pt, mpt, rfl⟩ := List.mem_map.mp hw
  exact ⟨powN_len p pt m, powN_len p pt r, (valRow_len mpt).trans hz⟩
theorem pure_window (K : PySem.W.Frag) (vs : List V) (H : Hp) (Q : VK) (E : XK) (h : sp_window K vs H Q E) : t_f_window K E { nx := fun _ H' => Q .non H', rt := Q } (start ["ground", "answers", "taps", "points"] vs) H := by
  obtain ⟨G, g, p, m, r, v, rfl, eG, hg, hp, m1, r1, m100, r100, k1, k2, q⟩ := h
  have one0 := one_ne hp
  unfold t_f_window
  walk_at "tw"
  refine c_callK ?_
  walk_at "tw"
  have fin : ∀ {pts : List (Option Nu)}, m ≤ 6 → r ≤ 6 → pts.length = m + r - 1 → (∀ x H2, Ex H H2 → LrAt K (grow G H H2) x p (m + r - 1) r m (winTr p m r pts) → Q (.ref x) H2) → ∀ x H2, Ex H H2 → LrAt K (grow G H H2) x p m r (m + r - 1) (rectTr p m r pts) →
      tCons (tC (.str "left")) tNil ([some (.ref g), some (.int (m : Int)), some (.int (r : Int)), some v] : L2.St) H2 fun xs H3 => sp_turn K (V.ref x :: xs ++ []) H3 Q E0 := fun {pts} m6 r6 lp q3 x H2 e2 lr => by
    walk_at "tw"
    refine ⟨grow G H H2, x, "left", p, m, r, m + r - 1, rectTr p m r pts, rfl, grow_in (eG.trans e2), lr, rect_ok lp, by unfold rectTr; rw [List.length_map]; omega, by omega, by omega, by omega, fun _ y H3 e3 lr3 => ?_, fun z => absurd rfl z⟩
    rw [grow_ex2 e2 e3] at lr3
    exact q3 y H3 (e2.trans e3) lr3
  refine ⟨G, g, p, m, r, v, rfl, eG, hg, hp, one0, m1, r1, m100, r100, k1, k2, fun m6 r6 => ?_⟩
  rcases q m6 r6 with ⟨rfl, kb, q2⟩ | ⟨pts, nv, dv, l1000, kb, ka, q2⟩
  · refine .inl ⟨rfl, kb, fun hc => ?_⟩
    obtain ⟨pok, sok, q3⟩ := q2 hc
    have ld : (defPts p (m + r - 1)).length = m + r - 1 := by unfold defPts; rw [List.length_append, List.length_map, List.length_range]; show m + r - 1 - 1 + 1 = _; omega
    exact ⟨pok, sok, fun x H2 e2 lr => fin m6 r6 ld q3 x H2 e2 lr⟩
  · refine .inr ⟨pts, nv, dv, l1000, kb, ka, fun hl ha => ?_⟩
    obtain ⟨pok, sok, q3⟩ := q2 hl ha
    exact ⟨pok, sok, fun x H2 e2 lr => fin m6 r6 hl q3 x H2 e2 lr⟩
end Tw
namespace Tw
open PySem PySem.Spec PyProof.Rows L2 Evl RZ LamX
/-! ### where a law stands, its tables being T -/
structure LawT (K : PySem.W.Frag) (T : List (Addr × Str)) (b L : Addr) (G H : Hp) : Prop where
  bag : BagAt b L H
  ex : Ex G H
  nb : G b = none
  nt : NoT G
  tb : Tabs T H
section
variable {K : PySem.W.Frag} {T : List (Addr × Str)} {b L : Addr} {G H H' : Hp}
theorem tabs_exB (t : Tabs T H) (hb : BagAt b L H) (x : ExB b H H') : Tabs T H' := fun pq hpq => by
  obtain ⟨cs, i, g, m, c, n, k1, k2, k3⟩ := hb
  obtain ⟨ps, h1, h2, h3⟩ := t pq hpq
  have nP : pq.1 ≠ b := fun z => by rw [z, k1] at h1; cases h1
  refine ⟨ps, x _ _ nP h1, h2, fun pos cv hc => ?_⟩
  obtain ⟨c, e1, e2⟩ := (h3 pos cv hc)
  have nc : c ≠ b := fun z => by
    rw [z, k1] at e2
    unfold CodeO at e2
    cases e2
  exact ⟨c, e1, x _ _ nc e2⟩
theorem LawT.draw (I : LawT K T b L G H) (x : ExB b H H') (hb : BagAt b L H') : LawT K T b L G H' :=
  ⟨hb, fun a o h => x a o (fun z => by rw [z, I.nb] at h; cases h) (I.ex a o h), I.nb, I.nt, tabs_exB I.tb I.bag x⟩
theorem LawT.mono (I : LawT K T b L G H) (e : Ex H H') : LawT K T b L G H' := I.draw (ExB.of e) (I.bag.ex e)
theorem LawT.tabs (I : LawT K T b L G H) (x : ExtN H H') (t : Tabs T H') : LawT K T b L G H' := ⟨I.bag.extN x, I.nt.ext I.ex x, I.nb, I.nt, t⟩
theorem LawT.grows (I : LawT K T b L G H) (x : ExB b H H') (hb : BagAt b L H') : LawT K T b L (gro G H H') H' := by
  obtain ⟨o, ho⟩ := I.bag.some
  have J := I.draw x hb
  refine ⟨hb, fun c u h => ?_, ?_, strip_noT _, J.tb⟩
  · have h2 := strip_ex _ _ _ h
    exact grow_drawE ho x I.nb I.ex _ _ h2
  · cases z : gro G H H' b with
    | none => rfl
    | some u =>
      have h2 := strip_ex _ _ _ z
      rw [grow_b ho I.nb] at h2
      cases h2
theorem LawT.growsE (I : LawT K T b L G H) (e : Ex H H') : LawT K T b L (gro G H H') H' := I.grows (ExB.of e) (I.bag.ex e)
theorem LawT.setL {Rw : Addr} {vs : List V} (I : LawT K T b L G H) (h : H Rw = some (.lst vs)) (off : Rw ≠ b ∧ Rw ≠ L) (out : G Rw = none) (ws : List V) : LawT K T b L G (upd H Rw (.lst ws)) := by
  refine ⟨I.bag.upd off, fun c o k => by rw [upd_ne (fun z => by rw [z, out] at k; cases k)]; exact I.ex _ _ k, I.nb, I.nt, fun pq hpq => ?_⟩
  obtain ⟨ps, h1, h2, h3⟩ := I.tb pq hpq
  refine ⟨ps, by rw [upd_ne (fun z => by rw [z, h] at h1; cases h1)]; exact h1, h2, fun pos cv hc => ?_⟩
  obtain ⟨c, e1, e2⟩ := (h3 pos cv hc)
  refine ⟨c, e1, ?_⟩
  rw [upd_ne (fun z => by
    rw [z, h] at e2
    unfold CodeO at e2
    cases e2)]
  exact e2
theorem LawT.sub (I : LawT K T b L G H) : Ex G (gro G H H') := fun c o h => strip_some (by rw [grow_old (I.ex _ _ h)]; exact h) fun ps z => I.nt c ps (by rw [h, z])
end
/-! ### the first pair of places, whatever is due there -/
def badO (p : Int) (tr : List Trip) (z : Nat) (off : Nat → Nat → Int) (i j : Nat) : Prop := combN p (facN p tr i j) (tr.map fun q => q.2.2) z ≠ baseN p z (off i j)
theorem first_unlike_any (K : PySem.W.Frag) (T : LrK K) (f c' x g t l : Addr) (q0 : Str) (ws : List (Option V)) (NL : List Str) (tb0 : TE) (off : Nat → Nat → Int) (p : Int) (m r z bu bw : Nat) (tr : List Trip) (H : Hp) (Q : VK) (ho : LrObj K H x g t l p m r z tr) (hp : PrN p) (m1 : 1 ≤ m) (r1 : 1 ≤ r) (m100 : m ≤ 100) (r100 : r ≤ 100) (n100 : z ≤ 100) (ts : TrS p m r z bu bw tr)
    (z1 : (2 * bu + bw + 2) * tr.length ≤ 7000) (z2 : 2 * bu + bw ≤ 7000) (l1000 : tr.length ≤ 1000) (hc : H c' = some (CodeO c' q0)) (hlam : ∀ (i j : Nat) (H' : Hp) (Q2 : VK), i < m → j < r → Ex H H' → RetN (rowN (baseN p z (off i j))) H' Q2 → tb0 (NdefX.startF NL [.int (i : Int), .int (j : Int)] ws) H' Q2)
    (q : ∀ res, IsFirst (badO p tr z off) m r res → RetN (optD res) H Q) :
    t_f_first_unlike K f c' q0 ws NL tb0 { nx := fun _ H' => Q .non H', rt := Q } (start ["program", "due", "ground", "lefts", "rights", "places", "zero", "triples", "i", "seen", "j", "numbers", "u", "v", "w", "x"] [.ref x, .ref f]) H := by
  have p0 := hp.nonneg
  have p31 := prN_32 hp
  have tok := ts.ok
  have tb := ts.bits
  unfold t_f_first_unlike
  walk_at "tw"
  refine c_lrG rfl T ho ?_
  walk_at "tw"
  refine c_lrM rfl ho ne_z1 ne_z2 ne_z3 (c_nil ?_)
  refine ⟨x, g, t, l, p, m, r, z, tr, rfl, ho, ?_⟩
  have hsz := ho.sz
  walk_at "tw"
  refine ⟨g, p, rfl, ho.gr, p0, fun zv H1 e1 d1 => ?_⟩
  have dz := d1.mono (grow_in (ex0 _))
  walk_at "tw"
  refine c_lrM rfl (ho.ex e1) ne_y1 ne_y2 ne_y3 (c_nil ?_)
  refine ⟨H, x, g, t, l, p, m, r, z, tr, rfl, e1, ho, by omega, fun tv H2 e2 d2 => ?_⟩
  have d2' := d2.mono (grow_in (e1.trans e2))
  obtain ⟨a, us, rfl, ha, ru, lu⟩ := d2'.lst_map
  have e12 := e1.trans e2
  walk_at "tw"
  refine ⟨_, rfl, by omega, by omega, ?_⟩
  rw [show ((m : Nat) : Int).toNat = m from by omega]
  refine for_range (lo := 0) (n := m) (fun i σ' H' => ∃ o8 o9 o10 o11 : Option V, σ' = [some (.ref x), some (.ref f), some (.ref g), some (.int (m : Int)), some (.int (r : Int)), some (.int (z : Int)), some zv, some (.ref a), o8, o9, o10, o11, none, none, none, none] ∧ Ex H2 H' ∧ ∀ i', i' < i → ∀ j', j' < r → ¬ badO p tr z off i' j')
    ⟨none, none, none, none, rfl, Ex.refl _, fun i' h => absurd h (Nat.not_lt_zero _)⟩ ?_ ?_
  · rintro i σ' H3 hi ⟨o8, o9, o10, o11, rfl, e3, g1⟩
    have ei : (0 : Int) + (i : Int) = (i : Int) := by omega
    rw [ei]
    have ha3 := e3 _ _ ha
    have dz3 := dz.mono (e2.trans e3)
    walk_at "tw"
    refine ⟨a, rfl, .inl ⟨⟨_, SqL.of ha3⟩, ?_⟩⟩
    intro L hL
    refine lcB_list (G := H3) (fun k => ((tr.take k).filter fun q => decide (q.1.getD i (ofInt p 0) ≠ ofInt p 0)).map (seenD p i)) (Ex.refl _) hL ha3 rfl (fun k _ => ?_) ?_ ?_
    · rw [List.length_map]
      exact Nat.le_trans (List.length_filter_le _ _) (Nat.le_trans (List.length_take_le' _ _) (by omega))
    · intro k u H4 Q2 N hu e4 td
      obtain ⟨w, ew, mw, dw⟩ := ru.map_get hu
      obtain ⟨A, v1, v2, v3, rfl, hA, k1, k2, k3⟩ := (dw.mono (e3.trans e4)).three_inv
      obtain ⟨A', v1', v2', v3', eA, hA', k1', k2', k3'⟩ := (dw.mono e3).three_inv
      cases eA
      have hAA := e4 _ _ hA'
      rw [hA] at hAA
      cases hAA
      obtain ⟨w1, w2, w3⟩ := tok w mw
      obtain ⟨b, rs, rfl, hb, rr, lr⟩ := rowN_inv k1
      obtain ⟨b', rs', eb, hb', rr', lr'⟩ := rowN_inv k1'
      cases eb
      have hbb := e4 _ _ hb'
      rw [hb] at hbb
      cases hbb
      have hri : rs[i]? = some rs[i] := List.getElem?_eq_getElem (by omega)
      obtain ⟨y, hy, my, dy⟩ := rr'.nu2 hri
      have eg : w.1.getD i (ofInt p 0) = y := getD_of hy
      walk_at "tw"
      refine ⟨rfl, ?_⟩
      walk_at "tw"
      refine c_neD (dy.mono e4) (dz3.mono e4) sh_nu sh_nu ?_
      rw [nu_eqv]
      walk_at "tw"
      refine c_ite (fun h1 => ?_) (fun h1 => ?_)
      · have ne : decide (w.1.getD i (ofInt p 0) ≠ ofInt p 0) = true := by rw [eg]; simpa using h1
        walk_at "tw"
        refine ⟨by show 3 ≤ sizeLine; decide, fun T' fT' => ?_⟩
        refine td.1 _ (seenD p i w) _ (by rw [filter_take_succ ew, if_pos ne, List.map_append]; rfl) (Ex.new fT') ?_
        unfold seenD
        rw [eg]
        exact .tup (grow_new fT' upd_same) (.cons (dy.mono (grow_ex e4)) (.cons (k2'.mono (grow_ex e4)) (.cons (k3'.mono (grow_ex e4)) .nil)))
      · have ne : ¬ decide (w.1.getD i (ofInt p 0) ≠ ofInt p 0) = true := by rw [eg]; simpa using h1
        exact td.2 (by rw [filter_take_succ ew, if_neg ne]) _ (Ex.refl _)
    · intro H4 e4 d4
      rw [lu, List.take_length] at d4
      have d4' : Dx H4 (.ref L) (.list ((seenN p tr i).map (seenD p i))) := d4.mono (grow_in e4)
      obtain ⟨_, ss, eL, hs4, rs4, ls4⟩ := d4'.lst_map
      cases eL
      clear d4 d4'
      have lsn : (seenN p tr i).length ≤ tr.length := List.length_filter_le _ _
      have msn : ∀ q ∈ seenN p tr i, q ∈ tr := fun q hq => (List.mem_filter.mp hq).1
      walk_at "tw"
      refine ⟨_, rfl, by omega, by omega, ?_⟩
      rw [show ((r : Nat) : Int).toNat = r from by omega]
      refine for_range (lo := 0) (n := r) (fun j σ' H' => ∃ o10 o11 : Option V, σ' = [some (.ref x), some (.ref f), some (.ref g), some (.int (m : Int)), some (.int (r : Int)), some (.int (z : Int)), some zv, some (.ref a), some (.int (i : Int)), some (.ref L), o10, o11, none, none, none, none] ∧ Ex H4 H' ∧ ∀ j', j' < j → ¬ badO p tr z off i j')
        ⟨o10, o11, rfl, Ex.refl _, fun i' h => absurd h (Nat.not_lt_zero _)⟩ ?_ ?_
      · rintro j σ' H5 hj ⟨o10, o11, rfl, e5, g2⟩
        have ej : (0 : Int) + (j : Int) = (j : Int) := by omega
        rw [ej]
        have hs5 := e5 _ _ hs4
        have eH5 := ((e12.trans e3).trans e4).trans e5
        have g5 := ho.gr.ex eH5
        walk_at "tw"
        refine ⟨L, rfl, .inl ⟨⟨_, SqL.of hs5⟩, ?_⟩⟩
        intro M hM
        refine lcB_list (G := hp0) (fun k => ((facN p (seenN p tr i) i j).map Nu.d).take k) (ex0 _) hM hs5 rfl (fun _ _ => pre_len _ (by unfold facN; simp; omega) _) ?_ ?_
        · intro k u H6 Q2 N hu e6 td
          obtain ⟨w, ew, mw, dw⟩ := rs4.map_get hu
          obtain ⟨A, v1, v2, v3, rfl, hA, k1, k2, k3⟩ := (dw.mono (e5.trans e6)).three_inv
          obtain ⟨w1, w2, w3⟩ := tok w (msn w mw)
          obtain ⟨b1, b2, b3⟩ := tb w (msn w mw)
          obtain ⟨b, rs, rfl, hb, rr, lr⟩ := rowN_inv k2
          have hrj : rs[j]? = some rs[j] := List.getElem?_eq_getElem (by omega)
          obtain ⟨y, hy, my, dy⟩ := rr.nu2 hrj
          obtain ⟨oy, ly⟩ := b2 y my
          have xi : w.1[i]? = some w.1[i] := List.getElem?_eq_getElem (by omega)
          have ex : w.1.getD i (ofInt p 0) = w.1[i] := getD_of xi
          obtain ⟨ox, lx⟩ := b1 _ (List.mem_of_getElem? xi)
          rw [ex] at k1
          walk_at "tw"
          refine ⟨rfl, ?_⟩
          walk_at "tw"
          refine c_gmV rfl (g5.ex e6) ne_mulm ne_mull ?_
          walk_at "tw"
          refine ⟨hp0, g, p, w.1[i], y, v1, rs[j], bu, bu, rfl, g5.ex e6, p0, ox, oy, k1, dy, lx, ly, by omega, fun rv H7 e7 d7 => ?_⟩
          refine td.1 _ _ _ (take_succ ?_) e7 d7
          unfold facN
          rw [List.getElem?_map, List.getElem?_map, ew]
          show some (Nu.mul p (w.1.getD i (ofInt p 0)) (w.2.1.getD j (ofInt p 0))).d = _
          rw [ex, getD_of hy]
        · intro H6 e6 d6
          rw [List.take_of_length_le (by unfold facN; simp; omega)] at d6
          have dF : Dx H6 (.ref M) (rowN (facN p (seenN p tr i) i j)) := d6.mono (grow_in (ex0 _))
          clear d6
          have hs6 := e6 _ _ hs5
          walk_at "tw"
          refine ⟨L, rfl, .inl ⟨⟨_, SqL.of hs6⟩, ?_⟩⟩
          intro O hO
          refine lcB_list (G := H6) (fun k => (((seenN p tr i).map fun q => q.2.2).map rowN).take k) (Ex.refl _) hO hs6 rfl (fun _ _ => pre_len _ (by simp; omega) _) ?_ ?_
          · intro k u H7 Q2 N hu e7 td
            obtain ⟨w, ew, mw, dw⟩ := rs4.map_get hu
            obtain ⟨A, v1, v2, v3, rfl, hA, k1, k2, k3⟩ := (dw.mono (e5.trans e6)).three_inv
            have hA7 := e7 _ _ hA
            walk_at "tw"
            refine ⟨rfl, ?_⟩
            walk_at "tw"
            exact td.1 _ _ _ (take_succ (by rw [List.getElem?_map, List.getElem?_map, ew]; rfl)) (Ex.refl _) (k3.mono (grow_ex e7))
          · intro H7 e7 d7
            rw [List.take_of_length_le (by simp; omega)] at d7
            have dW : Dx H7 (.ref O) (tblN ((seenN p tr i).map fun q => q.2.2)) := d7.mono (grow_in e7)
            clear d7
            have eH7 := (eH5.trans e6).trans e7
            have okF : OkN p (2 * bu) (facN p (seenN p tr i) i j) := fun y hy => by
              obtain ⟨w, mw, rfl⟩ := List.mem_map.mp hy
              obtain ⟨w1, w2, w3⟩ := tok w (msn w mw)
              obtain ⟨b1, b2, b3⟩ := tb w (msn w mw)
              have x1 : w.1[i]? = some w.1[i] := List.getElem?_eq_getElem (by omega)
              have x2 : w.2.1[j]? = some w.2.1[j] := List.getElem?_eq_getElem (by omega)
              rw [getD_of x1, getD_of x2]
              obtain ⟨o1, n1⟩ := b1 _ (List.mem_of_getElem? x1)
              obtain ⟨o2, n2⟩ := b2 _ (List.mem_of_getElem? x2)
              exact ⟨Nu.mul_ok o1 o2, Nu.le_mono (by omega) (Nu.mul_le o1 o2 n1 n2)⟩
            walk_at "tw"
            refine ⟨g, p, facN p (seenN p tr i) i j, (seenN p tr i).map fun q => q.2.2, .ref M, .ref O, z, 2 * bu, bw, rfl, ho.gr.ex eH7, p0, by omega, okF, fun w hw => ?_, by unfold facN; simp, by unfold facN; simp; omega, by omega, fun _ _ _ => DotP.naive (by unfold facN; rw [List.length_map]; exact Nat.le_trans (Nat.mul_le_mul_left _ lsn) z1), by omega, dF.mono e7, dW, fun cv H8 e8 d8 => ?_⟩
            · obtain ⟨w, mw, rfl⟩ := List.mem_map.mp hw
              exact ⟨(tb w (msn w mw)).2.2, (tok w (msn w mw)).2.2⟩
            rw [comb_seen p0 tb] at d8
            have eH8 := eH7.trans e8
            refine ⟨rfl, ?_⟩
            refine c_cons (c_var rfl (c_cons (c_var rfl (c_nil ?_))))
            refine ⟨eH8 _ _ hc, rfl, ?_⟩
            refine hlam i j H8 _ hi hj eH8 fun bv H9 e9 d9 => ?_
            refine c_neD (d := rowN (combN p (facN p tr i j) (tr.map fun q => q.2.2) z)) (e := rowN (baseN p z (off i j))) ((d8.mono (grow_in (ex0 _))).mono e9) (d9.mono (grow_in (ex0 _))) (sh_row _) (sh_row _) ?_
            rw [row_eqv]
            have eT := eH8.trans e9
            walk_at "tw"
            refine c_ite (fun h1 => ?_) (fun h1 => ?_)
            · have hbad : badO p tr z off i j := by simpa [badO] using h1
              walk_at "tw"
              refine ⟨by show 2 ≤ sizeLine; decide, fun t ft => ?_⟩
              exact q (some (i, j)) ⟨hi, hj, hbad, g1, g2⟩ _ _ (eT.trans (Ex.new ft)) (.tup (grow_new (fresh_back eT ft) upd_same) (.cons (.int _) (.cons (.int _) .nil)))
            · have hgood : ¬ badO p tr z off i j := by simpa [badO] using h1
              walk_at "tw"
              refine ⟨_, _, rfl, ((e5.trans e6).trans e7).trans (e8.trans e9), fun j' hj' => ?_⟩
              rcases Nat.lt_succ_iff_lt_or_eq.mp hj' with h | h
              · exact g2 j' h
              · rw [h]; exact hgood
      · rintro σ' H5 ⟨o10, o11, rfl, e5, g2⟩
        refine ⟨_, _, _, _, rfl, (e3.trans e4).trans e5, fun i' hi' => ?_⟩
        rcases Nat.lt_succ_iff_lt_or_eq.mp hi' with h | h
        · exact g1 i' h
        · rw [h]; exact g2
  · rintro σ' H3 ⟨o8, o9, o10, o11, rfl, e3, g1⟩
    walk_at "tw"
    exact q none g1 _ _ (e12.trans e3) .non
/-! ### errs_window -/
def tabW (K : PySem.W.Frag) : Addr := (He.cT K ("errs_window", none)).2
def qLamW : Str := "errs_window.<locals>.<lambda>"
abbrev NLamW : List Str := ["i", "j", "ground", "answers"]
def t_lamW (K : PySem.W.Frag) : TE := tCall (sp_unit_row K) [] E0 (tCons (tVar 2) (tCons (tVar 3) (tCons (tOp uSub (tVar 0) (tVar 1)) tNil)))
def offW (i j : Nat) : Int := (i : Int) - (j : Int)
def TTlamW (K : PySem.W.Frag) (q : Str) (tb : TE) : V → Addr → Addr → List (Option V) → Hp → VK → Prop := fun v f c' ws H Q =>
  t_f_first_unlike K f c' q ws NLamW tb { nx := fun _ H' => Q .non H', rt := Q } (start ["program", "due", "ground", "lefts", "rights", "places", "zero", "triples", "i", "seen", "j", "numbers", "u", "v", "w", "x"] [v, .ref f]) H
def spErrsW (K : PySem.W.Frag) (T : List (Addr × Str)) : Sp := fun vs H Q E => ∃ (G : Hp) (x : Addr) (p M R : Int) (m r z bu bw : Nat) (tr : List Trip), vs = [.ref x, .int M, .int R] ∧ Ex G H ∧ NoT G ∧ Tabs T H ∧ LrAt K G x p z r m tr ∧ PrN p ∧ z = m + r - 1 ∧ 1 ≤ m ∧ 1 ≤ r ∧ m ≤ 50 ∧ r ≤ 50 ∧ TrS p z r m bu bw tr ∧
  (2 * bu + bw + 2) * tr.length ≤ 7000 ∧ 2 * bu + bw ≤ 7000 ∧ tr.length ≤ 1000 ∧ ((M ≠ m ∨ R ≠ r) → Ow K "Unlike" (ulF "sizes") H E) ∧
  (M = m → R = r → ∀ res, IsFirst (badO p tr m offW) z r res → ∀ v H', ExtN H H' → Tabs T H' → Dx H' v (optD res) → Q v H')
def t_f_errs_window (K : PySem.W.Frag) (T : List (Addr × Str)) (q : Str) (tb : TE) (E : XK) : TS :=
    (tSeq (tIfS (tTest (tOp (uNe K) (tMeth (He.ga K "LeftRight") "sizes" (sp_LeftRight_sizes K) [] E0 (tVar 0) tNil) (tTup (tCons (tOp uSub (tOp (uAdd K) (tVar 1) (tVar 2)) (tC (.int 1))) (tCons (tVar 2) (tCons (tVar 1) tNil)))))) (tRz (He.ga K "Unlike") (sp_Unlike_init K) E (tCons (tC (.str "sizes")) tNil)) tNext)
    (tSeq (tAsg (tFld K (tVar 0) "ground") (gName 3))
    (tRet (tGive T q [3,1] (tVar 0) (TTlamW K q tb)))))
theorem pure_errsW (K : PySem.W.Frag) (TL : LrK K) (T : List (Addr × Str)) (vs : List V) (H : Hp) (Q : VK) (E : XK) (h : spErrsW K T vs H Q E) : t_f_errs_window K T qLamW (t_lamW K) E { nx := fun _ H' => Q .non H', rt := Q } (start ["program", "answers", "taps", "ground"] vs) H := by
  obtain ⟨G, x, p, M, R, m, r, z, bu, bw, tr, rfl, eG, nG, tS, ⟨g, t, l, ho⟩, hp, ez, m1, r1, m100, r100, ts, z1, z2, l1000, k1, q⟩ := h
  have hoH := ho.ex eG
  unfold t_f_errs_window
  walk_at "tw"
  refine c_lrM rfl hoH ne_z1 ne_z2 ne_z3 (c_nil ?_)
  refine ⟨x, g, t, l, p, z, r, m, tr, rfl, hoH, ?_⟩
  walk_at "tw"
  refine ⟨by show 3 ≤ sizeLine; decide, fun u fu => ?_⟩
  have e1 : Ex H (upd H u (.tup [.int (M + R - 1), .int R, .int M])) := Ex.new fu
  refine c_neD (d := .tuple [.int (z : Int), .int (r : Int), .int (m : Int)]) (e := .tuple [.int (M + R - 1), .int R, .int M]) (.tup (e1 _ _ hoH.sz) (.cons (.int _) (.cons (.int _) (.cons (.int _) .nil)))) (.tup upd_same (.cons (.int _) (.cons (.int _) (.cons (.int _) .nil)))) rfl rfl ?_
  rw [eqv3d]
  walk_at "tw"
  by_cases hm : M = m ∧ R = r
  · obtain ⟨rfl, rfl⟩ := hm
    refine c_iteF (by rw [decide_eq_true rfl, decide_eq_true rfl, decide_eq_true (by omega)]; rfl) ?_
    walk_at "tw"
    refine c_lrG rfl TL (hoH.ex e1) ?_
    walk_at "tw"
    unfold tGive
    refine c_var (v := .ref x) (by exact rfl) ?_
    refine ⟨tS.ext e1, fun f c' H1 xn tS1 hc => ?_⟩
    have eG1 : Ex G H1 := nG.ext (eG.trans e1) xn
    show TTlamW K qLamW (t_lamW K) (.ref x) f c' [some (.ref g), some (.int (m : Int))] H1 Q
    unfold TTlamW
    refine first_unlike_any K TL f c' x g t l qLamW _ NLamW (t_lamW K) offW p z r m bu bw tr H1 Q (ho.ex eG1) hp (by omega) r1 (by omega) (by omega) (by omega) ts z1 z2 l1000 hc (fun i j H' Q2 hi hj e' hq => ?_) fun res hr v H' e' d' => ?_
    · show t_lamW K [some (.int (i : Int)), some (.int (j : Int)), some (.ref g), some (.int (m : Int))] H' Q2
      unfold t_lamW
      walk_at "tw"
      exact ⟨g, p, offW i j, m, rfl, (ho.ex eG1).gr.ex e', hp, by omega, hq⟩
    · refine q rfl rfl res hr v H' (fun b o hb n => e' _ _ (xn b o (e1 _ _ hb) n)) (tS1.ext e') (d'.mono (grow_in (ex0 _)))
  · refine c_iteT ?_ ?_
    · by_cases h1 : M = m
      · have h2 : ¬ R = r := fun z => hm ⟨h1, z⟩
        rw [decide_eq_false (fun z : (r : Int) = R => h2 z.symm)]
        simp
      · rw [decide_eq_false (fun z : (m : Int) = M => h1 z.symm)]
        simp
    · walk_at "tw"
      refine c_rzUl (Ow.back (k1 ?_) e1)
      by_cases h1 : M = m
      · exact .inr fun z => hm ⟨h1, z⟩
      · exact .inl h1
end Tw
namespace Tw
open PySem
open Lean.Grind
/-! ## Plain: the window by points is right, and what it tells -/
section
variable {F : Type} [CommRing F]
theorem SS_pick (c : Nat → F) (t : Nat) : ∀ z : Nat, SS (List.range z) (fun s => c s * if t = s then 1 else 0) = if t < z then c t else 0
  | 0 => by rw [if_neg (by omega)]; rfl
  | z + 1 => by
    rw [List.range_succ, SS_append, SS_pick c t z, SS_cons, SS_nil]
    by_cases h1 : t = z
    · subst h1
      rw [if_neg (by omega), if_pos rfl, if_pos (by omega)]
      grind
    · rw [if_neg h1]
      by_cases h2 : t < z
      · rw [if_pos h2, if_pos (by omega)]
        grind
      · rw [if_neg h2, if_neg (by omega)]
        grind
end
section
variable {p : Int} (h : 0 ≤ p)
theorem up_get {m k : Nat} (hk : k < m) (q : Option (Gn p)) : (powN p (q.map Gn.v) m).getD k (ofInt p 0) = (upG h m k q).v := by
  rw [pow_up h, List.getD_eq_getElem?_getD, List.getElem?_map, List.getElem?_range hk]
  rfl
theorem cut_up (gs : List (Gn p)) {k r : Nat} (hl : k + r ≤ gs.length) : ((gs.map Gn.v).drop k).take r = (List.range r).map fun j => (letI := gRing h; gs.getD (k + j) 0).v := by
  letI := gRing h
  apply List.ext_getElem?
  intro j
  by_cases hj : j < r
  · rw [List.getElem?_take_of_lt hj, List.getElem?_drop, List.getElem?_map, List.getElem?_map, List.getElem?_range hj, List.getElem?_eq_getElem (by omega)]
    show _ = some (gs.getD (k + j) 0).v
    rw [List.getD_eq_getElem?_getD, List.getElem?_eq_getElem (by omega)]
    rfl
  · rw [List.getElem?_eq_none (by simp; omega), List.getElem?_eq_none (by simp; omega)]
end
/-- one place of the window's sums -/
theorem win_place {p : Int} (hp : PrN p) {gs : List (Option (Gn p))} {m r : Nat} (m1 : 1 ≤ m) (r1 : 1 ≤ r) (hl : gs.length = m + r - 1) (nd : gs.Nodup) {i j k : Nat} (hi : i < m + r - 1) (hj : j < r) (hk : k < m) :
    (letI := gRing hp.nonneg; SS gs fun q => (La.rowL gInv (m + r - 1) gs q).getD i 0 * upG hp.nonneg r j q * upG hp.nonneg m k q) = (letI := gRing hp.nonneg; if k + j = i then 1 else 0) := by
  letI := gRing hp.nonneg
  rw [← comb_place hp m1 r1 hl nd hk hj hi]
  refine SS_congr fun q _ => ?_
  rw [pw_up hp.nonneg m1 r1 hk hj q]
  grind
theorem win_good {p : Int} (hp : PrN p) {pts : List (Option Nu)} {m r : Nat} (ok : PtOk p pts) (nd : pts.Nodup) (m1 : 1 ≤ m) (r1 : 1 ≤ r) (hl : pts.length = m + r - 1) {i j : Nat} (hi : i < m + r - 1) (hj : j < r) : ¬ badO p (winTr p m r pts) m offW i j := by
  intro bad
  refine bad ?_
  obtain ⟨gs, rfl⟩ := lift_pt pts fun y hy => (ok y hy).1
  have ndg := pts_nodup nd
  have hlg : gs.length = m + r - 1 := by rw [← hl, List.length_map]
  have h0 := hp.nonneg
  letI := gRing h0
  unfold combN baseN
  refine List.map_congr_left fun k hk => ?_
  have hk := List.mem_range.mp hk
  have e1 : dotN p (facN p (winTr p m r (gs.map (Option.map Gn.v))) i j) (col p k ((winTr p m r (gs.map (Option.map Gn.v))).map fun q => q.2.2)) =
      dotL p (ofInt p 0) (gs.map fun q => (((La.rowL gInv (m + r - 1) gs q).getD i 0 * upG h0 r j q).v, (upG h0 m k q).v)) := by
    unfold dotN facN col winTr rectTr
    rw [List.map_map, List.map_map, List.map_map, List.map_map, List.map_map, List.map_map, List.map_map, zip_maps]
    congr 1
    refine List.map_congr_left fun q _ => ?_
    show (Nu.mul p ((valRow p (gs.map (Option.map Gn.v)).length (gs.map (Option.map Gn.v)) (q.map Gn.v)).getD i (ofInt p 0)) ((powN p (q.map Gn.v) r).getD j (ofInt p 0)), (powN p (q.map Gn.v) m).getD k (ofInt p 0)) = _
    rw [List.length_map, hlg, ← rowL_val h0, getD_val h0, up_get h0 hj, up_get h0 hk]
    rfl
  rw [e1]
  have e2 := dot_val h0 (fun q => (La.rowL gInv (m + r - 1) gs q).getD i 0 * upG h0 r j q) (fun q => upG h0 m k q) gs
  rw [e2]
  have e3 := win_place hp m1 r1 hlg ndg hi hj hk
  have e4 : (La.sumF (gs.map fun q => (La.rowL gInv (m + r - 1) gs q).getD i 0 * upG h0 r j q * upG h0 m k q)).v = (if k + j = i then (1 : Gn p) else 0).v := congrArg Gn.v e3
  rw [e4]
  unfold offW
  by_cases c : k + j = i
  · rw [if_pos c, if_pos (by omega)]; rfl
  · rw [if_neg c, if_neg (by omega)]; rfl
def dueW (p : Int) (a b : List Nu) (m r : Nat) : List Nu := (List.range m).map fun k => dotN p ((a.drop k).take r) b
theorem tellsW_eq {p : Int} (hp : PrN p) {pts : List (Option Nu)} {m r : Nat} {a b : List Nu} (ok : PtOk p pts) (nd : pts.Nodup) (m1 : 1 ≤ m) (r1 : 1 ≤ r) (hl : pts.length = m + r - 1) (la : a.length = m + r - 1) (lb : b.length = r) (oa : ∀ x ∈ a, x.ok p) (ob : ∀ x ∈ b, x.ok p) :
    combN p (numsN p (winTr p m r pts) a b) ((winTr p m r pts).map fun q => q.2.2) m = dueW p a b m r := by
  obtain ⟨gs, rfl⟩ := lift_pt pts fun y hy => (ok y hy).1
  obtain ⟨ga, rfl⟩ := lift_nu a oa
  obtain ⟨gb, rfl⟩ := lift_nu b ob
  have ndg := pts_nodup nd
  have hlg : gs.length = m + r - 1 := by rw [← hl, List.length_map]
  rw [List.length_map] at la lb
  have h0 := hp.nonneg
  letI := gRing h0
  unfold combN dueW
  refine List.map_congr_left fun k hk => ?_
  have hk := List.mem_range.mp hk
  -- the left side
  have num : ∀ q ∈ gs, Nu.mul p (dotN p (valRow p (m + r - 1) (gs.map (Option.map Gn.v)) (q.map Gn.v)) (ga.map Gn.v)) (dotN p (powN p (q.map Gn.v) r) (gb.map Gn.v)) = (SS (List.range (m + r - 1)) (fun s => (La.rowL gInv (m + r - 1) gs q).getD s 0 * ga.getD s 0) * SS (List.range r) (fun j => upG h0 r j q * gb.getD j 0)).v := fun q mq => by
    have e1 : dotN p (valRow p (m + r - 1) (gs.map (Option.map Gn.v)) (q.map Gn.v)) (ga.map Gn.v) = (SS (List.range (m + r - 1)) (fun s => (La.rowL gInv (m + r - 1) gs q).getD s 0 * ga.getD s 0)).v := by
      rw [← rowL_val h0, row_up h0 (m + r - 1) (La.rowL gInv (m + r - 1) gs q) (La.rowL_length ndg hlg q mq), row_up h0 (m + r - 1) ga la]
      unfold dotN
      rw [zip_maps]
      exact dot_val h0 _ _ _
    have e2 : dotN p (powN p (q.map Gn.v) r) (gb.map Gn.v) = (SS (List.range r) (fun i => upG h0 r i q * gb.getD i 0)).v := by
      rw [pow_up h0, row_up h0 r gb lb]
      unfold dotN
      rw [zip_maps]
      exact dot_val h0 _ _ _
    rw [e1, e2]
    rfl
  have lhs : dotN p (numsN p (winTr p m r (gs.map (Option.map Gn.v))) (ga.map Gn.v) (gb.map Gn.v)) (col p k ((winTr p m r (gs.map (Option.map Gn.v))).map fun q => q.2.2)) =
      (SS gs fun q => (SS (List.range (m + r - 1)) (fun s => (La.rowL gInv (m + r - 1) gs q).getD s 0 * ga.getD s 0) * SS (List.range r) (fun j => upG h0 r j q * gb.getD j 0)) * upG h0 m k q).v := by
    have e : dotN p (numsN p (winTr p m r (gs.map (Option.map Gn.v))) (ga.map Gn.v) (gb.map Gn.v)) (col p k ((winTr p m r (gs.map (Option.map Gn.v))).map fun q => q.2.2)) =
        dotL p (ofInt p 0) (gs.map fun q => ((SS (List.range (m + r - 1)) (fun s => (La.rowL gInv (m + r - 1) gs q).getD s 0 * ga.getD s 0) * SS (List.range r) (fun j => upG h0 r j q * gb.getD j 0)).v, (upG h0 m k q).v)) := by
      unfold dotN numsN col winTr rectTr
      rw [List.map_map, List.map_map, List.map_map, List.map_map, List.map_map, List.map_map, List.map_map, zip_maps]
      congr 1
      refine List.map_congr_left fun q mq => ?_
      show (Nu.mul p (dotN p (valRow p (gs.map (Option.map Gn.v)).length (gs.map (Option.map Gn.v)) (q.map Gn.v)) (ga.map Gn.v)) (dotN p (powN p (q.map Gn.v) r) (gb.map Gn.v)), (powN p (q.map Gn.v) m).getD k (ofInt p 0)) = _
      rw [List.length_map, hlg, num q mq, up_get h0 hk]
    rw [e]
    exact dot_val h0 _ _ _
  have rhs : dotN p (((ga.map Gn.v).drop k).take r) (gb.map Gn.v) = (SS (List.range r) fun j => ga.getD (k + j) 0 * gb.getD j 0).v := by
    rw [cut_up h0 ga (by omega), row_up h0 r gb lb]
    unfold dotN
    rw [zip_maps]
    exact dot_val h0 _ _ _
  rw [lhs, rhs]
  congr 1
  have step : (SS gs fun q => (SS (List.range (m + r - 1)) (fun s => (La.rowL gInv (m + r - 1) gs q).getD s 0 * ga.getD s 0) * SS (List.range r) (fun j => upG h0 r j q * gb.getD j 0)) * upG h0 m k q) =
      SS gs fun q => SS (List.range r) fun j => SS (List.range (m + r - 1)) fun s => (ga.getD s 0 * gb.getD j 0) * ((La.rowL gInv (m + r - 1) gs q).getD s 0 * upG h0 r j q * upG h0 m k q) := by
    refine SS_congr fun q _ => ?_
    rw [SS_mulL, SS_mulR]
    refine SS_congr fun j _ => ?_
    rw [SS_mulR, SS_mulR]
    refine SS_congr fun s _ => ?_
    grind
  rw [step, SS_swap]
  refine SS_congr fun j hj => ?_
  have hj := List.mem_range.mp hj
  rw [SS_swap]
  have inner : (SS (List.range (m + r - 1)) fun s => SS gs fun q => (ga.getD s 0 * gb.getD j 0) * ((La.rowL gInv (m + r - 1) gs q).getD s 0 * upG h0 r j q * upG h0 m k q)) = SS (List.range (m + r - 1)) fun s => (ga.getD s 0 * gb.getD j 0) * if k + j = s then 1 else 0 := by
    refine SS_congr fun s hs => ?_
    have hs := List.mem_range.mp hs
    rw [← SS_mulL]
    congr 1
    exact win_place hp m1 r1 hlg ndg hs hj hk
  rw [inner, SS_pick (fun s => ga.getD s 0 * gb.getD j 0) (k + j) (m + r - 1), if_pos (by omega)]
end Tw
namespace Tw
open PySem
/-! ## rows over one bottom: their dots stay small -/
theorem mul_over (N M : Int) (D E : Nat) : Rat.divInt N (D : Int) * Rat.divInt M (E : Int) = Rat.divInt (N * M) ((D * E : Nat) : Int) := by
  rw [Rat.divInt_mul_divInt, Int.natCast_mul]
theorem sc_step {B D B' D' : Nat} (hD : 0 < D) (hD' : 0 < D') : ∀ (zs : List (Nu × Nu)) (S : Int) (i : Nat), (∀ z ∈ zs, ∃ N M : Int, z = (.f (Rat.divInt N (D : Int)), .f (Rat.divInt M (D' : Int))) ∧ N.natAbs < 2 ^ B ∧ M.natAbs < 2 ^ B') → S.natAbs ≤ i * 2 ^ (B + B') →
    ∃ S' : Int, dotL 0 (.f (Rat.divInt S ((D * D' : Nat) : Int))) zs = .f (Rat.divInt S' ((D * D' : Nat) : Int)) ∧ S'.natAbs ≤ (i + zs.length) * 2 ^ (B + B')
  | [], S, i, _, hS => ⟨S, rfl, hS⟩
  | z :: zs, S, i, h, hS => by
    obtain ⟨N, M, e, hN, hM⟩ := h z List.mem_cons_self
    have d0 : 0 < D * D' := Nat.mul_pos hD hD'
    have bS : (S + N * M).natAbs ≤ (i + 1) * 2 ^ (B + B') := by
      refine Nat.le_trans (Int.natAbs_add_le _ _) ?_
      rw [Int.natAbs_mul, Nat.add_mul, Nat.one_mul]
      exact Nat.add_le_add hS (Nat.le_of_lt (lt_pow_mul hN hM))
    obtain ⟨S', e', b'⟩ := sc_step hD hD' zs (S + N * M) (i + 1) (fun y hy => h y (List.mem_cons_of_mem _ hy)) bS
    refine ⟨S', ?_, ?_⟩
    · rw [← e']
      show dotL 0 (Nu.add 0 (.f (Rat.divInt S ((D * D' : Nat) : Int))) (Nu.mul 0 z.1 z.2)) zs = _
      rw [e]
      show dotL 0 (.f (Rat.divInt S ((D * D' : Nat) : Int) + Rat.divInt N (D : Int) * Rat.divInt M (D' : Int))) zs = _
      rw [mul_over, dot_same _ _ _ (by omega)]
    · rw [List.length_cons]
      rw [show i + (zs.length + 1) = i + 1 + zs.length from by omega]
      exact b'
theorem sc_dot {A B D A' B' D' c k : Nat} {xs ys : List Nu} (h : Sc A B D xs) (h' : Sc A' B' D' ys) (ox : ∀ x ∈ xs, x.ok 0) (oy : ∀ y ∈ ys, y.ok 0) (hc : xs.length < 2 ^ c) (k1 : c + B + B' ≤ k) (k2 : A + A' ≤ k) : (dotN 0 xs ys).le k := by
  have form : ∀ z ∈ xs.zip ys, ∃ N M : Int, z = (.f (Rat.divInt N (D : Int)), .f (Rat.divInt M (D' : Int))) ∧ N.natAbs < 2 ^ B ∧ M.natAbs < 2 ^ B' := fun z hz => by
    obtain ⟨m1, m2⟩ := List.of_mem_zip hz
    obtain ⟨a, ea⟩ := Nu.ok_f rfl (ox _ m1)
    obtain ⟨b, eb⟩ := Nu.ok_f rfl (oy _ m2)
    obtain ⟨N, eN, bN⟩ := h.2.2 _ m1 a ea
    obtain ⟨M, eM, bM⟩ := h'.2.2 _ m2 b eb
    refine ⟨N, M, ?_, bN, bM⟩
    rw [← eN, ← eM, ← ea, ← eb]
  have d0 : 0 < D * D' := Nat.mul_pos h.1 h'.1
  obtain ⟨S, e, b⟩ := sc_step (B := B) (B' := B') h.1 h'.1 (xs.zip ys) 0 0 form (by simp)
  have z0 : Rat.divInt 0 ((D * D' : Nat) : Int) = 0 := Rat.zero_divInt _
  have e0 : ofInt 0 0 = .f (Rat.divInt 0 ((D * D' : Nat) : Int)) := by rw [z0]; rfl
  unfold dotN
  rw [e0, e]
  have l1 : (xs.zip ys).length ≤ xs.length := by rw [List.length_zip]; exact Nat.min_le_left _ _
  refine ⟨Nat.lt_of_le_of_lt (frac_num_le _ _ (by omega)) (Nat.lt_of_le_of_lt b ?_), Nat.lt_of_le_of_lt (frac_den_le _ _ (by omega)) ?_⟩
  · rw [Nat.zero_add]
    have : (xs.zip ys).length * 2 ^ (B + B') < 2 ^ c * 2 ^ (B + B') := Nat.mul_lt_mul_of_pos_right (by omega) (Nat.pow_pos (by decide))
    rw [← Nat.pow_add] at this
    exact pow_mono2 this (by omega)
  · rw [Int.natAbs_natCast]
    exact pow_mono2 (lt_pow_mul h.2.1 h'.2.1) k2
theorem sc_vac {p : Int} (hp : 0 < p) {xs : List Nu} (ox : ∀ x ∈ xs, x.ok p) : Sc 1 1 1 xs := ⟨by decide, by decide, fun x hx q e => by
  have := ox x hx
  rw [e] at this
  have z : p = 0 := this
  omega⟩
theorem Sc.mono {A B D A' B' : Nat} {xs : List Nu} (h : Sc A B D xs) (hA : A ≤ A') (hB : B ≤ B') : Sc A' B' D xs := ⟨h.1, pow_mono2 h.2.1 hA, fun x hx q e => by
  obtain ⟨N, e', b⟩ := h.2.2 x hx q e
  exact ⟨N, e', pow_mono2 b hB⟩⟩
theorem DotC.sc {p : Int} (hp : PrN p) {A B D A' B' D' c k n m : Nat} {xs ys : List Nu} (h : Sc A B D xs) (h' : Sc A' B' D' ys) (ox : OkN p n xs) (oy : OkN p m ys) (hnm : n + m ≤ 7000) (hA : A + A' ≤ 3900) (hc : xs.length < 2 ^ c) (k1 : c + B + B' ≤ k) (k2 : A + A' ≤ k) (k5 : 5 ≤ k) : DotC p k xs ys := by
  refine ⟨n, m, ox, oy, hnm, fun _ => Sc.dot h h' hA, ?_⟩
  rcases Int.lt_or_eq_of_le hp.nonneg with h0 | h0
  · exact ok_le hp h0 (dotN_ok hp.nonneg (fun x hx => (ox x hx).1) fun y hy => (oy y hy).1) k5
  · subst h0
    exact sc_dot h h' (fun x hx => (ox x hx).1) (fun y hy => (oy y hy).1) hc k1 k2
theorem sc_cons {A B D n : Nat} {x : Rat} {xs : List Nu} (hx : (Nu.f x).le n) (h : Sc A B D xs) (hAB : A ≤ B) : Sc (n + A) (n + B) (x.den * D) (.f x :: xs) := by
  have dx : 0 < x.den := x.den_pos
  refine ⟨Nat.mul_pos dx h.1, lt_pow_mul hx.2 h.2.1, fun y hy q e => ?_⟩
  (rcases List.mem_cons.mp hy with rfl | hy)
  · cases e
    refine ⟨x.num * (D : Int), ?_, ?_⟩
    · rw [Int.natCast_mul]
      have := Rat.divInt_mul_right (n := x.num) (d := (x.den : Int)) (a := (D : Int)) (by have := h.1; omega)
      rw [this, Rat.num_divInt_den]
    · rw [Int.natAbs_mul, Int.natAbs_natCast]
      exact pow_mono2 (lt_pow_mul hx.1 h.2.1) (by omega)
  · obtain ⟨N, e', b⟩ := h.2.2 y hy q e
    refine ⟨N * (x.den : Int), ?_, ?_⟩
    · rw [e', Nat.mul_comm x.den D, Int.natCast_mul]
      exact (Rat.divInt_mul_right (n := N) (d := (D : Int)) (a := (x.den : Int)) (by omega)).symm
    · rw [Int.natAbs_mul, Int.natAbs_natCast, Nat.add_comm n B]
      exact lt_pow_mul b hx.2
theorem okN_sc {p : Int} (hp : 0 ≤ p) {n : Nat} : ∀ {xs : List Nu}, OkN p n xs → ∃ D, Sc (n * xs.length + 1) (n * xs.length + 1) D xs
  | [], _ => ⟨1, by decide, by rw [List.length_nil, Nat.mul_zero]; decide, fun x hx => by cases hx⟩
  | x :: xs, ok => by
    rcases Int.lt_or_eq_of_le hp with h0 | h0
    · exact ⟨1, (sc_vac h0 fun y hy => (ok y hy).1).mono (by omega) (by omega)⟩
    · obtain ⟨D, h⟩ := okN_sc (xs := xs) hp fun y hy => ok y (List.mem_cons_of_mem _ hy)
      obtain ⟨q, rfl⟩ := Nu.ok_f h0.symm (ok x List.mem_cons_self).1
      refine ⟨_, (sc_cons (ok _ List.mem_cons_self).2 h (Nat.le_refl _)).mono ?_ ?_⟩
      · rw [List.length_cons, Nat.mul_add, Nat.mul_one]; omega
      · rw [List.length_cons, Nat.mul_add, Nat.mul_one]; omega
theorem valRow_sc {p : Int} (h : PrN p) {pts : List (Option Nu)} {pt : Option Nu} (z : Nat) (hp : PtOk p pts) (hx : ∀ x, pt = some x → x.ok p ∧ x.le 5) : ∃ D, Sc (17 * pts.length + 11) (17 * pts.length + 11) D (valRow p z pts pt) := by
  have ok := valRow_ok h z hp hx
  rcases Int.lt_or_eq_of_le h.nonneg with h0 | h0
  · exact ⟨1, (sc_vac h0 fun y hy => (ok y hy).1).mono (by omega) (by omega)⟩
  · have h0 : p = 0 := h0.symm
    subst h0
    have l := othersN_le pt pts
    obtain ⟨s1, s2⟩ := scaleN_ok h hx (othersN_ok hp pt)
    have i1 := Nu.inv_ok s1
    have i2 := Nu.inv_le h s1 (Nu.le_mono (m := 6 + 11 * (othersN pt pts).length) (by omega) s2) (by omega)
    have R := polyA_fb (p := 0) (by decide) (othersN pt pts) [ofInt 0 1] 0 (one_fb (by decide)) (othersN_ok hp pt)
    rw [Nat.zero_add] at R
    obtain ⟨r1, B, B0, B1, r2⟩ := R
    obtain ⟨s, es⟩ := Nu.ok_f rfl i1
    rw [es] at i2
    obtain ⟨i3, i4⟩ := i2
    have sd : 0 < s.den := s.den_pos
    refine ⟨s.den * B, Nat.mul_pos sd B0, ?_, fun y hy q e => ?_⟩
    · have : s.den * B < 2 ^ (6 + 11 * (othersN pt pts).length) * 2 ^ (5 * (othersN pt pts).length + 1) := Nat.mul_lt_mul'' i4 (Nat.lt_of_le_of_lt B1 (Nat.pow_lt_pow_right (by decide) (by omega)))
      rw [← Nat.pow_add] at this
      exact pow_mono2 this (by omega)
    · unfold valRow padN at hy
      rcases List.mem_append.mp hy with h1 | h1
      · obtain ⟨u, hu, rfl⟩ := List.mem_map.mp h1
        obtain ⟨v, ev⟩ := Nu.ok_f rfl (r1 u hu)
        have fb := r2 u hu
        rw [ev] at fb e
        obtain ⟨t, et, bt⟩ := fb
        rw [es] at e
        have e2 : s * v = q := by
          have e3 : Nu.mul 0 (.f s) (.f v) = .f (s * v) := rfl
          rw [e3] at e
          exact Nu.f.inj e
        refine ⟨s.num * t, ?_, ?_⟩
        · rw [← e2, et, ← Rat.num_divInt_den s, Rat.divInt_mul_divInt, Int.natCast_mul, Rat.num_divInt_den]
        · rw [Int.natAbs_mul]
          have : s.num.natAbs * t.natAbs < 2 ^ (6 + 11 * (othersN pt pts).length) * 2 ^ (6 * (othersN pt pts).length + 1) := Nat.mul_lt_mul'' i3 (Nat.lt_of_le_of_lt bt (Nat.pow_lt_pow_right (by decide) (by omega)))
          rw [← Nat.pow_add] at this
          exact pow_mono2 this (by omega)
      · rw [(List.mem_replicate.mp h1).2] at e
        refine ⟨0, ?_, Nat.pow_pos (by decide)⟩
        rw [Rat.zero_divInt]
        have e3 : ofInt 0 0 = .f 0 := rfl
        rw [e3] at e
        exact (Nu.f.inj e).symm
/-- the window's rows -/
theorem win_s {p : Int} (hp : PrN p) {pts : List (Option Nu)} {m r z : Nat} (hz : pts.length = z) (m6 : m ≤ 6) (r6 : r ≤ 6) (z1 : 1 ≤ z) (ok : PtOk p pts) : TrS p z r m (17 * z + 11) 26 (winTr p m r pts) where
  ok := fun w hw => by
    obtain ⟨q, mq, rfl⟩ := List.mem_map.mp hw
    obtain ⟨k1, k2, k3⟩ := (rect_s hp hz m6 r6 ok).ok q mq
    exact ⟨k3, k2, k1⟩
  bits := fun w hw => by
    obtain ⟨q, mq, rfl⟩ := List.mem_map.mp hw
    obtain ⟨k1, k2, k3⟩ := (rect_s hp hz m6 r6 ok).bits q mq
    exact ⟨k3, okN_mono k2 (by omega), k1⟩
theorem win_tells {p : Int} (hp : PrN p) {pts : List (Option Nu)} {m r z : Nat} {a b : List Nu} (hz : pts.length = z) (m6 : m ≤ 6) (r6 : r ≤ 6) (z11 : z ≤ 11) (ok : PtOk p pts) (oa : OkN p 5 a) (ob : OkN p 5 b) (la : a.length = z) (lb : b.length = r) :
    (∀ q ∈ winTr p m r pts, DotC p 270 q.1 a ∧ DotC p 200 q.2.1 b ∧ OkN p 26 q.2.2) ∧ 270 + 200 + 26 ≤ 7000 ∧ (p = 0 → ∀ i, i < m → DotP (270 + 200 + 26) ((numsN p (winTr p m r pts) a b).zip (col p i ((winTr p m r pts).map fun q => q.2.2)))) := by
  refine ⟨fun w hw => ?_, by decide, fun _ i _ => .inl ?_⟩
  · obtain ⟨q, mq, rfl⟩ := List.mem_map.mp hw
    obtain ⟨k1, k2, k3⟩ := (rect_s hp hz m6 r6 ok).bits q mq
    obtain ⟨w1, w2, w3⟩ := (rect_s hp hz m6 r6 ok).ok q mq
    obtain ⟨pt, mpt, rfl⟩ := List.mem_map.mp mq
    obtain ⟨D, sD⟩ := valRow_sc hp pts.length ok (fun x e => ok x (by rw [← e]; exact mpt))
    obtain ⟨D', sD'⟩ := okN_sc hp.nonneg oa
    refine ⟨?_, .naive hp.nonneg k2 ob (by decide) ?_ ?_, k1⟩
    · exact DotC.sc hp (c := 4) sD sD' k3 oa (by omega) (by omega) (by show (valRow p pts.length pts pt).length < 16; rw [valRow_len mpt]; omega) (by omega) (by omega) (by decide)
    · have w2 : (powN p pt r).length = r := w2
      show (26 + 5 + 2) * (powN p pt r).length ≤ 7000
      omega
    · have w2 : (powN p pt r).length = r := w2
      show (26 + 5 + 1) * (powN p pt r).length + 1 ≤ 200
      omega
  · refine Nat.le_trans (Nat.mul_le_mul_left _ (show _ ≤ 11 from ?_)) (by decide)
    rw [List.length_zip]
    unfold numsN winTr rectTr
    rw [List.length_map, List.length_map, List.length_map]
    exact Nat.le_trans (Nat.min_le_left _ _) (by omega)
end Tw
namespace TwW
open Tw PySem PySem.Spec PyProof.Rows L2 Evl RZ LamX
/-! ### _law_asked of windows -/
abbrev tbs (K : PySem.W.Frag) : List (Addr × Str) := [(tabW K, qLamW)]
def sp_errs_window (K : PySem.W.Frag) : Sp := spErrsW K (tbs K)
abbrev LawW (K : PySem.W.Frag) (b L : Addr) (G H : Hp) : Prop := LawT K (tbs K) b L G H
def spAskE (K : PySem.W.Frag) : Sp := fun vs H Q _ => ∃ (G : Hp) (x : Addr) (p M R : Int) (m r z bu bw : Nat) (tr : List Trip), vs = [.str "errs", .int p, .int M, .int R, .ref x] ∧ Ex G H ∧ NoT G ∧ Tabs (tbs K) H ∧ LrAt K G x p z r m tr ∧ PrN p ∧ z = m + r - 1 ∧ 1 ≤ m ∧ 1 ≤ r ∧ m ≤ 50 ∧ r ≤ 50 ∧ TrS p z r m bu bw tr ∧
  (2 * bu + bw + 2) * tr.length ≤ 7000 ∧ 2 * bu + bw ≤ 7000 ∧ tr.length ≤ 1000 ∧ ((M ≠ m ∨ R ≠ r) → RetN (faultD "Unlike" [.str "sizes"]) H Q) ∧
  (M = m → R = r → ∀ res, IsFirst (badO p tr m offW) z r res → ∀ v H', ExtN H H' → Tabs (tbs K) H' → Dx H' v (toldD (optD res)) → Q v H')
def spAskN (K : PySem.W.Frag) : Sp := fun vs H Q _ => ∃ (G : Hp) (p : Int) (m r : Nat) (word : Str), vs = [.str word, .int p, .int (m : Int), .int (r : Int), .non] ∧ (word = "none" ∨ word = "window") ∧ Ex G H ∧ PrN p ∧ 1 ≤ m ∧ 1 ≤ r ∧ m ≤ 100 ∧ r ≤ 100 ∧
  (6 < m → RetN (faultD "TooMany" [.str "window", .int (m : Int)]) H Q) ∧ (m ≤ 6 → 6 < r → RetN (faultD "TooMany" [.str "window", .int (r : Int)]) H Q) ∧ (m ≤ 6 → r ≤ 6 → (0 < p → ((m + r - 1 : Nat) : Int) > p + 1 → RetN (faultD "BadPoints" [.str "number"]) H Q) ∧
      ((p = 0 ∨ ((m + r - 1 : Nat) : Int) ≤ p + 1) → PtOk p (defPts p (m + r - 1)) ∧ ScOk p (defPts p (m + r - 1)) ∧ RetL K p (m + r - 1) r m (winTr p m r (defPts p (m + r - 1))) G H Q))
def spAskR (K : PySem.W.Frag) : Sp := fun vs H Q _ => ∃ (G : Hp) (p : Int) (m r : Nat) (v : V) (pts : List (Option Nu)), vs = [.str "window", .int p, .int (m : Int), .int (r : Int), v] ∧ Ex G H ∧ PrN p ∧ 1 ≤ m ∧ 1 ≤ r ∧ m ≤ 100 ∧ r ≤ 100 ∧
  Dx G v (ptsD pts) ∧ pts.length ≤ 1000 ∧ (6 < m → RetN (faultD "TooMany" [.str "window", .int (m : Int)]) H Q) ∧ (m ≤ 6 → 6 < r → RetN (faultD "TooMany" [.str "window", .int (r : Int)]) H Q) ∧ (m ≤ 6 → r ≤ 6 → (pts.length ≠ m + r - 1 → RetN (faultD "BadPoints" [.str "number"]) H Q) ∧
      (pts.length = m + r - 1 → alikeB pts = true → RetN (faultD "BadPoints" [.str "alike"]) H Q) ∧ (pts.length = m + r - 1 → alikeB pts = false → PtOk p pts ∧ ScOk p pts ∧ RetL K p (m + r - 1) r m (winTr p m r pts) G H Q))
def sp__law_asked (K : PySem.W.Frag) : Sp := fun vs H Q E => spAskE K vs H Q E ∨ spAskN K vs H Q E ∨ spAskR K vs H Q E
def t_f_law_asked (K : PySem.W.Frag) : TS :=
    (tTry K (.ref (He.ga K "Refused")) 7 (fun W => (tSeq (tIfS (tTest (tOp (uEq K) (tVar 0) (tC (.str "errs")))) (tRet (tLst (tCons (tC (.str "told")) (tCons (tCallS (sp_errs_window K) [] (L2.WE W) (tCons (tVar 4) (tCons (tVar 2) (tCons (tVar 3) tNil)))) tNil)))) tNext)
    (tSeq (tIfS (tTest (tOp (uEq K) (tVar 0) (tC (.str "none")))) (tRet (tLst (tCons (tC (.str "told")) (tCons (tCallKS (sp_window K) (kwG 3 1) (L2.WE W) (tCons (tMake (He.ga K "Ground") (sp_Ground_init K) [] E0 (tCons (tCall sp__law_line [] E0 (tCons (tVar 1) tNil)) tNil)) (tCons (tVar 2) (tCons (tVar 3) tNil))) (tCons (tC .non) tNil)) tNil)))) tNext)
    (tSeq (tIfS (tTest (tOp uIsN (tVar 4) (tC .non))) (tRet (tLst (tCons (tC (.str "told")) (tCons (tCallKS (sp_window K) (kwD 3 [.non]) (L2.WE W) tNil (tCons (tMake (He.ga K "Ground") (sp_Ground_init K) [] E0 (tCons (tCall sp__law_line [] E0 (tCons (tVar 1) tNil)) tNil)) (tCons (tVar 2) (tCons (tVar 3) tNil)))) tNil)))) tNext)
    (tSeq (tAsg (tCall sp__law_copied [] E0 (tCons (tVar 4) tNil)) (gName 5))
    (tSeq (tAsg (tCallKS (sp_window K) (kwG 3 1) (L2.WE W) (tCons (tMake (He.ga K "Ground") (sp_Ground_init K) [] E0 (tCons (tCall sp__law_line [] E0 (tCons (tVar 1) tNil)) tNil)) (tCons (tVar 2) (tCons (tVar 3) tNil))) (tCons (tVar 4) tNil)) (gName 6))
    (tRet (tIf (tB (tCall sp__law_same [] E0 (tCons (tVar 4) (tCons (tVar 5) tNil)))) (tLst (tCons (tC (.str "told")) (tCons (tVar 6) tNil))) (tLst (tCons (tC (.str "changed")) tNil)))))))))) (fun a cls d => tRet (tCallP a cls d (sp__law_fault K) (tCons (tVar 7) (tCons (tC (.str "Refused")) tNil)))))
theorem pure_asked (K : PySem.W.Frag) (T : AskK K) (vs : List V) (H : Hp) (Q : VK) (E : XK) (h : sp__law_asked K vs H Q E) : t_f_law_asked K { nx := fun _ H' => Q .non H', rt := Q } (start ["what", "p", "one", "two", "spread", "kept", "told", "e"] vs) H := by
  unfold t_f_law_asked
  refine c_try ?_
  rcases h with ⟨G, x, p, M, R, m, r, z, bu, bw, tr, rfl, eG, nG, tS, lr, hp, ez, m1, r1, m100, r100, ts, z1, z2, l1000, k1, q⟩ | ⟨G, p, m, r, word, rfl, hw, eG, hp, m1, r1, m100, r100, k1, k2, q⟩ | ⟨G, p, m, r, v, pts, rfl, eG, hp, m1, r1, m100, r100, dv, l1000, k1, k2, q⟩
  · walk_at "tw"
    refine c_callS ?_
    walk_at "tw"
    refine ⟨G, x, p, M, R, m, r, z, bu, bw, tr, rfl, eG, nG, tS, lr, hp, ez, m1, r1, m100, r100, ts, z1, z2, l1000, fun a => c_bad T (.ul "sizes") (k1 a) (Ex.refl _) (by show 7 < 8; decide), fun a b res hr u H2 x2 t2 d2 => ?_⟩
    walk_at "tw"
    refine ⟨by show 2 ≤ sizeLine; decide, fun l fl => ?_⟩
    have e3 : Ex H2 (upd H2 l (.lst [.str "told", u])) := Ex.new fl
    exact q a b res hr _ _ (fun c o h n => e3 _ _ (x2 c o h n)) (t2.ext e3) (.lst upd_same (.cons (.str _) (.cons (d2.mono e3) .nil)))
  · have fin : ∀ {pts : List (Option Nu)} {H1 : Hp}, Ex H H1 → RetL K p (m + r - 1) r m (winTr p m r pts) G H Q → ∀ x H2, Ex H1 H2 → LrAt K (grow (grow G H H1) H1 H2) x p (m + r - 1) r m (winTr p m r pts) → ∀ l, H2 l = none → Q (.ref l) (upd H2 l (.lst [.str "told", .ref x])) := fun {pts H1} eg q x H2 e2 lr l fl => by
      rw [grow_ex2 eg e2] at lr
      exact q l x _ ((eg.trans e2).trans (Ex.new fl)) (grow_new (fresh_back (eg.trans e2) fl) upd_same) (lr.ex (grow_mono (Ex.refl _) (Ex.new fl)))
    rcases hw with rfl | rfl
    · walk_at "tw"
      refine c_callKS ?_
      walk_at "tw"
      refine ⟨p, rfl, hp.nonneg, by have := prN_32 hp; omega, ?_⟩
      walk_at "tw"
      intro g dx hg hdx ndx
      refine ⟨g, dx, p, rfl, hp.line, upd_same, rfl, ?_⟩
      have eg : Ex H (upd (upd (upd H dx (.own g)) g (.ins (He.ga K "Ground") dx [])) g (.ins (He.ga K "Ground") dx (grF p))) := ((Ex.new hdx).mut hg).mut hg
      have gg : grow G H (upd (upd (upd H dx (.own g)) g (.ins (He.ga K "Ground") dx [])) g (.ins (He.ga K "Ground") dx (grF p))) g = some (.ins (He.ga K "Ground") dx (grF p)) := grow_new hg upd_same
      generalize upd (upd (upd H dx (.own g)) g (.ins (He.ga K "Ground") dx [])) g (.ins (He.ga K "Ground") dx (grF p)) = H1 at eg gg ⊢
      walk_at "tw"
      refine ⟨grow G H H1, g, p, m, r, .non, rfl, grow_in (eG.trans eg), ⟨dx, gg⟩, hp, m1, r1, m100, r100, fun a => c_bad T (.tm m) (k1 a) eg (by show 7 < 8; decide), fun a b => c_bad T (.tm r) (k2 a b) eg (by show 7 < 8; decide), fun a b => .inl ⟨rfl, fun c d => c_bad T (.bp "number") ((q a b).1 c d) eg (by show 7 < 8; decide), fun c => ?_⟩⟩
      obtain ⟨pok, sok, q3⟩ := (q a b).2 c
      refine ⟨pok, sok, fun x H2 e2 lr => ?_⟩
      walk_at "tw"
      exact ⟨by show 2 ≤ sizeLine; decide, fun l fl => fin eg q3 x H2 e2 lr l fl⟩
    · walk_at "tw"
      refine c_callKS ?_
      walk_at "tw"
      refine ⟨p, rfl, hp.nonneg, by have := prN_32 hp; omega, ?_⟩
      walk_at "tw"
      intro g dx hg hdx ndx
      refine ⟨g, dx, p, rfl, hp.line, upd_same, rfl, ?_⟩
      have eg : Ex H (upd (upd (upd H dx (.own g)) g (.ins (He.ga K "Ground") dx [])) g (.ins (He.ga K "Ground") dx (grF p))) := ((Ex.new hdx).mut hg).mut hg
      have gg : grow G H (upd (upd (upd H dx (.own g)) g (.ins (He.ga K "Ground") dx [])) g (.ins (He.ga K "Ground") dx (grF p))) g = some (.ins (He.ga K "Ground") dx (grF p)) := grow_new hg upd_same
      generalize upd (upd (upd H dx (.own g)) g (.ins (He.ga K "Ground") dx [])) g (.ins (He.ga K "Ground") dx (grF p)) = H1 at eg gg ⊢
      walk_at "tw"
      refine ⟨grow G H H1, g, p, m, r, .non, rfl, grow_in (eG.trans eg), ⟨dx, gg⟩, hp, m1, r1, m100, r100, fun a => c_bad T (.tm m) (k1 a) eg (by show 7 < 8; decide), fun a b => c_bad T (.tm r) (k2 a b) eg (by show 7 < 8; decide), fun a b => .inl ⟨rfl, fun c d => c_bad T (.bp "number") ((q a b).1 c d) eg (by show 7 < 8; decide), fun c => ?_⟩⟩
      obtain ⟨pok, sok, q3⟩ := (q a b).2 c
      refine ⟨pok, sok, fun x H2 e2 lr => ?_⟩
      walk_at "tw"
      exact ⟨by show 2 ≤ sizeLine; decide, fun l fl => fin eg q3 x H2 e2 lr l fl⟩
  · have nv : v ≠ .non := by
      obtain ⟨a, us, rfl, _⟩ := dv.lst_inv
      exact fun z => by cases z
    walk_at "tw"
    refine ⟨v, ptsD pts, rfl, dv.mono eG, dep_pts (by omega), fun kc H0 e0 d0 => ?_⟩
    have dk := d0.mono (grow_in (ex0 _))
    walk_at "tw"
    refine c_callKS ?_
    walk_at "tw"
    refine ⟨p, rfl, hp.nonneg, by have := prN_32 hp; omega, ?_⟩
    walk_at "tw"
    intro g dx hg hdx ndx
    refine ⟨g, dx, p, rfl, hp.line, upd_same, rfl, ?_⟩
    have eg0 : Ex H0 (upd (upd (upd H0 dx (.own g)) g (.ins (He.ga K "Ground") dx [])) g (.ins (He.ga K "Ground") dx (grF p))) := ((Ex.new hdx).mut hg).mut hg
    have gg : upd (upd (upd H0 dx (.own g)) g (.ins (He.ga K "Ground") dx [])) g (.ins (He.ga K "Ground") dx (grF p)) g = some (.ins (He.ga K "Ground") dx (grF p)) := upd_same
    have ng : H g = none := fresh_back e0 hg
    generalize upd (upd (upd H0 dx (.own g)) g (.ins (He.ga K "Ground") dx [])) g (.ins (He.ga K "Ground") dx (grF p)) = H1 at eg0 gg ⊢
    have eg := e0.trans eg0
    walk_at "tw"
    refine ⟨grow G H H1, g, p, m, r, v, rfl, grow_in (eG.trans eg), ⟨dx, grow_new ng gg⟩, hp, m1, r1, m100, r100, fun a => c_bad T (.tm m) (k1 a) eg (by show 7 < 8; decide), fun a b => c_bad T (.tm r) (k2 a b) eg (by show 7 < 8; decide), fun a b => .inr ⟨pts, nv, dv.mono (grow_ex eG), l1000, fun c => c_bad T (.bp "number") ((q a b).1 c) eg (by show 7 < 8; decide), fun c d => c_bad T (.bp "alike") ((q a b).2.1 c d) eg (by show 7 < 8; decide), fun c d => ?_⟩⟩
    obtain ⟨pok, sok, q3⟩ := (q a b).2.2 c d
    refine ⟨pok, sok, fun x H2 e2 lr => ?_⟩
    rw [grow_ex2 eg e2] at lr
    walk_at "tw"
    refine ⟨v, kc, ptsD pts, rfl, (dv.mono eG).mono (eg.trans e2), dk.mono (eg0.trans e2), dep_pts (by omega), fun H3 e3 => ?_⟩
    walk_at "tw"
    refine ⟨by show 2 ≤ sizeLine; decide, fun l fl => ?_⟩
    have eT := (eg.trans e2).trans e3
    exact q3 l x _ (eT.trans (Ex.new fl)) (grow_new (fresh_back eT fl) upd_same) (lr.ex (grow_mono (Ex.refl _) (e3.trans (Ex.new fl))))
end TwW
namespace TwW
open Tw PySem PySem.Spec PyProof.Rows L2 Evl RZ LamX
/-! ### _law_first of windows -/
def sp__law_first : Sp := fun vs H Q _ => ∃ (p : Int) (tr : List Trip) (v : V) (m r z bu bw : Nat), vs = [.int p, v, .int (m : Int), .int (r : Int)] ∧ z = m + r - 1 ∧ 1 ≤ m ∧ 1 ≤ r ∧ m ≤ 50 ∧ r ≤ 50 ∧ 0 ≤ p ∧ p ≤ 10007 ∧ TrOk z r m tr ∧ TrBits p bu bw tr ∧ (2 * bu + bw + 2) * tr.length ≤ 7000 ∧ 2 * bu + bw ≤ 7000 ∧ tr.length ≤ 1000 ∧ Dx H v (.list (tr.map tripD)) ∧
  ∀ res, IsFirst (badO p tr m offW) z r res → RetN (optD res) H Q
def t_f_law_first (K : PySem.W.Frag) : TS :=
    (tSeq (tFor (iRng1 (tCons (tOp uSub (tOp (uAdd K) (tVar 2) (tVar 3)) (tC (.int 1))) tNil)) (gName 4) (tFor (iRng1 (tCons (tVar 3) tNil)) (gName 5) (tSeq (tAsg (tLc (iSeq K (tVar 1)) (gName 8) tYes (tCall sp__law_mul [] E0 (tCons (tVar 0) (tCons (tOp (uIx K) (tOp (uIx K) (tVar 8) (tC (.int 0))) (tVar 4)) (tCons (tOp (uIx K) (tOp (uIx K) (tVar 8) (tC (.int 1))) (tVar 5)) tNil)))) [8]) (gName 6))
    (tSeq (tAsg (tIf (tTest (tChain (uLe K) (uLt K) (tC (.int 0)) (tOp uSub (tVar 4) (tVar 5)) (tVar 2))) (tCall sp__law_base [] E0 (tCons (tVar 0) (tCons (tVar 2) (tCons (tOp uSub (tVar 4) (tVar 5)) tNil)))) (tCall sp__law_zeros [] E0 (tCons (tVar 0) (tCons (tVar 2) tNil)))) (gName 7))
    (tIfS (tTest (tOp (uNe K) (tCall sp__law_combined [] E0 (tCons (tVar 0) (tCons (tVar 6) (tCons (tLc (iSeq K (tVar 1)) (gName 8) tYes (tOp (uIx K) (tVar 8) (tC (.int 2))) [8]) (tCons (tVar 2) tNil))))) (tVar 7))) (tRet (tTup (tCons (tVar 4) (tCons (tVar 5) tNil)))) tNext)))))
    (tRet (tC .non)))
theorem base_out {p : Int} {n : Nat} {k : Int} (h : k < 0 ∨ (n : Int) ≤ k) : baseN p n k = List.replicate n (ofInt p 0) := by
  apply List.ext_getElem?
  intro i
  unfold baseN
  rw [List.getElem?_map, List.getElem?_replicate]
  by_cases hi : i < n
  · rw [List.getElem?_range hi, if_pos hi]
    show some (ofInt p (if (i : Int) = k then 1 else 0)) = _
    rw [if_neg (by omega)]
  · rw [List.getElem?_eq_none (by simp; omega), if_neg hi]
    rfl
theorem pure_first (K : PySem.W.Frag) (vs : List V) (H : Hp) (Q : VK) (E : XK) (h : sp__law_first vs H Q E) : t_f_law_first K { nx := fun _ H' => Q .non H', rt := Q } (start ["p", "triples", "many", "wide", "i", "j", "factors", "due", "one"] vs) H := by
  obtain ⟨p, tr, v, m, r, z, bu, bw, rfl, ez, m1, r1, m100, r100, p0, p1, tok, tb, z1, z2, l1000, dv, q⟩ := h
  obtain ⟨a, us, rfl, ha, ru, lu⟩ := dv.lst_map
  have ezz : (m : Int) + (r : Int) - 1 = (z : Int) := by omega
  unfold t_f_law_first
  walk_at "tw"
  rw [ezz]
  refine ⟨_, rfl, by omega, by omega, ?_⟩
  rw [show ((z : Nat) : Int).toNat = z from by omega]
  refine for_range (lo := 0) (n := z) (fun i σ' H' => ∃ o4 o5 o6 o7 : Option V, σ' = [some (.int p), some (.ref a), some (.int (m : Int)), some (.int (r : Int)), o4, o5, o6, o7, none] ∧ Ex H H' ∧ ∀ i', i' < i → ∀ j', j' < r → ¬ badO p tr m offW i' j')
    ⟨none, none, none, none, rfl, Ex.refl _, fun i' h => absurd h (Nat.not_lt_zero _)⟩ ?_ ?_
  · rintro i σ' H1 hi ⟨o4, o5, o6, o7, rfl, e1, g1⟩
    have ei : (0 : Int) + (i : Int) = (i : Int) := by omega
    rw [ei]
    walk_at "tw"
    refine ⟨_, rfl, by omega, by omega, ?_⟩
    rw [show ((r : Nat) : Int).toNat = r from by omega]
    refine for_range (lo := 0) (n := r) (fun j σ' H' => ∃ o5 o6 o7 : Option V, σ' = [some (.int p), some (.ref a), some (.int (m : Int)), some (.int (r : Int)), some (.int (i : Int)), o5, o6, o7, none] ∧ Ex H H' ∧ ∀ j', j' < j → ¬ badO p tr m offW i j')
      ⟨o5, o6, o7, rfl, e1, fun i' h => absurd h (Nat.not_lt_zero _)⟩ ?_ ?_
    · rintro j σ' H2 hj ⟨o5, o6, o7, rfl, e2, g2⟩
      have ej : (0 : Int) + (j : Int) = (j : Int) := by omega
      rw [ej]
      have ha2 := e2 _ _ ha
      walk_at "tw"
      refine ⟨a, rfl, .inl ⟨⟨_, SqL.of ha2⟩, ?_⟩⟩
      intro L hL
      refine lcB_list (G := hp0) (fun k => ((facN p tr i j).map Nu.d).take k) (ex0 _) hL ha2 rfl (fun _ _ => pre_len _ (by unfold facN; simp; omega) _) ?_ ?_
      · intro k u H3 Q2 N hu e3 td
        obtain ⟨w, ew, mw, dw⟩ := ru.map_get hu
        obtain ⟨A, v1, v2, v3, rfl, hA, d1, d2, d3⟩ := (dw.mono (e2.trans e3)).three_inv
        obtain ⟨w1, w2, w3⟩ := tok w mw
        obtain ⟨b1, b2, b3⟩ := tb w mw
        obtain ⟨c1, t1, rfl, hc1, rt1, l1⟩ := rowN_inv d1
        obtain ⟨c2, t2, rfl, hc2, rt2, l2⟩ := rowN_inv d2
        have x1 : t1[i]? = some t1[i] := List.getElem?_eq_getElem (by omega)
        have x2 : t2[j]? = some t2[j] := List.getElem?_eq_getElem (by omega)
        obtain ⟨y1, f1, my1, dy1⟩ := rt1.nu2 x1
        obtain ⟨y2, f2, my2, dy2⟩ := rt2.nu2 x2
        obtain ⟨o1, n1⟩ := b1 y1 my1
        obtain ⟨o2, n2⟩ := b2 y2 my2
        walk_at "tw"
        refine ⟨rfl, ?_⟩
        walk_at "tw"
        refine ⟨hp0, p, y1, y2, t1[i], t2[j], bu, bu, rfl, p0, o1, o2, dy1, dy2, n1, n2, by omega, fun rv H4 e4 d4 => ?_⟩
        refine td.1 _ _ _ (take_succ ?_) e4 d4
        unfold facN
        rw [List.getElem?_map, List.getElem?_map, ew]
        show some (Nu.mul p (w.1.getD i (ofInt p 0)) (w.2.1.getD j (ofInt p 0))).d = _
        rw [getD_of f1, getD_of f2]
      · intro H3 e3 d3
        rw [List.take_of_length_le (by unfold facN; simp; omega)] at d3
        have dF : Dx H3 (.ref L) (rowN (facN p tr i j)) := d3.mono (grow_in (ex0 _))
        with_reducible refine c_name ?_
        with_reducible refine c_seq ?_
        with_reducible refine c_asg ?_
        refine c_pre1 (fun v H' => Ex H3 H' ∧ Dx H' v (rowN (baseN p m (offW i j)))) (fun dv H4 hv => ?_) (fun Q2 k => ?_)
        rotate_left
        · refine c_if ?_
          refine c_test ?_
          refine c_chain ?_
          walk_at "tw"
          refine c_ite (fun h1 => ?_) (fun h1 => ?_)
          · walk_at "tw"
            refine c_ite (fun h2 => ?_) (fun h2 => ?_)
            · walk_at "tw"
              exact ⟨p, offW i j, m, rfl, p0, by omega, fun bv H6 e6 d6 => k _ _ ⟨e6, d6.mono (grow_in (ex0 _))⟩⟩
            · have h3 := of_decide_eq_false h2
              walk_at "tw"
              exact ⟨p, m, rfl, p0, by omega, fun bv H6 e6 d6 => k _ _ ⟨e6, by rw [base_out (.inr (by unfold offW; omega))]; exact d6.mono (grow_in (ex0 _))⟩⟩
          · have h3 := of_decide_eq_false h1
            walk_at "tw"
            exact ⟨p, m, rfl, p0, by omega, fun bv H6 e6 d6 => k _ _ ⟨e6, by rw [base_out (.inl (by unfold offW; omega))]; exact d6.mono (grow_in (ex0 _))⟩⟩
        obtain ⟨e4, dD⟩ := hv
        have dF4 := dF.mono e4
        have ha4 := e4 _ _ (e3 _ _ ha2)
        walk_at "tw"
        refine ⟨a, rfl, .inl ⟨⟨_, SqL.of ha4⟩, ?_⟩⟩
        intro M hM
        refine lcB_list (G := H4) (fun k => ((tr.map fun q => q.2.2).map rowN).take k) (Ex.refl _) hM ha4 rfl (fun _ _ => pre_len _ (by simp; omega) _) ?_ ?_
        · intro k u H5 Q2 N hu e5 td
          obtain ⟨w, ew, mw, dw⟩ := ru.map_get hu
          obtain ⟨A, v1, v2, v3, rfl, hA, d1, d2, d3'⟩ := (dw.mono ((e2.trans e3).trans e4)).three_inv
          have hA5 := e5 _ _ hA
          walk_at "tw"
          refine ⟨rfl, ?_⟩
          walk_at "tw"
          exact td.1 _ _ _ (take_succ (by rw [List.getElem?_map, List.getElem?_map, ew]; rfl)) (Ex.refl _) (d3'.mono (grow_ex e5))
        · intro H5 e5 d5
          rw [List.take_of_length_le (by simp; omega)] at d5
          have dW : Dx H5 (.ref M) (tblN (tr.map fun q => q.2.2)) := d5.mono (grow_in e5)
          walk_at "tw"
          have okF : OkN p (2 * bu) (facN p tr i j) := fun x hx => by
            obtain ⟨w, mw, rfl⟩ := List.mem_map.mp hx
            obtain ⟨w1, w2, w3⟩ := tok w mw
            obtain ⟨b1, b2, b3⟩ := tb w mw
            have x1 : w.1[i]? = some w.1[i] := List.getElem?_eq_getElem (by omega)
            have x2 : w.2.1[j]? = some w.2.1[j] := List.getElem?_eq_getElem (by omega)
            rw [getD_of x1, getD_of x2]
            obtain ⟨o1, n1⟩ := b1 _ (List.mem_of_getElem? x1)
            obtain ⟨o2, n2⟩ := b2 _ (List.mem_of_getElem? x2)
            exact ⟨Nu.mul_ok o1 o2, Nu.le_mono (by omega) (Nu.mul_le o1 o2 n1 n2)⟩
          refine ⟨p, facN p tr i j, tr.map fun q => q.2.2, .ref L, .ref M, m, 2 * bu, bw, rfl, p0, p1, okF, fun w hw => ?_, by unfold facN; simp, by unfold facN; simp; omega, by omega, by unfold facN; rw [List.length_map]; exact z1, by omega, dF4.mono e5, dW, fun cv H6 e6 d6 => ?_⟩
          · obtain ⟨w, mw, rfl⟩ := List.mem_map.mp hw
            exact ⟨(tb w mw).2.2, (tok w mw).2.2⟩
          walk_at "tw"
          refine c_neD (d := rowN (combN p (facN p tr i j) (tr.map fun q => q.2.2) m)) (e := rowN (baseN p m (offW i j))) (d6.mono (grow_in (ex0 _))) (dD.mono (e5.trans e6)) (sh_row _) (sh_row _) ?_
          rw [row_eqv]
          have eT := (((e2.trans e3).trans e4).trans e5).trans e6
          walk_at "tw"
          refine c_ite (fun h1 => ?_) (fun h1 => ?_)
          · have hbad : badO p tr m offW i j := by simpa [badO] using h1
            walk_at "tw"
            refine ⟨by show 2 ≤ sizeLine; decide, fun t ft => ?_⟩
            exact q (some (i, j)) ⟨hi, hj, hbad, g1, g2⟩ _ _ (eT.trans (Ex.new ft)) (.tup (grow_new (fresh_back eT ft) upd_same) (.cons (.int _) (.cons (.int _) .nil)))
          · have hgood : ¬ badO p tr m offW i j := by simpa [badO] using h1
            walk_at "tw"
            refine ⟨_, _, _, rfl, eT, fun j' hj' => ?_⟩
            rcases Nat.lt_succ_iff_lt_or_eq.mp hj' with h | h
            · exact g2 j' h
            · rw [h]; exact hgood
    · rintro σ' H2 ⟨o5, o6, o7, rfl, e2, g2⟩
      refine ⟨_, _, _, _, rfl, e2, fun i' hi' => ?_⟩
      rcases Nat.lt_succ_iff_lt_or_eq.mp hi' with h | h
      · exact g1 i' h
      · rw [h]; exact g2
  · rintro σ' H1 ⟨o4, o5, o6, o7, rfl, e1, g1⟩
    walk_at "tw"
    exact q none g1 _ _ e1 .non
end TwW
namespace TwW
open Tw PySem PySem.Spec PyProof.Rows L2 Evl RZ LamX
/-! ### _law_judged of windows -/
def sp__law_judged (K : PySem.W.Frag) : Sp := fun vs H Q _ => ∃ (b L : Addr) (G : Hp) (p : Int) (m r z bu bw : Nat) (tr : List Trip) (v : V), vs = [.ref b, .int p, .int (m : Int), .int (r : Int), v] ∧ LawW K b L G H ∧ PrN p ∧ Dx G v (.list (tr.map tripD)) ∧ TrS p z r m bu bw tr ∧ z = m + r - 1 ∧ 1 ≤ m ∧ 1 ≤ r ∧ m ≤ 6 ∧ r ≤ 6 ∧ tr.length ≤ 60 ∧ bu ≤ 900 ∧ bw ≤ 900 ∧
  (2 * (bu + 15) + (bw + 15) + 2) * tr.length ≤ 7000 ∧ ∀ G' H', LawW K b L G' H' → Ex G G' → Q (.bl true) H'
def t_f_law_judged (K : PySem.W.Frag) : TS :=
    (tSeq (tFor (iRng1 (tCons (tC (.int 2)) tNil)) (gName 5) (tSeq (tAsg (tMake (He.ga K "LeftRight") (sp_LeftRight_init K) [] E0 (tCons (tMake (He.ga K "Ground") (sp_Ground_init K) [] E0 (tCons (tCall sp__law_line [] E0 (tCons (tVar 1) tNil)) tNil)) (tCons (tLst (tCons (tOp uSub (tOp (uAdd K) (tVar 2) (tVar 3)) (tC (.int 1))) (tCons (tVar 3) (tCons (tVar 2) tNil)))) (tCons (tCall sp__law_copied [] E0 (tCons (tVar 4) tNil)) tNil)))) (gName 6))
    (tSeq (tIfS (tNot (tB (tCall sp__law_same [] E0 (tCons (tCall (sp__law_asked K) [] E0 (tCons (tC (.str "errs")) (tCons (tVar 1) (tCons (tVar 2) (tCons (tVar 3) (tCons (tVar 6) tNil)))))) (tCons (tLst (tCons (tC (.str "told")) (tCons (tCall sp__law_first [] E0 (tCons (tVar 1) (tCons (tVar 4) (tCons (tVar 2) (tCons (tVar 3) tNil))))) tNil))) tNil))))) (tRet (tC (.bl false))) tNext)
    (tSeq (tAsg (tCall sp__law_pick [] E0 (tCons (tVar 0) (tCons (tLst (tCons (tTup (tCons (tOp (uAdd K) (tVar 2) (tC (.int 1))) (tCons (tVar 3) tNil))) (tCons (tTup (tCons (tVar 2) (tCons (tOp (uAdd K) (tVar 3) (tC (.int 1))) tNil))) (tCons (tIf (tTest (tOp (uGt K) (tVar 3) (tC (.int 1)))) (tTup (tCons (tOp (uAdd K) (tVar 2) (tC (.int 1))) (tCons (tOp uSub (tVar 3) (tC (.int 1))) tNil))) (tTup (tCons (tOp (uAdd K) (tVar 2) (tC (.int 2))) (tCons (tVar 3) tNil)))) tNil)))) tNil))) (gName 7))
    (tSeq (tIfS (tNot (tB (tCall sp__law_same [] E0 (tCons (tCall (sp__law_asked K) [] E0 (tCons (tC (.str "errs")) (tCons (tVar 1) (tCons (tOp (uIx K) (tVar 7) (tC (.int 0))) (tCons (tOp (uIx K) (tVar 7) (tC (.int 1))) (tCons (tVar 6) tNil)))))) (tCons (tCall sp__law_due [] E0 (tCons (tC (.str "Unlike")) (tCons (tLst (tCons (tC (.str "sizes")) tNil)) tNil))) tNil))))) (tRet (tC (.bl false))) tNext)
    (tSeq (tIfS (tTest (tOp (uEq K) (tVar 4) (tLst tNil))) tBreak tNext)
    (tAsg (tCall sp__law_bent [] E0 (tCons (tVar 0) (tCons (tVar 1) (tCons (tVar 4) tNil)))) (gName 4))))))))
    (tRet (tC (.bl true))))
theorem pure_judged (K : PySem.W.Frag) (vs : List V) (H : Hp) (Q : VK) (E : XK) (h : sp__law_judged K vs H Q E) : t_f_law_judged K { nx := fun _ H' => Q .non H', rt := Q } (start ["bag", "p", "many", "wide", "triples", "lap", "made", "other"] vs) H := by
  obtain ⟨b, L, G, p, m, r, z, bu, bw, tr, v, rfl, I, hp, dv, ts, ez, m1, r1, m6, r6, l60, b9, w9, hz, q⟩ := h
  have p0 := hp.nonneg
  have p31 := prN_32 hp
  unfold t_f_law_judged
  walk_at "tw"
  refine ⟨2, rfl, by decide, by decide, ?_⟩
  refine for_range (lo := 0) (n := 2) (fun i σ' H' => ∃ (G1 : Hp) (v1 : V) (tr1 : List Trip) (o5 o6 o7 : Option V), σ' = [some (.ref b), some (.int p), some (.int (m : Int)), some (.int (r : Int)), some v1, o5, o6, o7] ∧ LawW K b L G1 H' ∧ Ex G G1 ∧ Dx G1 v1 (.list (tr1.map tripD)) ∧ TrS p z r m (bu + 15 * i) (bw + 15 * i) tr1 ∧ tr1.length = tr.length)
    ⟨G, v, tr, none, none, none, rfl, I, Ex.refl _, dv, ts, rfl⟩ ?_ ?_
  · rintro i σ' H1 hi ⟨G1, v1, tr1, o5, o6, o7, rfl, I1, eG1, dv1, ts1, l1⟩
    have i2 : i ≤ 1 := by omega
    have bits1 : (2 * (bu + 15 * i) + (bw + 15 * i) + 2) * tr1.length ≤ 7000 := by
      rw [l1]
      exact Nat.le_trans (Nat.mul_le_mul_right _ (by omega)) hz
    walk_at "tw"
    refine ⟨p, rfl, p0, by omega, ?_⟩
    walk_at "tw"
    intro g dx hg hdx ndx
    refine ⟨g, dx, p, rfl, hp.line, upd_same, rfl, ?_⟩
    have eg : Ex H1 (upd (upd (upd H1 dx (.own g)) g (.ins (He.ga K "Ground") dx [])) g (.ins (He.ga K "Ground") dx (grF p))) := ((Ex.new hdx).mut hg).mut hg
    have gg : GrAt K (gro G1 H1 (upd (upd (upd H1 dx (.own g)) g (.ins (He.ga K "Ground") dx [])) g (.ins (He.ga K "Ground") dx (grF p)))) g p := ⟨dx, strip_some (grow_new hg upd_same) fun _ z => (nomatch z)⟩
    have I2 := I1.growsE eg
    have s2 := I1.sub (H' := upd (upd (upd H1 dx (.own g)) g (.ins (He.ga K "Ground") dx [])) g (.ins (He.ga K "Ground") dx (grF p)))
    generalize gro G1 H1 (upd (upd (upd H1 dx (.own g)) g (.ins (He.ga K "Ground") dx [])) g (.ins (He.ga K "Ground") dx (grF p))) = G2 at I2 gg s2
    generalize upd (upd (upd H1 dx (.own g)) g (.ins (He.ga K "Ground") dx [])) g (.ins (He.ga K "Ground") dx (grF p)) = H2 at I2 ⊢
    clear hg hdx ndx eg
    have dv2 := dv1.mono s2
    walk_at "tw"
    refine ⟨by show 3 ≤ sizeLine; decide, fun Zl fZ => ?_⟩
    have eZ : Ex H2 (upd H2 Zl (.lst [.int ((m : Int) + (r : Int) - 1), .int (r : Int), .int (m : Int)])) := Ex.new fZ
    have dZ : Dx (grow hp0 H2 (upd H2 Zl (.lst [.int ((m : Int) + (r : Int) - 1), .int (r : Int), .int (m : Int)]))) (.ref Zl) (.list [.int (z : Int), .int (r : Int), .int (m : Int)]) := by
      rw [show (z : Int) = (m : Int) + (r : Int) - 1 from by omega]
      exact .lst (grow_new fZ upd_same) (.cons (.int _) (.cons (.int _) (.cons (.int _) .nil)))
    have I3 := I2.growsE eZ
    have dZ3 : Dx (gro G2 H2 (upd H2 Zl (.lst [.int ((m : Int) + (r : Int) - 1), .int (r : Int), .int (m : Int)]))) (.ref Zl) (.list [.int (z : Int), .int (r : Int), .int (m : Int)]) := gro_new dZ
    have s3 := I2.sub (H' := upd H2 Zl (.lst [.int ((m : Int) + (r : Int) - 1), .int (r : Int), .int (m : Int)]))
    generalize gro G2 H2 (upd H2 Zl (.lst [.int ((m : Int) + (r : Int) - 1), .int (r : Int), .int (m : Int)])) = G3 at I3 dZ3 s3
    generalize upd H2 Zl (.lst [.int ((m : Int) + (r : Int) - 1), .int (r : Int), .int (m : Int)]) = H3 at I3 ⊢
    have dv3 := dv2.mono s3
    walk_at "tw"
    refine ⟨v1, .list (tr1.map tripD), rfl, dv3.mono I3.ex, dep_trs ts1.ok (by omega) (by omega) (by omega) (by omega), fun vc H4 e4 d4 => ?_⟩
    have I4 := I3.growsE e4
    have s4 := I3.sub (H' := H4)
    have d4' : Dx (gro G3 H3 H4) vc (.list (tr1.map tripD)) := gro_new d4
    generalize gro G3 H3 H4 = G4 at I4 s4 d4'
    walk_at "tw"
    intro x dx hx hdx ndx
    have e5 : Ex H4 (upd (upd H4 dx (.own x)) x (.ins (He.ga K "LeftRight") dx [])) := (Ex.new hdx).mut hx
    have k5 : upd (upd H4 dx (.own x)) x (.ins (He.ga K "LeftRight") dx []) x = some (.ins (He.ga K "LeftRight") dx []) := upd_same
    have I5 := I4.mono e5
    have G4x : G4 x = none := fresh_back I4.ex hx
    refine ⟨G4, x, g, dx, p, z, r, m, tr1, .ref Zl, vc, rfl, k5, I5.ex, G4x, (gg.ex s3).ex s4, dZ3.mono s4, d4', ts1.ok, by omega, by omega, by omega, by omega, fun H6 t l x6 k6 ht hl => ⟨rfl, ?_⟩⟩
    -- the program stands
    have xb : x ≠ b := fun z => by
      obtain ⟨o, ho⟩ := I4.bag.some
      rw [z, ho] at hx; cases hx
    have e46 : Ex H4 H6 := fun c o h => x6 _ _ (fun z => by rw [z, hx] at h; cases h) (e5 _ _ h)
    have I6 := I4.growsE e46
    have s6 := I4.sub (H' := H6)
    have lr : LrAt K (gro G4 H4 H6) x p z r m tr1 := by
      have sol : Ex (grow G4 (upd (upd H4 dx (.own x)) x (.ins (He.ga K "LeftRight") dx [])) H6) (grow G4 H4 H6) := fun c o h => by
        cases z5 : upd (upd H4 dx (.own x)) x (.ins (He.ga K "LeftRight") dx []) c with
        | none =>
          unfold grow at h
          rw [z5] at h
          exact grow_new (fresh_back e5 z5) h
        | some u =>
          rw [grow_old z5] at h
          exact grow_ex I4.ex _ _ h
      exact LrAt.strip ⟨g, t, l, ⟨dx, grow_new hx k6⟩, ((gg.ex s3).ex s4).ex (grow_ex I4.ex), sol _ _ ht, hl.mono sol⟩
    have dv6 := (dv3.mono s4).mono s6
    have sG6 : Ex G (gro G4 H4 H6) := ((((eG1.trans s2).trans s3).trans s4).trans s6)
    generalize gro G4 H4 H6 = G6 at I6 s6 lr dv6 sG6
    clear k5 e5 I5 x6 k6 ht hl hx hdx ndx
    walk_at "tw"
    refine (.inl ⟨G6, x, p, m, r, m, r, z, bu + 15 * i, bw + 15 * i, tr1, rfl, I6.ex, I6.nt, I6.tb, lr, hp, ez, m1, r1, by omega, by omega, ts1, bits1, by omega, by omega, fun z => absurd z (by simp), fun _ _ res hr u H7 x7 t7 d7 => ?_⟩)
    have I7 := I6.tabs x7 t7
    walk_at "tw"
    refine ⟨p, tr1, v1, m, r, z, bu + 15 * i, bw + 15 * i, rfl, ez, m1, r1, by omega, by omega, p0, by omega, ts1.ok, ts1.bits, bits1, by omega, by omega, dv6.mono I7.ex, fun res2 hr2 w H8 e8 d8 => ?_⟩
    have er := hr.uniq hr2
    subst er
    have I8 := I7.mono e8
    walk_at "tw"
    refine ⟨by show 2 ≤ sizeLine; decide, fun T2 fT2 => ?_⟩
    have e9 : Ex H8 (upd H8 T2 (.lst [.str "told", w])) := Ex.new fT2
    refine ⟨u, .ref T2, toldD (optD res), rfl, (d7.mono e8).mono e9, .lst upd_same (.cons (.str _) (.cons ((d8.mono (grow_in (ex0 _))).mono e9) .nil)), dep_opt res, fun H9 e10 => ?_⟩
    have I9 := (I8.mono e9).mono e10
    walk_at "tw"
    -- other lengths
    refine ⟨by show 2 ≤ sizeLine; decide, fun P1 f1 => ?_⟩
    have g1 : Ex H9 (upd H9 P1 (.tup [.int ((m : Int) + 1), .int (r : Int)])) := Ex.new f1
    walk_at "tw"
    refine ⟨by show 2 ≤ sizeLine; decide, fun P2 f2 => ?_⟩
    have g2 := g1.trans (Ex.new (o := .tup [.int (m : Int), .int ((r : Int) + 1)]) f2)
    have q1 : PrD m r (upd (upd H9 P1 (.tup [.int ((m : Int) + 1), .int (r : Int)])) P2 (.tup [.int (m : Int), .int ((r : Int) + 1)])) (.ref P1) := ⟨P1, _, _, rfl, (Ex.new f2) _ _ upd_same, .inl (by omega)⟩
    have q2 : PrD m r (upd (upd H9 P1 (.tup [.int ((m : Int) + 1), .int (r : Int)])) P2 (.tup [.int (m : Int), .int ((r : Int) + 1)])) (.ref P2) := ⟨P2, _, _, rfl, upd_same, .inr (by omega)⟩
    generalize upd (upd H9 P1 (.tup [.int ((m : Int) + 1), .int (r : Int)])) P2 (.tup [.int (m : Int), .int ((r : Int) + 1)]) = H10 at g2 q1 q2 ⊢
    walk_at "tw"
    refine c_iteV (fun v H' => Ex H10 H' ∧ PrD m r H' v) (fun v3 H11 hv3 => ?_) (fun hc Q2 k => ?_) (fun hc Q2 k => ?_)
    rotate_left
    · walk_at "tw"
      refine ⟨by show 2 ≤ sizeLine; decide, fun P3 f3 => k _ _ ⟨Ex.new f3, P3, _, _, rfl, upd_same, .inl (by omega)⟩⟩
    · walk_at "tw"
      refine ⟨by show 2 ≤ sizeLine; decide, fun P3 f3 => k _ _ ⟨Ex.new f3, P3, _, _, rfl, upd_same, .inl (by omega)⟩⟩
    obtain ⟨g3, q3⟩ := hv3
    walk_at "tw"
    refine ⟨by show 3 ≤ sizeLine; decide, fun Lm fm => ?_⟩
    have gm : Ex H11 (upd H11 Lm (.lst [.ref P1, .ref P2, v3])) := Ex.new fm
    have g9m := (g2.trans g3).trans gm
    have I10 := I9.mono g9m
    have allq : ∀ (j : Nat) (v : V), ([.ref P1, .ref P2, v3] : List V)[j]? = some v → PrD m r (upd H11 Lm (.lst [.ref P1, .ref P2, v3])) v := fun j v hj => by
      match j, hj with
      | 0, hj => cases hj; exact q1.ex (g3.trans gm)
      | 1, hj => cases hj; exact q2.ex (g3.trans gm)
      | 2, hj => cases hj; exact q3.ex gm
      | n + 3, hj => cases hj
    have Lmb : Lm ≠ b := fun z => by
      obtain ⟨o, ho⟩ := (I9.mono (g2.trans g3)).bag.some
      rw [z, ho] at fm; cases fm
    refine ⟨b, L, Lm, _, rfl, I10.bag, Lmb, upd_same, by show 0 < 3; decide, by show 3 < 1000000; decide, fun j pv H13 hj x13 hb13 => ?_⟩
    obtain ⟨T, M, R, rfl, hT, hne⟩ := allq j pv hj
    have Tb : T ≠ b := fun z => by
      obtain ⟨cs, i, gg', mm, cc, nn, k1, _⟩ := I10.bag
      rw [z, k1] at hT; cases hT
    have I13 := I10.draw x13 hb13
    have hT13 := x13 _ _ Tb hT
    clear allq q1 q2 q3 g1 g2 g3 gm g9m hT I9 I8 I7 d7 d8 e8 e9 e10 f1 f2 fm hj x13 t7 x7
    with_reducible refine c_name ?_
    with_reducible refine c_seq ?_
    with_reducible refine c_ifS ?_
    with_reducible refine c_not ?_
    with_reducible refine c_B ?_
    with_reducible refine c_call ?_
    with_reducible refine c_cons ?_
    with_reducible refine c_call ?_
    with_reducible refine c_cons ?_
    with_reducible refine c_c ?_
    with_reducible refine c_cons ?_
    refine c_var (by exact rfl) ?_
    with_reducible refine c_cons ?_
    with_reducible refine c_op ?_
    refine c_var (by exact rfl) ?_
    with_reducible refine c_c ?_
    refine c_ixT (SqT.of hT13) rfl ?_
    with_reducible refine c_cons ?_
    with_reducible refine c_op ?_
    refine c_var (by exact rfl) ?_
    with_reducible refine c_c ?_
    refine c_ixT (SqT.of hT13) rfl ?_
    with_reducible refine c_cons ?_
    refine c_var (by exact rfl) ?_
    with_reducible refine c_nil ?_
    refine (.inl ⟨G6, x, p, M, R, m, r, z, bu + 15 * i, bw + 15 * i, tr1, rfl, I13.ex, I13.nt, I13.tb, lr, hp, ez, m1, r1, by omega, by omega, ts1, bits1, by omega, by omega, fun _ uv H14 e14 d14 => ?_, fun a b' => absurd hne (by rw [a, b']; simp)⟩)
    have I14 := I13.mono e14
    walk_at "tw"
    refine ⟨by show 1 ≤ sizeLine; decide, fun S1 fS => ?_⟩
    have e15 : Ex H14 (upd H14 S1 (.lst [.str "sizes"])) := Ex.new fS
    refine ⟨_, "Unlike", _, .list [.str "sizes"], rfl, Ex.refl _, .lst upd_same (.cons (.str _) .nil), by decide +kernel, by decide +kernel, fun dvv H16 e16 d16 => ?_⟩
    refine ⟨uv, dvv, faultD "Unlike" [.str "sizes"], rfl, (d14.mono (grow_in (ex0 _))).mono (e15.trans e16), d16.mono (grow_in (Ex.refl _ |>.trans e16)), dep_fault flt_ul, fun H17 e17 => ?_⟩
    have I17 := I14.mono ((e15.trans e16).trans e17)
    walk_at "tw"
    refine ⟨by show 0 ≤ sizeLine; decide, fun S2 fS2 => ?_⟩
    have e18 : Ex H17 (upd H17 S2 (.lst [])) := Ex.new fS2
    have I18 := I17.mono e18
    refine c_eqEmpty (dv6.mono I18.ex) upd_same ?_
    walk_at "tw"
    refine c_ite (fun hem => ?_) (fun hem => ?_)
    · walk_at "tw"
      exact q G6 _ I18 sG6
    · have ne : tr1 ≠ [] := of_decide_eq_false hem
      walk_at "tw"
      refine ⟨b, L, G6, p, z, r, m, bu + 15 * i, bw + 15 * i, tr1, v1, rfl, I18.bag, I18.ex, I18.nb, hp, dv6, ts1, ?_, by omega, by omega, by omega, by omega, by omega, by omega, by omega, by omega, by omega, fun tr' l' H19 x19 hb19 ts' lt' hl' d19 => ?_⟩
      · cases tr1 with
        | nil => exact absurd rfl ne
        | cons _ _ => simp
      have I19 := I18.grows x19 hb19
      refine ⟨gro G6 _ H19, .ref l', tr', _, _, _, rfl, I19, sG6.trans I18.sub, gro_in d19, ?_, by omega⟩
      rw [Nat.mul_add, ← Nat.add_assoc, ← Nat.add_assoc]
      exact ts'
  · rintro σ' H1 ⟨G1, v1, tr1, o5, o6, o7, rfl, I1, eG1, dv1, ts1, l1⟩
    walk_at "tw"
    exact q G1 H1 I1 eG1
end TwW
namespace TwW
open Tw PySem PySem.Spec PyProof.Rows L2 Evl RZ LamX
/-! ### _law_refused -/
theorem solT {G H H' : Hp} {T : Addr} {o : HO} (h : H T = none) (h' : H' T = some o) (n : ∀ ps, o ≠ .tbl ps) : gro G H H' T = some o := strip_some (grow_new h h') n
def AskF (K : PySem.W.Frag) (p M R : Int) (sp : V) (C : Str) (ds : List PyData) (G : Hp) : Prop := ∀ (H : Hp) (Q : VK), Ex G H → RetN (faultD C ds) H Q → sp__law_asked K [.str "window", .int p, .int M, .int R, sp] H Q E0
def RowF (K : PySem.W.Frag) (p : Int) (G : Hp) (v : V) : Prop := ∃ (T : Addr) (M R : Int) (sp du : V) (C : Str) (fs : List (Str × V)) (ds : List PyData), v = .ref T ∧ G T = some (.tup [.int M, .int R, sp, du]) ∧ Flt C fs ds ∧ Dx G du (faultD C ds) ∧ AskF K p M R sp C ds G
theorem RowF.ex {K : PySem.W.Frag} {p : Int} {G G' : Hp} {v : V} (h : RowF K p G v) (e : Ex G G') : RowF K p G' v := by
  obtain ⟨T, M, R, sp, du, C, fs, ds, h1, h2, h3, h4, h5⟩ := h
  exact ⟨T, M, R, sp, du, C, fs, ds, h1, e _ _ h2, h3, h4.mono e, fun H Q eH q => h5 H Q (e.trans eH) q⟩
structure RowsI (K : PySem.W.Frag) (p : Int) (b L Rw : Addr) (vs : List V) (G H : Hp) : Prop where
  I : LawW K b L G H
  off : Rw ≠ b ∧ Rw ≠ L
  out : G Rw = none
  at_ : H Rw = some (.lst vs)
  rows : ∀ v ∈ vs, RowF K p G v
section
variable {K : PySem.W.Frag} {p : Int} {b L Rw : Addr} {vs : List V} {G H H' : Hp}
theorem RowsI.draw (I : RowsI K p b L Rw vs G H) (x : ExB b H H') (hb : BagAt b L H') : RowsI K p b L Rw vs G H' := ⟨I.I.draw x hb, I.off, I.out, x _ _ I.off.1 I.at_, I.rows⟩
theorem RowsI.mono (I : RowsI K p b L Rw vs G H) (e : Ex H H') : RowsI K p b L Rw vs G H' := I.draw (ExB.of e) (I.I.bag.ex e)
theorem RowsI.grows (I : RowsI K p b L Rw vs G H) (e : Ex H H') : RowsI K p b L Rw vs (gro G H H') H' := by
  refine ⟨I.I.growsE e, I.off, ?_, e _ _ I.at_, fun v hv => (I.rows v hv).ex I.I.sub⟩
  cases z : gro G H H' Rw with
  | none => rfl
  | some u =>
    have h2 := strip_ex _ _ _ z
    rw [grow_old I.at_, I.out] at h2
    cases h2
theorem RowsI.push (I : RowsI K p b L Rw vs G H) {v : V} (hv : RowF K p G v) : RowsI K p b L Rw (vs ++ [v]) G (upd H Rw (.lst (vs ++ [v]))) :=
  ⟨I.I.setL I.at_ I.off I.out _, I.off, I.out, upd_same, fun w hw => (List.mem_append.mp hw).elim (I.rows w) fun h => by rw [List.mem_singleton.mp h]; exact hv⟩
end
section
variable {K : PySem.W.Frag} {p : Int} {G : Hp}
theorem ask_tm1 (hp : PrN p) {M R : Nat} {v : V} (h6 : 6 < M) (hR : 1 ≤ R) (M100 : M ≤ 100) (R100 : R ≤ 100) (hv : v = .non ∨ ∃ pts, Dx G v (ptsD pts) ∧ pts.length ≤ 1000) : AskF K p M R v "TooMany" [.str "window", .int (M : Int)] G := fun H Q eG q => by
  rcases hv with rfl | ⟨pts, dv, l⟩
  · exact .inr (.inl ⟨G, p, M, R, "window", rfl, .inr rfl, eG, hp, by omega, hR, M100, R100, fun _ => q, fun z => absurd z (by omega), fun z => absurd z (by omega)⟩)
  · exact .inr (.inr ⟨G, p, M, R, v, pts, rfl, eG, hp, by omega, hR, M100, R100, dv, l, fun _ => q, fun z => absurd z (by omega), fun z => absurd z (by omega)⟩)
theorem ask_tm2 (hp : PrN p) {M R : Nat} {v : V} (hM : 1 ≤ M) (M6 : M ≤ 6) (h6 : 6 < R) (R100 : R ≤ 100) {pts : List (Option Nu)} (dv : Dx G v (ptsD pts)) (l : pts.length ≤ 1000) : AskF K p M R v "TooMany" [.str "window", .int (R : Int)] G := fun H Q eG q =>
  .inr (.inr ⟨G, p, M, R, v, pts, rfl, eG, hp, hM, by omega, by omega, R100, dv, l, fun z => absurd z (by omega), fun _ _ => q, fun _ z => absurd z (by omega)⟩)
theorem ask_bn (hp : PrN p) {M R : Nat} {v : V} (hM : 1 ≤ M) (M6 : M ≤ 6) (hR : 1 ≤ R) (R6 : R ≤ 6) {pts : List (Option Nu)} (dv : Dx G v (ptsD pts)) (l : pts.length ≤ 1000) (ne : pts.length ≠ M + R - 1) : AskF K p M R v "BadPoints" [.str "number"] G := fun H Q eG q =>
  .inr (.inr ⟨G, p, M, R, v, pts, rfl, eG, hp, hM, hR, by omega, by omega, dv, l, fun z => absurd z (by omega), fun _ z => absurd z (by omega), fun _ _ => ⟨fun _ => q, fun z => absurd z ne, fun z => absurd z ne⟩⟩)
theorem ask_ba (hp : PrN p) {M R : Nat} {v : V} (hM : 1 ≤ M) (M6 : M ≤ 6) (hR : 1 ≤ R) (R6 : R ≤ 6) {pts : List (Option Nu)} (dv : Dx G v (ptsD pts)) (l : pts.length = M + R - 1) (al : alikeB pts = true) : AskF K p M R v "BadPoints" [.str "alike"] G := fun H Q eG q =>
  .inr (.inr ⟨G, p, M, R, v, pts, rfl, eG, hp, hM, hR, by omega, by omega, dv, by omega, fun z => absurd z (by omega), fun _ z => absurd z (by omega), fun _ _ => ⟨fun z => absurd l z, fun _ _ => q, fun _ z => by rw [al] at z; cases z⟩⟩)
end
def sp__law_refused (K : PySem.W.Frag) : Sp := fun vs H Q _ => ∃ (b L : Addr) (G : Hp) (p : Int) (m r : Nat), vs = [.ref b, .int p, .int (m : Int), .int (r : Int)] ∧ LawW K b L G H ∧ PrN p ∧ 1 ≤ m ∧ 1 ≤ r ∧ m ≤ 6 ∧ r ≤ 6 ∧ ∀ G' H', LawW K b L G' H' → Ex G G' → Q (.bl true) H'
def t_f_law_refused (K : PySem.W.Frag) : TS :=
    (tSeq (tPar 4 5 (tCons (tOp uSub (tOp (uAdd K) (tVar 2) (tVar 3)) (tC (.int 1))) (tCons (tOp (uAdd K) (tC (.int 7)) (tCall sp__law_draw [] E0 (tCons (tVar 0) (tCons (tC (.int 9)) tNil)))) tNil)))
    (tSeq (tAsg (tIf (tOr (tTest (tOp (uEq K) (tVar 1) (tC (.int 0)))) (tTest (tOp (uLe K) (tVar 4) (tOp (uAdd K) (tVar 1) (tC (.int 1)))))) (tCall sp__law_points [] E0 (tCons (tVar 0) (tCons (tVar 1) (tCons (tVar 4) tNil)))) (tOp (uMul K) (tLst (tCons (tC (.str "far")) tNil)) (tVar 4))) (gName 6))
    (tSeq (tAsg (tLst (tCons (tTup (tCons (tVar 5) (tCons (tVar 3) (tCons (tC .non) (tCons (tCall sp__law_due [] E0 (tCons (tC (.str "TooMany")) (tCons (tLst (tCons (tC (.str "window")) (tCons (tVar 5) tNil))) tNil))) tNil))))) (tCons (tTup (tCons (tVar 2) (tCons (tVar 5) (tCons (tCB (uList K) (tCons (tVar 6) tNil)) (tCons (tCall sp__law_due [] E0 (tCons (tC (.str "TooMany")) (tCons (tLst (tCons (tC (.str "window")) (tCons (tVar 5) tNil))) tNil))) tNil))))) tNil))) (gName 7))
    (tSeq (tDrop (tBM K "list" rAppend (tVar 7) (tCons (tTup (tCons (tVar 5) (tCons (tOp (uAdd K) (tVar 5) (tC (.int 1))) (tCons (tLst tNil) (tCons (tCall sp__law_due [] E0 (tCons (tC (.str "TooMany")) (tCons (tLst (tCons (tC (.str "window")) (tCons (tVar 5) tNil))) tNil))) tNil))))) tNil)))
    (tSeq (tDrop (tBM K "list" rAppend (tVar 7) (tCons (tTup (tCons (tVar 2) (tCons (tVar 3) (tCons (tSl (uSl K) (tVar 6) (tPart (tC (.int 1))) tNoPart) (tCons (tCall sp__law_due [] E0 (tCons (tC (.str "BadPoints")) (tCons (tLst (tCons (tC (.str "number")) tNil)) tNil))) tNil))))) tNil)))
    (tSeq (tDrop (tBM K "list" rAppend (tVar 7) (tCons (tTup (tCons (tVar 2) (tCons (tVar 3) (tCons (tOp (uAdd K) (tVar 6) (tLst (tCons (tCall sp__law_pick [] E0 (tCons (tVar 0) (tCons (tVar 6) tNil))) tNil))) (tCons (tCall sp__law_due [] E0 (tCons (tC (.str "BadPoints")) (tCons (tLst (tCons (tC (.str "number")) tNil)) tNil))) tNil))))) tNil)))
    (tCut (tIfS (tTest (tOp (uGt K) (tVar 4) (tC (.int 1)))) (tSeq (tAsg (tCall sp__law_draw [] E0 (tCons (tVar 0) (tCons (tVar 4) tNil))) (gName 8))
    (tSeq (tAsg (tOp uMod (tCB (uInt) (tCons (tOp (uAdd K) (tOp (uAdd K) (tVar 8) (tC (.int 1))) (tCall sp__law_draw [] E0 (tCons (tVar 0) (tCons (tOp uSub (tVar 4) (tC (.int 1))) tNil)))) tNil)) (tVar 4)) (gName 9))
    (tSeq (tAsg (tCB (uList K) (tCons (tVar 6) tNil)) (gName 10))
    (tSeq (tAsg (tOp (uIx K) (tVar 10) (tVar 9)) (gSub (tVar 10) (tVar 8) rSetL))
    (tDrop (tBM K "list" rAppend (tVar 7) (tCons (tTup (tCons (tVar 2) (tCons (tVar 3) (tCons (tVar 10) (tCons (tCall sp__law_due [] E0 (tCons (tC (.str "BadPoints")) (tCons (tLst (tCons (tC (.str "alike")) tNil)) tNil))) tNil))))) tNil))))))) tNext)
    (tSeq (tFor (iSeq K (tVar 7)) (gName 11) (tIfS (tNot (tB (tCall sp__law_same [] E0 (tCons (tCall (sp__law_asked K) [] E0 (tCons (tC (.str "window")) (tCons (tVar 1) (tCons (tOp (uIx K) (tVar 11) (tC (.int 0))) (tCons (tOp (uIx K) (tVar 11) (tC (.int 1))) (tCons (tOp (uIx K) (tVar 11) (tC (.int 2))) tNil)))))) (tCons (tOp (uIx K) (tVar 11) (tC (.int 3))) tNil))))) (tRet (tC (.bl false))) tNext))
    (tRet (tC (.bl true)))))))))))
theorem pure_refused (K : PySem.W.Frag) (vs : List V) (H : Hp) (Q : VK) (E : XK) (h : sp__law_refused K vs H Q E) : t_f_law_refused K { nx := fun _ H' => Q .non H', rt := Q } (start ["bag", "p", "many", "wide", "z", "beyond", "spread", "rows", "i", "j", "alike", "row"] vs) H := by
  obtain ⟨b, L, G, p, m, r, rfl, I, hp, m1, r1, m6, r6, q⟩ := h
  have p0 := hp.nonneg
  have p31 := prN_32 hp
  unfold t_f_law_refused
  walk_at "tw"
  refine ⟨b, L, 9, rfl, I.bag, by decide, by decide, fun d H1 x1 hb1 d0 d9 => ?_⟩
  have I1 := I.draw x1 hb1
  obtain ⟨be, hbe⟩ : ∃ n : Nat, 7 + d = (n : Int) := ⟨(7 + d).toNat, by omega⟩
  obtain ⟨z, hz⟩ : ∃ n : Nat, (m : Int) + (r : Int) - 1 = (n : Int) := ⟨m + r - 1, by omega⟩
  walk_at "tw1"
  walk_at "tw1"
  walk_at "tw1"
  rw [hz, hbe]
  with_reducible refine c_seq ?_
  with_reducible refine c_asg ?_
  refine c_pre1 (fun v H' => ∃ (G' : Hp) (pts : List (Option Nu)) (l : Addr), v = .ref l ∧ LawW K b L G' H' ∧ Ex G G' ∧ Dx G' (.ref l) (ptsD pts) ∧ pts.length = z) (fun v H2 hv => ?_) (fun Q2 k => ?_)
  rotate_left
  · have go : (p = 0 ∨ (z : Int) ≤ p + 1) → ∀ σ : L2.St, sp__law_points [.ref b, .int p, .int (z : Int)] H1 Q2 E0 := fun hc _ => ⟨b, L, p, z, rfl, I1.bag, hp, by omega, by omega, hc, fun pts l H2 x2 hb2 nd lp ok hl dl => k _ _ ⟨gro G H1 H2, pts, l, rfl, I1.grows x2 hb2, I1.sub, gro_new dl, lp⟩⟩
    by_cases c1 : p = 0
    · walk_at "tw"
      exact go (.inl c1) []
    · by_cases c2 : (z : Int) ≤ p + 1
      · walk_at "tw"
        exact go (.inr c2) []
      · walk_at "tw"
        refine ⟨by show 1 ≤ sizeLine; decide, fun l1 f1 => ?_⟩
        walk_at "tw"
        refine c_rep upd_same (by omega) fun l2 f2 => ?_
        have e2 := (Ex.new (o := .lst [V.str "far"]) f1).trans (Ex.new (o := .lst (List.replicate z (V.str "far"))) f2)
        refine k _ _ ⟨gro G H1 _, List.replicate z none, l2, rfl, I1.growsE e2, I1.sub, gro_new (.lst (grow_new (fresh_back (Ex.new f1) f2) upd_same) ?_), by simp⟩
        rw [List.map_replicate]
        exact DxA.rep (.str "far") z
  · obtain ⟨G2, pts, l, rfl, I2, s2, dl, lp⟩ := hv
    obtain ⟨_, us, el, hl, ru, lu⟩ := dl.lst_map
    cases el
    have hl2 := I2.ex _ _ hl
    walk_at "tw"
    refine ⟨by show 2 ≤ sizeLine; decide, fun W1 fW1 => ?_⟩
    refine due_go (Ex.refl H2) fW1 due_ok1 (dx_wi be) fun u1 H3 e3 d3 => ?_
    walk_at "tw"
    refine ⟨by show 4 ≤ sizeLine; decide, fun T1 fT1 => ?_⟩
    have e4 := e3.trans (Ex.new (o := .tup [.int (be : Int), .int (r : Int), .non, u1]) fT1)
    walk_at "tw"
    refine c_listL (SqL.of (e4 _ _ hl2)) fun A1 fA1 => ?_
    have e5 := e4.trans (Ex.new (o := .lst us) fA1)
    walk_at "tw"
    refine ⟨by show 2 ≤ sizeLine; decide, fun W2 fW2 => ?_⟩
    refine due_go e5 fW2 due_ok1 (dx_wi be) fun u2 H7 e7 d7 => ?_
    have e27 := e5.trans e7
    walk_at "tw"
    refine ⟨by show 4 ≤ sizeLine; decide, fun T2 fT2 => ?_⟩
    have e8 : Ex H7 (upd H7 T2 (.tup [.int (m : Int), .int (be : Int), .ref A1, u2])) := Ex.new fT2
    have e28 := e27.trans e8
    have I8 := I2.growsE e28
    have s8 := I2.sub (H' := upd H7 T2 (.tup [.int (m : Int), .int (be : Int), .ref A1, u2]))
    have row1 : RowF K p (gro G2 H2 (upd H7 T2 (.tup [.int (m : Int), .int (be : Int), .ref A1, u2]))) (.ref T1) := by
      refine ⟨T1, be, r, .non, u1, "TooMany", _, [.str "window", .int (be : Int)], rfl, solT (fresh_back e3 fT1) (e8 _ _ (e7 _ _ ((Ex.new fA1) _ _ upd_same))) (fun _ z => nomatch z), .tm be, gro_new (d3.mono (grow_mono (ex0 _) (((Ex.new fT1).trans (Ex.new fA1)).trans (e7.trans e8)))), ask_tm1 hp (by omega) r1 (by omega) (by omega) (.inl rfl)⟩
    have row2 : RowF K p (gro G2 H2 (upd H7 T2 (.tup [.int (m : Int), .int (be : Int), .ref A1, u2]))) (.ref T2) := by
      refine ⟨T2, m, be, .ref A1, u2, "TooMany", _, [.str "window", .int (be : Int)], rfl, solT (fresh_back e27 fT2) upd_same (fun _ z => nomatch z), .tm be, gro_new (d7.mono (grow_mono (ex0 _) e8)), ask_tm2 hp m1 m6 (by omega) (by omega) (pts := pts) (gro_in (.lst (grow_new (fresh_back e4 fA1) (e8 _ _ (e7 _ _ upd_same))) (ru.mono (grow_ex I2.ex)))) (by omega)⟩
    have dl8 := dl.mono s8
    have sG8 := s2.trans s8
    generalize gro G2 H2 (upd H7 T2 (.tup [.int (m : Int), .int (be : Int), .ref A1, u2])) = G8 at I8 s8 row1 row2 dl8 sG8
    generalize upd H7 T2 (.tup [.int (m : Int), .int (be : Int), .ref A1, u2]) = H8 at I8 ⊢
    clear e8 e28 e27 e7 d7 fT2 e5 fA1 e4 fT1 d3 e3 fW1 fW2
    walk_at "tw"
    refine ⟨by show 2 ≤ sizeLine; decide, fun Rw fR => ?_⟩
    have off := BagAt.off I8.bag I8.bag fR
    have R0 : RowsI K p b L Rw [.ref T1, .ref T2] G8 (upd H8 Rw (.lst [.ref T1, .ref T2])) := ⟨I8.mono (Ex.new fR), off, fresh_back I8.ex fR, upd_same, fun v hv => by
      (rcases List.mem_cons.mp hv with rfl | hv)
      · exact row1
      (rcases List.mem_cons.mp hv with rfl | hv)
      · exact row2
      · cases hv⟩
    generalize upd H8 Rw (.lst [.ref T1, .ref T2]) = H9 at R0 ⊢
    clear I8 I2 I1 I row1 row2 fR
    -- the third
    have hR9 := R0.at_
    walk_at "tw"
    refine ⟨c_tyL hR9, ?_⟩
    walk_at "tw"
    refine ⟨by show 0 ≤ sizeLine; decide, fun E1 fE1 => ?_⟩
    have e1 : Ex H9 (upd H9 E1 (.lst [])) := Ex.new fE1
    walk_at "tw"
    refine ⟨by show 2 ≤ sizeLine; decide, fun W3 fW3 => ?_⟩
    refine due_go e1 fW3 due_ok1 (dx_wi be) fun u3 H10 e10 d10 => ?_
    have e910 := e1.trans e10
    walk_at "tw"
    refine ⟨by show 4 ≤ sizeLine; decide, fun T3 fT3 => ?_⟩
    have e11 : Ex H10 (upd H10 T3 (.tup [.int (be : Int), .int ((be : Int) + 1), .ref E1, u3])) := Ex.new fT3
    have e911 := e910.trans e11
    have R1 := R0.grows e911
    have s1 := R0.I.sub (H' := upd H10 T3 (.tup [.int (be : Int), .int ((be : Int) + 1), .ref E1, u3]))
    have row3 : RowF K p (gro G8 H9 (upd H10 T3 (.tup [.int (be : Int), .int ((be : Int) + 1), .ref E1, u3]))) (.ref T3) := by
      refine ⟨T3, be, (be : Int) + 1, .ref E1, u3, "TooMany", _, [.str "window", .int (be : Int)], rfl, solT (fresh_back e910 fT3) upd_same (fun _ z => nomatch z), .tm be, gro_new (d10.mono (grow_mono (ex0 _) e11)), ?_⟩
      rw [show (be : Int) + 1 = ((be + 1 : Nat) : Int) from by omega]
      exact ask_tm1 hp (by omega) (by omega) (by omega) (by omega) (.inr ⟨[], gro_in (.lst (grow_new fE1 (e11 _ _ (e10 _ _ upd_same))) .nil), by simp⟩)
    have R2 := R1.push row3
    have dl9 := dl8.mono s1
    have sG9 := sG8.trans s1
    have hR11 := R1.at_
    walk_at "tw"
    refine c_app hR11 (by show 2 < sizeLine; decide) ?_
    generalize gro G8 H9 (upd H10 T3 (.tup [.int (be : Int), .int ((be : Int) + 1), .ref E1, u3])) = G11 at R2 dl9 sG9
    generalize upd (upd H10 T3 (.tup [.int (be : Int), .int ((be : Int) + 1), .ref E1, u3])) Rw (.lst ([.ref T1, .ref T2] ++ [.ref T3])) = H12 at R2 ⊢
    clear R1 R0 row3 hR11 hR9 e1 e10 e11 e910 e911 fE1 fT3 fW3 d10 dl8 s1
    -- the fourth
    have hR12 := R2.at_
    obtain ⟨_, us2, el, hl11, ru2, lu2⟩ := dl9.lst_map
    cases el
    have hl12 := R2.I.ex _ _ hl11
    walk_at "tw"
    refine ⟨c_tyL hR12, ?_⟩
    walk_at "tw"
    refine c_slL (SqL.of hl12) fun E1 fE1 => ?_
    have ec : cutV us2 (some 1) none = us2.drop 1 := by
      unfold cutV
      rw [show (1 : Int) = ((1 : Nat) : Int) from rfl, HT.sIx_nat, Nat.min_eq_left (by omega)]
      show (us2.drop 1).take (us2.length - 1) = _
      rw [← List.length_drop, List.take_length]
    rw [ec]
    have e1 : Ex H12 (upd H12 E1 (.lst (us2.drop 1))) := Ex.new fE1
    walk_at "tw"
    refine ⟨by show 1 ≤ sizeLine; decide, fun W4 fW4 => ?_⟩
    refine due_go e1 fW4 due_ok2 (dx_s1 "number") fun u4 H13 e13 d13 => ?_
    have e1213 := e1.trans e13
    walk_at "tw"
    refine ⟨by show 4 ≤ sizeLine; decide, fun T4 fT4 => ?_⟩
    have e14 : Ex H13 (upd H13 T4 (.tup [.int (m : Int), .int (r : Int), .ref E1, u4])) := Ex.new fT4
    have e1214 := e1213.trans e14
    have R3 := R2.grows e1214
    have s3 := R2.I.sub (H' := upd H13 T4 (.tup [.int (m : Int), .int (r : Int), .ref E1, u4]))
    have row4 : RowF K p (gro G11 H12 (upd H13 T4 (.tup [.int (m : Int), .int (r : Int), .ref E1, u4]))) (.ref T4) := by
      refine ⟨T4, m, r, .ref E1, u4, "BadPoints", _, [.str "number"], rfl, solT (fresh_back e1213 fT4) upd_same (fun _ z => nomatch z), .bp "number", gro_new (d13.mono (grow_mono (ex0 _) e14)), ask_bn hp m1 m6 r1 r6 (pts := pts.drop 1) (gro_in (.lst (grow_new fE1 (e14 _ _ (e13 _ _ upd_same))) ?_)) (by rw [List.length_drop]; omega) (by rw [List.length_drop]; omega)⟩
      rw [List.map_drop]
      exact (ru2.drop 1).mono (grow_ex R2.I.ex)
    have R4 := R3.push row4
    have dl14 := dl9.mono s3
    have sG14 := sG9.trans s3
    have hR14 := R3.at_
    walk_at "tw"
    refine c_app hR14 (by show 3 < sizeLine; decide) ?_
    generalize gro G11 H12 (upd H13 T4 (.tup [.int (m : Int), .int (r : Int), .ref E1, u4])) = G14 at R4 dl14 sG14
    generalize upd (upd H13 T4 (.tup [.int (m : Int), .int (r : Int), .ref E1, u4])) Rw (.lst (([.ref T1, .ref T2] ++ [.ref T3]) ++ [.ref T4])) = H15 at R4 ⊢
    clear R3 R2 row4 hR14 hR12 e1 e13 e14 e1213 e1214 fE1 fT4 fW4 d13 dl9 s3 ru2 lu2 hl11 hl12 ec
    -- the fifth
    have hR15 := R4.at_
    obtain ⟨_, us3, el, hl14, ru3, lu3⟩ := dl14.lst_map
    cases el
    have hl15 := R4.I.ex _ _ hl14
    have lb : l ≠ b := fun z => by rw [z, R4.I.nb] at hl14; cases hl14
    walk_at "tw"
    refine ⟨c_tyL hR15, ?_⟩
    walk_at "tw"
    refine ⟨b, L, l, us3, rfl, R4.I.bag, lb, hl15, by omega, by omega, fun jx pv H16 hjx x16 hb16 => ?_⟩
    obtain ⟨qx, eqx, mqx, dqx⟩ := ru3.map_get hjx
    have R5 := R4.draw x16 hb16
    have hl16 := R5.I.ex _ _ hl14
    walk_at "tw"
    refine ⟨by show 1 ≤ sizeLine; decide, fun E0' fE0 => ?_⟩
    refine c_catL ((Ex.new fE0) _ _ hl16) upd_same (Nat.le_trans (m := 100) (by simp; omega) (by decide)) fun E1 fE1 => ?_
    have e1 := (Ex.new (o := .lst [pv]) fE0).trans (Ex.new (o := .lst (us3 ++ [pv])) fE1)
    walk_at "tw"
    refine ⟨by show 1 ≤ sizeLine; decide, fun W4 fW4 => ?_⟩
    refine due_go e1 fW4 due_ok2 (dx_s1 "number") fun u4 H17 e13 d13 => ?_
    have e1213 := e1.trans e13
    walk_at "tw"
    refine ⟨by show 4 ≤ sizeLine; decide, fun T5 fT4 => ?_⟩
    have e14 : Ex H17 (upd H17 T5 (.tup [.int (m : Int), .int (r : Int), .ref E1, u4])) := Ex.new fT4
    have e1214 := e1213.trans e14
    have R6 := R5.grows e1214
    have s3 := R5.I.sub (H' := upd H17 T5 (.tup [.int (m : Int), .int (r : Int), .ref E1, u4]))
    have row4 : RowF K p (gro G14 H16 (upd H17 T5 (.tup [.int (m : Int), .int (r : Int), .ref E1, u4]))) (.ref T5) := by
      refine ⟨T5, m, r, .ref E1, u4, "BadPoints", _, [.str "number"], rfl, solT (fresh_back e1213 fT4) upd_same (fun _ z => nomatch z), .bp "number", gro_new (d13.mono (grow_mono (ex0 _) e14)), ask_bn hp m1 m6 r1 r6 (pts := pts ++ [qx]) (gro_in (.lst (grow_new (fresh_back (Ex.new fE0) fE1) (e14 _ _ (e13 _ _ upd_same))) ?_)) (by rw [List.length_append]; show pts.length + 1 ≤ 1000; omega) (by rw [List.length_append]; show ¬ pts.length + 1 = m + r - 1; omega)⟩
      rw [List.map_append]
      exact (ru3.mono (grow_ex R5.I.ex)).append (.cons (dqx.mono (grow_ex R5.I.ex)) .nil)
    have R7 := R6.push row4
    have dl18 := dl14.mono s3
    have sG18 := sG14.trans s3
    have hR17 := R6.at_
    walk_at "tw"
    refine c_app hR17 (by show 4 < sizeLine; decide) ?_
    generalize gro G14 H16 (upd H17 T5 (.tup [.int (m : Int), .int (r : Int), .ref E1, u4])) = G18 at R7 dl18 sG18
    generalize upd (upd H17 T5 (.tup [.int (m : Int), .int (r : Int), .ref E1, u4])) Rw (.lst ((([.ref T1, .ref T2] ++ [.ref T3]) ++ [.ref T4]) ++ [.ref T5])) = H19 at R7 ⊢
    generalize hrw : ((([V.ref T1, .ref T2] ++ [.ref T3]) ++ [.ref T4]) ++ [.ref T5]) = rws at R7
    have lrw : rws.length ≤ 9 := by rw [← hrw]; show 5 ≤ 9; decide
    clear R6 R5 R4 row4 hR17 hR15 e1 e13 e14 e1213 e1214 fE1 fE0 fT4 fW4 d13 dl14 s3 ru3 lu3 hl14 hl15 hl16 x16 hb16 dqx
    refine c_cut (fun σ' H' => ∃ (G' : Hp) (ws : List V) (o8 o9 o10 : Option V), σ' = [some (.ref b), some (.int p), some (.int (m : Int)), some (.int (r : Int)), some (.int (z : Int)), some (.int (be : Int)), some (.ref l), some (.ref Rw), o8, o9, o10, none] ∧ RowsI K p b L Rw ws G' H' ∧ Ex G G' ∧ ws.length ≤ 10) ?_ ?_
    · walk_at "tw"
      refine c_ite (fun hc => ?_) (fun hc => ?_)
      · have z2 : 1 < z := by have := of_decide_eq_true hc; omega
        walk_at "tw"
        refine ⟨b, L, (z : Int), rfl, R7.I.bag, by omega, by omega, fun di H20 x20 hb20 i0 i1 => ?_⟩
        have R8 := R7.draw x20 hb20
        walk_at "tw"
        refine ⟨b, L, (z : Int) - 1, rfl, R8.I.bag, by omega, by omega, fun dj H21 x21 hb21 j0 j1 => ?_⟩
        have R9 := R8.draw x21 hb21
        obtain ⟨_, us4, el, hl18, ru4, lu4⟩ := dl18.lst_map
        cases el
        have hl21 := R9.I.ex _ _ hl18
        obtain ⟨ni, rfl⟩ : ∃ n : Nat, di = (n : Int) := ⟨di.toNat, by omega⟩
        obtain ⟨nj, hnj⟩ : ∃ n : Nat, ((ni : Int) + 1 + dj) % (z : Int) = (n : Int) := ⟨(((ni : Int) + 1 + dj) % (z : Int)).toNat, by
          have := Int.emod_nonneg ((ni : Int) + 1 + dj) (b := (z : Int)) (by omega)
          omega⟩
        have nj1 : (nj : Int) < z := by rw [← hnj]; exact Int.emod_lt_of_pos _ (by omega)
        have nij : ni ≠ nj := fun e => by
          have h1 : ((ni : Int) + 1 + dj) % (z : Int) = (ni : Int) % (z : Int) := by rw [hnj, e, Int.emod_eq_of_lt (by omega) (by omega)]
          have h2 := Int.emod_eq_emod_iff_emod_sub_eq_zero.mp h1
          rw [show (ni : Int) + 1 + dj - (ni : Int) = 1 + dj from by omega, Int.emod_eq_of_lt (by omega) (by omega)] at h2
          omega
        walk_at "tw"
        rw [hnj]
        refine c_listL (SqL.of hl21) fun A fA => ?_
        have eA : Ex H21 (upd H21 A (.lst us4)) := Ex.new fA
        have hA : upd H21 A (.lst us4) A = some (.lst us4) := upd_same
        have huj : us4[nj]? = some us4[nj] := List.getElem?_eq_getElem (by omega)
        obtain ⟨qj, eqj, mqj, dqj⟩ := ru4.map_get huj
        walk_at "tw"
        refine c_setL (n := ni) hA (Evl.ixN_nat (by omega)) ?_
        rw [upd_upd]
        have eA2 : Ex H21 (upd H21 A (.lst (us4.set ni us4[nj]))) := Ex.new fA
        have hR21 := (R9.mono eA2).at_
        walk_at "tw"
        refine ⟨c_tyL hR21, ?_⟩
        walk_at "tw"
        refine ⟨by show 1 ≤ sizeLine; decide, fun W4 fW4 => ?_⟩
        refine due_go eA2 fW4 due_ok2 (dx_s1 "alike") fun u4 H17 e13 d13 => ?_
        have e1213 := eA2.trans e13
        walk_at "tw"
        refine ⟨by show 4 ≤ sizeLine; decide, fun T6 fT4 => ?_⟩
        have e14 : Ex H17 (upd H17 T6 (.tup [.int (m : Int), .int (r : Int), .ref A, u4])) := Ex.new fT4
        have e1214 := e1213.trans e14
        have R10 := R9.grows e1214
        have s3 := R9.I.sub (H' := upd H17 T6 (.tup [.int (m : Int), .int (r : Int), .ref A, u4]))
        have row6 : RowF K p (gro G18 H21 (upd H17 T6 (.tup [.int (m : Int), .int (r : Int), .ref A, u4]))) (.ref T6) := by
          refine ⟨T6, m, r, .ref A, u4, "BadPoints", _, [.str "alike"], rfl, solT (fresh_back e1213 fT4) upd_same (fun _ z => nomatch z), .bp "alike", gro_new (d13.mono (grow_mono (ex0 _) e14)), ask_ba hp m1 m6 r1 r6 (pts := pts.set ni qj) (gro_in (.lst (grow_new fA (e14 _ _ (e13 _ _ upd_same))) ?_)) (by rw [List.length_set]; omega) (alike_set (by omega) (by omega) nij eqj)⟩
          rw [List.map_set]
          exact DxA.set ni (ru4.mono (grow_ex R9.I.ex)) (dqj.mono (grow_ex R9.I.ex))
        have R11 := R10.push row6
        walk_at "tw"
        refine c_app R10.at_ (sz_of_le (by omega)) ?_
        exact ⟨_, _, _, _, _, rfl, R11, sG18.trans s3, by rw [List.length_append]; show rws.length + 1 ≤ 10; omega⟩
      · walk_at "tw"
        exact ⟨_, _, _, _, _, rfl, R7, sG18, by omega⟩
    · clear R7 dl18 sG18
      rintro σ' H20 ⟨G', ws, o8, o9, o10, rfl, Rr, sG, lw⟩
      have hR := Rr.at_
      walk_at "tw"
      refine ⟨Rw, rfl, .inl ⟨⟨_, SqL.of hR⟩, ?_⟩⟩
      refine for_list (K := K) (a := Rw) (xs := ws) (fun i σ' H' => ∃ o11 : Option V, σ' = [some (.ref b), some (.int p), some (.int (m : Int)), some (.int (r : Int)), some (.int (z : Int)), some (.int (be : Int)), some (.ref l), some (.ref Rw), o8, o9, o10, o11] ∧ RowsI K p b L Rw ws G' H') ⟨none, rfl, Rr⟩ (fun i σ' H' _ ⟨_, _, R⟩ => SqL.of R.at_) ?_ ?_
      · rintro i u σ' H21 hu ⟨o11, rfl, R1⟩
        obtain ⟨T, M, R, sp, du, C, fs, ds, rfl, hT, fl, ddu, ask⟩ := R1.rows u (List.mem_of_getElem? hu)
        have hT1 := R1.I.ex _ _ hT
        with_reducible refine c_name ?_
        with_reducible refine c_ifS ?_
        with_reducible refine c_not ?_
        with_reducible refine c_B ?_
        with_reducible refine c_call ?_
        with_reducible refine c_cons ?_
        with_reducible refine c_call ?_
        with_reducible refine c_cons ?_
        with_reducible refine c_c ?_
        with_reducible refine c_cons ?_
        refine c_var (by exact rfl) ?_
        with_reducible refine c_cons ?_
        with_reducible refine c_op ?_
        refine c_var (by exact rfl) ?_
        with_reducible refine c_c ?_
        refine c_ixT (SqT.of hT1) rfl ?_
        with_reducible refine c_cons ?_
        with_reducible refine c_op ?_
        refine c_var (by exact rfl) ?_
        with_reducible refine c_c ?_
        refine c_ixT (SqT.of hT1) rfl ?_
        with_reducible refine c_cons ?_
        with_reducible refine c_op ?_
        refine c_var (by exact rfl) ?_
        with_reducible refine c_c ?_
        refine c_ixT (SqT.of hT1) rfl ?_
        with_reducible refine c_nil ?_
        refine ask _ _ R1.I.ex fun uv H22 e22 d22 => ?_
        have R2 := R1.mono e22
        have hT2 := e22 _ _ hT1
        with_reducible refine c_cons ?_
        with_reducible refine c_op ?_
        refine c_var (by exact rfl) ?_
        with_reducible refine c_c ?_
        refine c_ixT (SqT.of hT2) rfl ?_
        with_reducible refine c_nil ?_
        refine ⟨uv, du, faultD C ds, rfl, d22.mono (grow_in (ex0 _)), ddu.mono R2.I.ex, dep_fault fl, fun H23 e23 => ?_⟩
        have R3 := R2.mono e23
        refine c_bl ?_
        refine c_iteF rfl ?_
        with_reducible refine c_next ?_
        exact ⟨_, rfl, R3⟩
      · rintro σ' H21 ⟨o11, rfl, R1⟩
        walk_at "tw"
        exact q G' H21 R1.I sG
end TwW
namespace TwW
open Tw PySem PySem.Spec PyProof.Rows L2 Evl RZ LamX
/-! ### _law_made -/
theorem cut_nat {us : List V} {i n : Nat} (h : i + n ≤ us.length) : cutV us (some (i : Int)) (some ((i : Int) + (n : Int))) = (us.drop i).take n := by
  unfold cutV
  rw [show (i : Int) + (n : Int) = ((i + n : Nat) : Int) from by omega, HT.sIx_nat, HT.sIx_nat, Nat.min_eq_left (by omega), Nat.min_eq_left (by omega)]
  congr 1
  omega
def sp__law_made (K : PySem.W.Frag) : Sp := fun vs H Q _ => ∃ (b L lA x : Addr) (G : Hp) (p : Int) (m r z : Nat) (v5 : V) (pts : List (Option Nu)), vs = [.ref b, .int p, .int (m : Int), .int (r : Int), .ref lA, v5] ∧ LawW K b L G H ∧ PrN p ∧ z = m + r - 1 ∧ 1 ≤ m ∧ 1 ≤ r ∧ m ≤ 6 ∧ r ≤ 6 ∧
  G lA = some (.lst [.str "told", .ref x]) ∧ LrAt K G x p z r m (winTr p m r pts) ∧ Dx G v5 (ptsD pts) ∧ pts.Nodup ∧ PtOk p pts ∧ pts.length = z ∧ ∀ G' H', LawW K b L G' H' → Q (.bl true) H'
def t_f_law_made (K : PySem.W.Frag) : TS :=
    (tSeq (tAsg (tOp uSub (tOp (uAdd K) (tVar 2) (tVar 3)) (tC (.int 1))) (gName 6))
    (tSeq (tIfS (tOr (tTest (tOp (uNe K) (tOp (uIx K) (tVar 4) (tC (.int 0))) (tC (.str "told")))) (tNot (tB (tCB (uIsi K) (tCons (tOp (uIx K) (tVar 4) (tC (.int 1))) (tCons (tC (.ref (He.ga K "LeftRight"))) tNil)))))) (tRet (tC (.bl false))) tNext)
    (tSeq (tAsg (tOp (uIx K) (tVar 4) (tC (.int 1))) (gName 7))
    (tSeq (tAsg (tCall sp__law_lagrange [] E0 (tCons (tVar 1) (tCons (tVar 5) tNil))) (gName 8))
    (tSeq (tAsg (tLc (iRng1 (tCons (tVar 6) tNil)) (gName 13) tYes (tTup (tCons (tOp (uIx K) (tVar 8) (tVar 13)) (tCons (tCall sp__law_powers [] E0 (tCons (tVar 1) (tCons (tOp (uIx K) (tVar 5) (tVar 13)) (tCons (tVar 3) tNil)))) (tCons (tCall sp__law_powers [] E0 (tCons (tVar 1) (tCons (tOp (uIx K) (tVar 5) (tVar 13)) (tCons (tVar 2) tNil)))) tNil)))) [13]) (gName 9))
    (tSeq (tIfS (tOr (tNot (tB (tCall sp__law_same [] E0 (tCons (tMeth (He.ga K "LeftRight") "sizes" (sp_LeftRight_sizes K) [] E0 (tVar 7) tNil) (tCons (tTup (tCons (tVar 6) (tCons (tVar 3) (tCons (tVar 2) tNil)))) tNil))))) (tOr (tNot (tB (tCall sp__law_same [] E0 (tCons (tMeth (He.ga K "LeftRight") "triples" (sp_LeftRight_triples K) [] E0 (tVar 7) tNil) (tCons (tVar 9) tNil))))) (tNot (tB (tCall sp__law_same [] E0 (tCons (tFld K (tFld K (tVar 7) "ground") "line") (tCons (tCall sp__law_line [] E0 (tCons (tVar 1) tNil)) tNil))))))) (tRet (tC (.bl false))) tNext)
    (tSeq (tAsg (tTup (tCons (tCall sp__law_row [] E0 (tCons (tVar 0) (tCons (tVar 1) (tCons (tVar 6) tNil)))) (tCons (tCall sp__law_row [] E0 (tCons (tVar 0) (tCons (tVar 1) (tCons (tVar 3) tNil)))) tNil))) (gTup K 2 (gCons (gName 10) (gCons (gName 11) gNil))))
    (tSeq (tAsg (tLc (iRng1 (tCons (tVar 2) tNil)) (gName 14) tYes (tCall sp__law_dot [] E0 (tCons (tVar 1) (tCons (tSl (uSl K) (tVar 10) (tPart (tVar 14)) (tPart (tOp (uAdd K) (tVar 14) (tVar 3)))) (tCons (tVar 11) tNil)))) [14]) (gName 12))
    (tSeq (tIfS (tOr (tNot (tB (tCall sp__law_same [] E0 (tCons (tMeth (He.ga K "LeftRight") "tells" (sp_LeftRight_tells K) [] E0 (tVar 7) (tCons (tCB (uList K) (tCons (tVar 10) tNil)) (tCons (tCB (uList K) (tCons (tVar 11) tNil)) tNil))) (tCons (tVar 12) tNil))))) (tNot (tB (tCall sp__law_same [] E0 (tCons (tCall (sp__law_asked K) [] E0 (tCons (tC (.str "errs")) (tCons (tVar 1) (tCons (tVar 2) (tCons (tVar 3) (tCons (tVar 7) tNil)))))) (tCons (tLst (tCons (tC (.str "told")) (tCons (tC .non) tNil))) tNil)))))) (tRet (tC (.bl false))) tNext)
    (tRet (tCall (sp__law_judged K) [] E0 (tCons (tVar 0) (tCons (tVar 1) (tCons (tVar 2) (tCons (tVar 3) (tCons (tVar 9) tNil))))))))))))))))
theorem pure_made (K : PySem.W.Frag) (TG : GrK K) (TL : LrK K) (TK : LawK K) (vs : List V) (H : Hp) (Q : VK) (E : XK) (h : sp__law_made K vs H Q E) : t_f_law_made K { nx := fun _ H' => Q .non H', rt := Q } (start ["bag", "p", "many", "wide", "asked", "spread", "z", "made", "polys", "triples", "x", "h", "due", "k", "i"] vs) H := by
  obtain ⟨b, L, lA, x, G, p, m, r, z, v5, pts, rfl, I, hp, ez, m1, r1, m6, r6, hA, ⟨g, t, l, ho⟩, d5, nd, pok, lp, q⟩ := h
  have p0 := hp.nonneg
  have p31 := prN_32 hp
  have sok := sc_ok hp pok nd
  have one0 := one_ne hp
  have z11 : z ≤ 11 := by omega
  have ezz : (m : Int) + (r : Int) - 1 = (z : Int) := by omega
  have ts := win_s hp (m := m) (r := r) lp m6 r6 (by omega) pok
  have rl : (winTr p m r pts).length = z := by unfold winTr rectTr; rw [List.length_map, List.length_map, lp]
  have good : IsFirst (badO p (winTr p m r pts) m offW) z r none := fun i hi j hj => win_good hp pok nd m1 r1 (by omega) (by omega) hj
  have bits1 : (2 * (17 * z + 11) + 26 + 2) * (winTr p m r pts).length ≤ 7000 := by
    rw [rl]
    exact Nat.le_trans (Nat.mul_le_mul (show 2 * (17 * z + 11) + 26 + 2 ≤ 424 by omega) z11) (by decide)
  have bits2 : (2 * ((17 * z + 11) + 15) + (26 + 15) + 2) * (winTr p m r pts).length ≤ 7000 := by
    rw [rl]
    exact Nat.le_trans (Nat.mul_le_mul (show 2 * ((17 * z + 11) + 15) + (26 + 15) + 2 ≤ 469 by omega) z11) (by decide)
  obtain ⟨_, us, el, hl, ru, lu⟩ := d5.lst_map
  subst el
  unfold t_f_law_made
  obtain ⟨dx, hx⟩ := ho.at_
  have hA5 := I.ex _ _ hA
  have hx5 := I.ex _ _ hx
  walk_at "tw"
  rw [ezz]
  refine c_isi (.own _) (.base (.ins hx5 TL.cl TK.ha TK.hn TK.ht TK.hm)) TK.one ?_
  walk_at "tw"
  refine ⟨p, pts, _, rfl, hp, d5.mono I.ex, pok, by omega, sok, one0, fun w H3 e3 d3' => ?_⟩
  have I3 := I.growsE e3
  have s3 := I.sub (H' := H3)
  have dw : Dx (gro G H H3) w (tblN (pts.map (valRow p pts.length pts))) := gro_new d3'
  have hl' := s3 _ _ hl
  have ru' := ru.mono s3
  have ho3 := ho.ex s3
  generalize gro G H H3 = G3 at I3 s3 dw hl' ru' ho3
  clear d3' e3 I hA5 hx5 hA hx
  obtain ⟨aw, ws, rfl, haw, rw', lw⟩ := dw.lst_map
  rw [List.length_map] at lw
  walk_at "tw"
  refine ⟨z, rfl, by omega, by omega, fun L1 hL1 => ?_⟩
  refine lcB_range (n := z) (fun j => ((winTr p m r pts).map tripD).take j) I3.ex hL1 rfl (fun j _ => pre_len _ (by rw [List.length_map, rl]; omega) j) ?_ ?_
  · intro j H4 Q2 N hj e4 ⟨tk, _⟩
    have eG4 := I3.ex.trans e4
    have hl4 := eG4 _ _ hl'
    have haw4 := eG4 _ _ haw
    have huj : us[j]? = some us[j] := List.getElem?_eq_getElem (by omega)
    have hwj : ws[j]? = some ws[j] := List.getElem?_eq_getElem (by omega)
    obtain ⟨pt, ept, mpt, dpt⟩ := ru'.map_get huj
    obtain ⟨row, erow, mrow, drow⟩ := rw'.map_get hwj
    have er : row = valRow p pts.length pts pt := by
      rw [List.getElem?_map, ept] at erow
      exact (Option.some.inj erow).symm
    rw [er] at drow
    have sx : ∀ x, pt = some x → x.ok p ∧ x.le 5 := fun x e => pok x (by rw [← e]; exact mpt)
    have ej : (0 : Int) + (j : Int) = (j : Int) := by omega
    walk_at "tw"
    refine ⟨rfl, ?_⟩
    walk_at "tw"
    refine c_ixL (v := ws[j]) (SqL.of haw4) (by rw [ej]; exact atI_nat hwj) ?_
    walk_at "tw"
    refine c_ixL (v := us[j]) (SqL.of hl4) (by rw [ej]; exact atI_nat huj) ?_
    walk_at "tw"
    refine ⟨p, pt, us[j], r, 5, rfl, p0, sx, r1, by omega, by omega, dpt.mono eG4, fun u1 H5 e5 d5 => ?_⟩
    walk_at "tw"
    refine c_ixL (v := us[j]) (SqL.of (e5 _ _ hl4)) (by rw [ej]; exact atI_nat huj) ?_
    walk_at "tw"
    refine ⟨p, pt, us[j], m, 5, rfl, p0, sx, m1, by omega, by omega, dpt.mono (eG4.trans e5), fun u2 H6 e6 d6 => ?_⟩
    walk_at "tw"
    refine ⟨by show 3 ≤ sizeLine; decide, fun T3 fT3 => ?_⟩
    have e7 : Ex H6 (upd H6 T3 (.tup [ws[j], u1, u2])) := Ex.new fT3
    have hs : ((winTr p m r pts).map tripD)[j]? = some (tripD (turnL (rectT p m r pts.length pts pt))) := by
      unfold winTr rectTr
      rw [List.getElem?_map, List.getElem?_map, List.getElem?_map, ept]
      rfl
    refine tk _ (tripD (turnL (rectT p m r pts.length pts pt))) _ (take_succ hs) ((e5.trans e6).trans e7) (.tup (grow_new (fresh_back (e5.trans e6) fT3) upd_same) (.cons ?_ (.cons ?_ (.cons ?_ .nil))))
    · exact drow.mono (grow_ex eG4)
    · exact d5.mono (grow_mono (ex0 _) (e6.trans e7))
    · exact d6.mono ((grow0_back0 e5).trans (grow_mono (Ex.refl _) e7))
  · intro H4 e4 d4
    rw [List.take_of_length_le (by rw [List.length_map, rl]; exact Nat.le_refl _)] at d4
    have I4 := I3.growsE e4
    have s4 := I3.sub (H' := H4)
    have dt : Dx (gro G3 H3 H4) (.ref L1) (.list ((winTr p m r pts).map tripD)) := gro_in d4
    have ho4 := ho3.ex s4
    generalize gro G3 H3 H4 = G4 at I4 s4 dt ho4
    clear I3 d4 ru ru' rw' hl hl' haw s4 dw hL1 e4 lu lw
    -- sizes
    with_reducible refine c_name ?_
    with_reducible refine c_seq ?_
    with_reducible refine c_ifS ?_
    with_reducible refine c_or ?_
    with_reducible refine c_not ?_
    with_reducible refine c_B ?_
    with_reducible refine c_call ?_
    with_reducible refine c_cons ?_
    refine c_lrM rfl (ho4.ex I4.ex) ne_ss1 ne_ss2 ne_ss3 (c_nil ?_)
    refine ⟨x, g, t, l, p, z, r, m, winTr p m r pts, rfl, ho4.ex I4.ex, ?_⟩
    walk_at "tw"
    refine ⟨by show 3 ≤ sizeLine; decide, fun T1 fT1 => ?_⟩
    have e1 : Ex H4 (upd H4 T1 (.tup [.int (z : Int), .int (r : Int), .int (m : Int)])) := Ex.new fT1
    refine ⟨.ref t, .ref T1, .tuple [.int (z : Int), .int (r : Int), .int (m : Int)], rfl, .tup ((I4.ex.trans e1) _ _ ho4.sz) (.cons (.int _) (.cons (.int _) (.cons (.int _) .nil))), .tup upd_same (.cons (.int _) (.cons (.int _) (.cons (.int _) .nil))), dep_int3 _ _ _, fun H5 e5 => ?_⟩
    have I5 := I4.mono (e1.trans e5)
    clear e1 e5 fT1 I4
    refine c_bl ?_
    refine c_iteF rfl ?_
    with_reducible refine c_or ?_
    with_reducible refine c_not ?_
    with_reducible refine c_B ?_
    with_reducible refine c_call ?_
    with_reducible refine c_cons ?_
    refine c_lrM rfl (ho4.ex I5.ex) ne_st1 ne_st2 ne_st3 (c_nil ?_)
    refine ⟨G4, x, g, t, l, p, z, r, m, winTr p m r pts, rfl, I5.ex, ho4, by omega, fun v3 H6 e6 d6 => ?_⟩
    walk_at "tw"
    refine ⟨v3, .ref L1, .list ((winTr p m r pts).map tripD), rfl, d6.mono (grow_in (I5.ex.trans e6)), dt.mono (I5.ex.trans e6), dep_trs ts.ok (by omega) (by omega) (by omega) (by omega), fun H7 e7 => ?_⟩
    have I7 := I5.mono (e6.trans e7)
    clear e6 e7 d6 I5
    refine c_bl ?_
    refine c_iteF rfl ?_
    with_reducible refine c_not ?_
    with_reducible refine c_B ?_
    with_reducible refine c_call ?_
    with_reducible refine c_cons ?_
    with_reducible refine c_fld ?_
    have ho7 := ho4.ex I7.ex
    obtain ⟨dg, hg⟩ := ho7.gr
    refine c_lrG rfl TL ho7 ?_
    refine ⟨g, _, dg, grF p, .str (lineOf p), rfl, hg, TG.cl, TG.nL, grF_line p, ?_⟩
    walk_at "tw"
    refine ⟨p, rfl, p0, by omega, ?_⟩
    walk_at "tw"
    refine ⟨.str (lineOf p), .str (lineOf p), .str (lineOf p), rfl, .str _, .str _, trivial, fun H8 e8 => ?_⟩
    have I8 := I7.mono e8
    clear I7 e8 ho7 hg
    refine c_bl ?_
    walk_at "tw"
    -- two rows
    refine ⟨b, L, p, z, rfl, I8.bag, p0, by omega, by omega, by omega, fun xs ra H10 x10 hb10 lx ox o5 dx => ?_⟩
    have I10 := I8.grows x10 hb10
    have dx10 : Dx (gro G4 H8 H10) (.ref ra) (rowN xs) := gro_new dx
    have ho10 := ho4.ex (I8.sub (H' := H10))
    have dt10 := dt.mono (I8.sub (H' := H10))
    generalize gro G4 H8 H10 = G10 at I10 dx10 ho10 dt10
    clear I8 x10 hb10 dx ho4 dt
    walk_at "tw"
    refine ⟨b, L, p, r, rfl, I10.bag, p0, by omega, by omega, by omega, fun ys rb H11 x11 hb11 ly oy oy5 dy => ?_⟩
    have I11 := I10.grows x11 hb11
    have dy11 : Dx (gro G10 H10 H11) (.ref rb) (rowN ys) := gro_new dy
    have dx11 := dx10.mono (I10.sub (H' := H11))
    have ho11 := ho10.ex (I10.sub (H' := H11))
    have dt11 := dt10.mono (I10.sub (H' := H11))
    generalize gro G10 H10 H11 = G11 at I11 dx11 dy11 ho11 dt11
    clear I10 x11 hb11 dy ho10 dx10 dt10
    walk_at "tw"
    refine ⟨by show 2 ≤ sizeLine; decide, fun T3 fT3 => ?_⟩
    have I12 := I11.mono (Ex.new (o := .tup [.ref ra, .ref rb]) fT3)
    walk_at "tw"
    clear I11
    generalize upd H11 T3 (.tup [.ref ra, .ref rb]) = H12 at I12 ⊢
    have lx' : xs.length = z := by omega
    have ly' : ys.length = r := by omega
    have okx : OkN p 5 xs := fun y hy => ⟨(ox y hy).1, by
      by_cases c : p = 0
      · exact o5 c y hy
      · exact ok_le5 hp (by omega) (ox y hy).1⟩
    have oky : OkN p 5 ys := fun y hy => ⟨(oy y hy).1, by
      by_cases c : p = 0
      · exact oy5 c y hy
      · exact ok_le5 hp (by omega) (oy y hy).1⟩
    obtain ⟨_, us, ex_, hu, ru, lu⟩ := rowN_inv dx11
    cases ex_
    obtain ⟨_, ws, ey_, hw, rw', lw⟩ := rowN_inv dy11
    cases ey_
    refine ⟨m, rfl, by omega, by omega, fun L2 hL2 => ?_⟩
    have ld : (dueW p xs ys m r).length = m := by unfold dueW; rw [List.length_map, List.length_range]
    refine lcB_range (n := m) (fun j => ((dueW p xs ys m r).map Nu.d).take j) I12.ex hL2 rfl (fun j _ => pre_len _ (by rw [List.length_map, ld]; omega) j) ?_ ?_
    · intro j H13 Q2 N hj e13 ⟨tk, _⟩
      have eG := I12.ex.trans e13
      have ej : (0 : Int) + (j : Int) = (j : Int) := by omega
      have hu13 := eG _ _ hu
      walk_at "tw"
      refine ⟨rfl, ?_⟩
      walk_at "tw"
      rw [ej]
      refine c_slL (SqL.of hu13) fun E1 fE1 => ?_
      rw [cut_nat (by omega)]
      have e1 : Ex H13 (upd H13 E1 (.lst ((us.drop j).take r))) := Ex.new fE1
      walk_at "tw"
      have dc : Dx (upd H13 E1 (.lst ((us.drop j).take r))) (.ref E1) (rowN ((xs.drop j).take r)) := by
        refine .lst upd_same ?_
        (rw [List.map_take, List.map_drop])
        exact (((ru.mono (eG.trans e1)).drop j).take r)
      have oc : OkN p 5 ((xs.drop j).take r) := fun y hy => okx y (List.mem_of_mem_drop (List.mem_of_mem_take hy))
      refine ⟨p, _, ys, .ref E1, .ref rb, 5, 5, rfl, p0, by omega, oc, oky, by rw [List.length_take, List.length_drop]; omega, by rw [List.length_take]; omega, by rw [List.length_take]; omega, by decide, dc, dy11.mono (eG.trans e1), fun v H16 e16 d16 => ?_⟩
      refine tk v _ H16 (take_succ (x := (dotN p ((xs.drop j).take r) ys).d) ?_) (e1.trans e16) (d16.mono (grow0_back0 e1))
      unfold dueW
      rw [List.getElem?_map, List.getElem?_map, List.getElem?_range hj]
      rfl
    · intro H13 e13 d13
      rw [List.take_of_length_le (by rw [List.length_map, ld]; exact Nat.le_refl _)] at d13
      have I13 := I12.mono e13
      have dd := d13.mono (grow_in I13.ex)
      have ho13 := ho11.ex I13.ex
      have hu13 := I13.ex _ _ hu
      have hw13 := I13.ex _ _ hw
      have dx13 := dx11.mono I13.ex
      have dy13 := dy11.mono I13.ex
      clear d13 I12 e13
      with_reducible refine c_name ?_
      with_reducible refine c_seq ?_
      with_reducible refine c_ifS ?_
      with_reducible refine c_or ?_
      with_reducible refine c_not ?_
      with_reducible refine c_B ?_
      with_reducible refine c_call ?_
      with_reducible refine c_cons ?_
      refine c_lrM rfl ho13 ne_sl1 ne_sl2 ne_sl3 ?_
      walk_at "tw"
      refine c_listL (SqL.of hu13) fun A1 fA1 => ?_
      have e1 : Ex H13 (upd H13 A1 (.lst us)) := Ex.new fA1
      walk_at "tw"
      refine c_listL (SqL.of (e1 _ _ hw13)) fun A2 fA2 => ?_
      have e2 := e1.trans (Ex.new (o := .lst ws) fA2)
      walk_at "tw"
      have te := tellsW_eq hp pok nd m1 r1 (by omega) (by omega) ly' (fun y hy => (ox y hy).1) (fun y hy => (oy y hy).1)
      obtain ⟨tA, tB, tC⟩ := win_tells hp lp m6 r6 z11 pok okx oky lx' ly'
      have dA1 : Dx (upd (upd H13 A1 (.lst us)) A2 (.lst ws)) (.ref A1) (rowN xs) := .lst ((Ex.new fA2) _ _ upd_same) (ru.mono (I13.ex.trans e2))
      have dA2 : Dx (upd (upd H13 A1 (.lst us)) A2 (.lst ws)) (.ref A2) (rowN ys) := .lst upd_same (rw'.mono (I13.ex.trans e2))
      refine ⟨x, g, t, l, p, z, r, m, winTr p m r pts, .ref A1, .ref A2, xs, ys, _, _, _, rfl, ho13.ex e2, p0, by omega, ts.ok, dA1, dA2, lx', ly', tA, by omega, by omega, by omega, by omega, tB, tC, ?_⟩
      rw [te]
      intro v H14 e14 d14
      have I14 := I13.mono (e2.trans e14)
      walk_at "tw"
      refine ⟨v, .ref L2, rowN (dueW p xs ys m r), rfl, d14.mono (grow_in (ex0 _)), dd.mono (e2.trans e14), dep_row4 (by rw [ld]; omega), fun H15 e15 => ?_⟩
      have I15 := I14.mono e15
      clear I14 I13 dA1 dA2 te tA tB tC d14 e14 e15 e1 e2 fA1 fA2 dd ho13 hu13 hw13 dx13 dy13
      refine c_bl ?_
      walk_at "tw"
      refine .inl ⟨G11, x, p, m, r, m, r, z, 17 * z + 11, 26, winTr p m r pts, rfl, I15.ex, I15.nt, I15.tb, ⟨g, t, l, ho11⟩, hp, ez, m1, r1, by omega, by omega, ts, bits1, by omega, by omega, fun z => absurd z (by simp), fun _ _ res hr u H6 x6 t6 d6 => ?_⟩
      have er := hr.uniq good
      subst er
      have I6 := I15.tabs x6 t6
      clear I15 x6 t6
      walk_at "tw"
      refine ⟨by show 2 ≤ sizeLine; decide, fun T2 fT2 => ?_⟩
      have e7 : Ex H6 (upd H6 T2 (.lst [.str "told", .non])) := Ex.new fT2
      refine ⟨u, .ref T2, toldD (optD none), rfl, d6.mono e7, .lst upd_same (.cons (.str _) (.cons .non .nil)), dep_opt none, fun H8 e8 => ?_⟩
      have I8 := I6.mono (e7.trans e8)
      clear I6 e7 e8 fT2 d6
      refine c_bl ?_
      walk_at "tw"
      exact ⟨b, L, G11, p, m, r, z, 17 * z + 11, 26, winTr p m r pts, .ref L1, rfl, I8, hp, dt11, ts, ez, m1, r1, m6, r6, by omega, by omega, by omega, bits2, fun G9 H9 I9 s9 => q G9 H9 I9⟩
end TwW
namespace TwW
open Tw PySem PySem.Spec PyProof.Rows L2 Evl RZ LamX
/-! ### law, its last part: all products -/
def everyT (p : Int) (m r z i j : Nat) : Trip := (baseN p z ((i : Int) + (j : Int)), baseN p r (j : Int), baseN p m (i : Int))
def everyL (p : Int) (m r z : Nat) : Nat → List Trip
  | 0 => []
  | n + 1 => everyL p m r z n ++ (List.range r).map (everyT p m r z n)
theorem everyL_len (p : Int) (m r z : Nat) : ∀ n, (everyL p m r z n).length = n * r
  | 0 => (Nat.zero_mul r).symm
  | n + 1 => by
    rw [everyL, List.length_append, everyL_len p m r z n, List.length_map, List.length_range, Nat.succ_mul]
theorem everyL_mem {p : Int} {m r z : Nat} : ∀ {n : Nat} {q : Trip}, q ∈ everyL p m r z n → ∃ i j, q = everyT p m r z i j
  | 0, _, h => nomatch h
  | n + 1, q, h => by
    rw [everyL] at h
    (rcases List.mem_append.mp h with h | h)
    · exact everyL_mem h
    · obtain ⟨j, _, rfl⟩ := List.mem_map.mp h
      exact ⟨n, j, rfl⟩
theorem everyL_s {p : Int} (p0 : 0 ≤ p) (m r z n : Nat) : TrS p z r m 1 1 (everyL p m r z n) where
  ok := fun q hq => by
    obtain ⟨i, j, rfl⟩ := everyL_mem hq
    exact ⟨baseN_len _ _ _, baseN_len _ _ _, baseN_len _ _ _⟩
  bits := fun q hq => by
    obtain ⟨i, j, rfl⟩ := everyL_mem hq
    exact ⟨baseN_okN p0 _ _, baseN_okN p0 _ _, baseN_okN p0 _ _⟩
def tTail (K : PySem.W.Frag) : TS :=
    (tSeq (tAsg (tLst tNil) (gName 10))
    (tSeq (tFor (iRng1 (tCons (tVar 3) tNil)) (gName 11) (tAsg (tOp (uAdd K) (tVar 10) (tLc (iRng1 (tCons (tVar 4) tNil)) (gName 12) tYes (tTup (tCons (tCall sp__law_base [] E0 (tCons (tVar 2) (tCons (tVar 5) (tCons (tOp (uAdd K) (tVar 11) (tVar 12)) tNil)))) (tCons (tCall sp__law_base [] E0 (tCons (tVar 2) (tCons (tVar 4) (tCons (tVar 12) tNil)))) (tCons (tCall sp__law_base [] E0 (tCons (tVar 2) (tCons (tVar 3) (tCons (tVar 11) tNil)))) tNil)))) [12])) (gName 10)))
    (tSeq (tAsg (tIf (tTest (tOp (uLt K) (tOp (uMul K) (tVar 3) (tVar 4)) (tC (.int 13)))) (tCall sp__law_dressed [] E0 (tCons (tVar 1) (tCons (tVar 2) (tCons (tVar 10) tNil)))) (tVar 10)) (gName 10))
    (tRet (tAndV (tCall (sp__law_judged K) [] E0 (tCons (tVar 1) (tCons (tVar 2) (tCons (tVar 3) (tCons (tVar 4) (tCons (tVar 10) tNil)))))) (tCall (sp__law_judged K) [] E0 (tCons (tVar 1) (tCons (tVar 2) (tCons (tVar 3) (tCons (tVar 4) (tCons (tLst tNil) tNil)))))))))))
theorem law_tail (K : PySem.W.Frag) {b L : Addr} {G H : Hp} {p : Int} {m r z : Nat} {Q : VK} {o0 o6 o7 o8 o9 o10 o11 : Option V} (I : LawW K b L G H) (hp : PrN p) (ez : z = m + r - 1) (m1 : 1 ≤ m) (r1 : 1 ≤ r) (m6 : m ≤ 6) (r6 : r ≤ 6) (q : ∀ H', Q (.bl true) H') :
    tTail K { nx := fun _ H' => Q .non H', rt := Q } [o0, some (.ref b), some (.int p), some (.int (m : Int)), some (.int (r : Int)), some (.int (z : Int)), o6, o7, o8, o9, o10, o11, none] H := by
  have p0 := hp.nonneg
  have mr36 : m * r ≤ 36 := Nat.mul_le_mul m6 r6
  unfold tTail
  walk_at "tw"
  refine ⟨by show 0 ≤ sizeLine; decide, fun A fA => ?_⟩
  have I0 := I.growsE (Ex.new (o := .lst []) fA)
  have d0 : Dx (gro G H (upd H A (.lst []))) (.ref A) (.list ((everyL p m r z 0).map tripD)) := gro_new (.lst (grow_new fA upd_same) .nil)
  generalize gro G H (upd H A (.lst [])) = G0 at I0 d0
  generalize upd H A (.lst []) = H0 at I0 ⊢
  clear I fA
  walk_at "tw"
  refine ⟨m, rfl, by omega, by omega, ?_⟩
  refine for_range (lo := 0) (n := m) (fun i σ' H' => ∃ (G' : Hp) (v : V) (o11 : Option V), σ' = [o0, some (.ref b), some (.int p), some (.int (m : Int)), some (.int (r : Int)), some (.int (z : Int)), o6, o7, o8, o9, some v, o11, none] ∧ LawW K b L G' H' ∧ Dx G' v (.list ((everyL p m r z i).map tripD))) ⟨G0, _, _, rfl, I0, d0⟩ ?_ ?_
  · clear I0 d0
    rintro i σ' H1 hi ⟨G1, v1, o11', rfl, I1, d1⟩
    walk_at "tw"
    refine ⟨r, rfl, by omega, by omega, fun L1 hL1 => ?_⟩
    have rl : ((List.range r).map (everyT p m r z i)).length = r := by rw [List.length_map, List.length_range]
    refine lcB_range (n := r) (fun j => (((List.range r).map (everyT p m r z i)).map tripD).take j) I1.ex hL1 rfl (fun j _ => pre_len _ (by rw [List.length_map, rl]; omega) j) ?_ ?_
    · intro j H2 Q2 N hj e2 ⟨tk, _⟩
      walk_at "tw"
      refine ⟨rfl, ?_⟩
      walk_at "tw"
      refine ⟨p, 0 + (i : Int) + (0 + (j : Int)), z, rfl, p0, by omega, fun va H3 e3 d3 => ?_⟩
      walk_at "tw"
      refine ⟨p, 0 + (j : Int), r, rfl, p0, by omega, fun vb H4 e4 d4 => ?_⟩
      walk_at "tw"
      refine ⟨p, 0 + (i : Int), m, rfl, p0, by omega, fun vc H5 e5 d5 => ?_⟩
      walk_at "tw"
      refine ⟨by show 3 ≤ sizeLine; decide, fun T fT => ?_⟩
      have e6 : Ex H5 (upd H5 T (.tup [va, vb, vc])) := Ex.new fT
      rw [zero_add_nat] at d3 d4 d5
      rw [zero_add_nat] at d3
      refine tk _ (tripD (everyT p m r z i j)) _ (pre_take (pre_map hj)) (((e3.trans e4).trans e5).trans e6) (.tup (grow_new (fresh_back ((e3.trans e4).trans e5) fT) upd_same) (.cons ?_ (.cons ?_ (.cons ?_ .nil))))
      · exact d3.mono (grow_mono (ex0 _) ((e4.trans e5).trans e6))
      · exact d4.mono ((grow0_back0 e3).trans (grow_mono (Ex.refl _) (e5.trans e6)))
      · exact d5.mono ((grow0_back0 (e3.trans e4)).trans (grow_mono (Ex.refl _) e6))
    · intro H2 e2 d2
      rw [List.take_of_length_le (by rw [List.length_map, rl]; exact Nat.le_refl _)] at d2
      obtain ⟨a, us, rfl, ha, ru, lu⟩ := d1.lst_map
      obtain ⟨a2, us2, ea2, ha2, ru2, lu2⟩ := d2.lst_map
      cases ea2
      have ha1 := e2 _ _ (I1.ex _ _ ha)
      have ha3 := (grow_in (I1.ex.trans e2)) _ _ ha2
      walk_at "tw"
      refine c_catL ha1 ha3 (Nat.le_trans (m := 100) (by rw [lu, lu2, everyL_len, rl]; have : i * r ≤ 36 := Nat.le_trans (Nat.mul_le_mul_right r (Nat.le_of_lt hi)) mr36; omega) (by decide)) fun E1 fE1 => ?_
      have e3 : Ex H2 (upd H2 E1 (.lst (us ++ us2))) := Ex.new fE1
      walk_at "tw"
      refine ⟨gro G1 H1 (upd H2 E1 (.lst (us ++ us2))), _, _, rfl, I1.growsE (e2.trans e3), gro_in (.lst (grow_new (fresh_back e2 fE1) upd_same) ?_)⟩
      rw [everyL, List.map_append]
      exact (ru.mono (grow_ex I1.ex)).append (ru2.mono (grow_mono (Ex.refl _) e3))
  · clear I0 d0
    rintro σ' H1 ⟨G1, v1, o11', rfl, I1, d1⟩
    have len := everyL_len p m r z m
    have ts := everyL_s p0 m r z m
    with_reducible refine c_seq ?_
    with_reducible refine c_asg ?_
    refine c_pre1 (fun v H' => ∃ (G' : Hp) (tr : List Trip) (bu bw : Nat), LawW K b L G' H' ∧ Dx G' v (.list (tr.map tripD)) ∧ TrS p z r m bu bw tr ∧ tr.length ≤ 36 ∧ bu ≤ 15 ∧ bw ≤ 29) (fun v H2 hv => ?_) (fun Q2 k => ?_)
    rotate_left
    · walk_at "tw"
      refine c_ite (fun hc => ?_) (fun hc => ?_)
      · walk_at "tw"
        refine ⟨b, L, G1, p, z, r, m, 1, 1, everyL p m r z m, v1, rfl, I1.bag, I1.ex, I1.nb, hp, d1, ts, by omega, by omega, by omega, by omega, by decide, by decide, fun tr' l H2 x2 hb2 ts2 l2 fl d2 => ?_⟩
        exact k _ _ ⟨gro G1 H1 H2, tr', 15, 29, I1.grows x2 hb2, gro_in d2, ts2, by omega, Nat.le_refl _, Nat.le_refl _⟩
      · walk_at "tw"
        exact k _ _ ⟨G1, _, 1, 1, I1, d1, ts, by omega, by decide, by decide⟩
    · clear I1 d1 ts len
      obtain ⟨G2, tr, bu, bw, I2, d2, ts, l36, bu15, bw29⟩ := hv
      have hz : (2 * (bu + 15) + (bw + 15) + 2) * tr.length ≤ 7000 := Nat.le_trans (Nat.mul_le_mul (show 2 * (bu + 15) + (bw + 15) + 2 ≤ 106 by omega) l36) (by decide)
      walk_at "tw"
      refine ⟨b, L, G2, p, m, r, z, bu, bw, tr, v, rfl, I2, hp, d2, ts, ez, m1, r1, m6, r6, by omega, by omega, by omega, hz, fun G3 H3 I3 _ => ⟨true, rfl, ?_⟩⟩
      refine c_iteT rfl ?_
      walk_at "tw"
      refine ⟨by show 0 ≤ sizeLine; decide, fun A2 fA2 => ?_⟩
      have I4 := I3.growsE (Ex.new (o := .lst []) fA2)
      have d4 : Dx (gro G3 H3 (upd H3 A2 (.lst []))) (.ref A2) (.list (([] : List Trip).map tripD)) := gro_new (.lst (grow_new fA2 upd_same) .nil)
      walk_at "tw"
      refine ⟨b, L, _, p, m, r, z, 1, 1, [], _, rfl, I4, hp, d4, TrS.nil p z r m, ez, m1, r1, m6, r6, by decide, by decide, by decide, by decide, fun G5 H5 I5 _ => q H5⟩
def tPts (K : PySem.W.Frag) : TS :=
    (tSeq (tAsg (tCall sp__law_points [] E0 (tCons (tVar 1) (tCons (tVar 2) (tCons (tVar 5) tNil)))) (gName 9))
    (tIfS (tNot (tB (tCall (sp__law_made K) [] E0 (tCons (tVar 1) (tCons (tVar 2) (tCons (tVar 3) (tCons (tVar 4) (tCons (tCall (sp__law_asked K) [] E0 (tCons (tC (.str "window")) (tCons (tVar 2) (tCons (tVar 3) (tCons (tVar 4) (tCons (tCB (uList K) (tCons (tVar 9) tNil)) tNil)))))) (tCons (tVar 9) tNil))))))))) (tRet (tC (.bl false))) tNext))
theorem law_pts (K : PySem.W.Frag) {b L : Addr} {G H : Hp} {p : Int} {m r z : Nat} {D : Ends} {o0 o6 o7 o8 : Option V} (I : LawW K b L G H) (hp : PrN p) (ez : z = m + r - 1) (m1 : 1 ≤ m) (r1 : 1 ≤ r) (m6 : m ≤ 6) (r6 : r ≤ 6) (hc : p = 0 ∨ (z : Int) ≤ p + 1)
    (k : ∀ (G' H' : Hp) (l9 : Addr), LawW K b L G' H' → D.nx [o0, some (.ref b), some (.int p), some (.int (m : Int)), some (.int (r : Int)), some (.int (z : Int)), o6, o7, o8, some (.ref l9), none, none, none] H') :
    tPts K D [o0, some (.ref b), some (.int p), some (.int (m : Int)), some (.int (r : Int)), some (.int (z : Int)), o6, o7, o8, none, none, none, none] H := by
  unfold tPts
  walk_at "tw"
  refine ⟨b, L, p, z, rfl, I.bag, hp, by omega, by omega, hc, fun pts l9 H2 x2 hb2 nd lp pok hl dl => ?_⟩
  have I2 := I.grows x2 hb2
  have d2 : Dx (gro G H H2) (.ref l9) (ptsD pts) := gro_new dl
  generalize gro G H H2 = G2 at I2 d2
  clear I x2 hb2 dl hl
  obtain ⟨_, us, el, hl, ru, lu⟩ := d2.lst_map
  cases el
  have hl2 := I2.ex _ _ hl
  walk_at "tw"
  refine c_listL (SqL.of hl2) fun l2 f2 => ?_
  have I5 := I2.growsE (Ex.new (o := .lst us) f2)
  have s5 := I2.sub (H' := upd H2 l2 (.lst us))
  have dl5 : Dx (gro G2 H2 (upd H2 l2 (.lst us))) (.ref l2) (ptsD pts) := gro_in (.lst (grow_new f2 upd_same) (ru.mono (grow_ex I2.ex)))
  have d5 := d2.mono s5
  generalize gro G2 H2 (upd H2 l2 (.lst us)) = G5 at I5 s5 dl5 d5
  generalize upd H2 l2 (.lst us) = H5 at I5 ⊢
  clear I2 d2 ru hl hl2 f2 s5
  walk_at "tw"
  refine .inr (.inr ⟨G5, p, m, r, .ref l2, pts, rfl, I5.ex, hp, m1, r1, by omega, by omega, dl5, by omega, fun a => absurd a (by omega), fun _ a => absurd a (by omega), fun _ _ => ⟨fun a => absurd (lp.trans ez) a, fun _ al => absurd al (by rw [alike_no nd]; decide), fun _ _ => ⟨pok, sc_ok hp pok nd, fun lB x H6 e6 hB lr => ?_⟩⟩⟩)
  rw [← ez] at lr
  have I6 := I5.growsE e6
  have s6 := I5.sub (H' := H6)
  have hB' : gro G5 H5 H6 lB = some (.lst [.str "told", .ref x]) := strip_some hB fun _ z => nomatch z
  have lr' := lr.strip
  walk_at "tw"
  refine ⟨b, L, lB, x, gro G5 H5 H6, p, m, r, z, .ref l9, pts, rfl, I6, hp, ez, m1, r1, m6, r6, hB', lr', d5.mono s6, nd, pok, lp, fun G7 H7 I7 => ?_⟩
  refine c_bl ?_
  walk_at "tw"
  exact k _ _ _ I7
def tGo (K : PySem.W.Frag) : TS :=
    (tSeq (tAsg (tCall (sp__law_asked K) [] E0 (tCons (tVar 7) (tCons (tVar 2) (tCons (tVar 3) (tCons (tVar 4) (tCons (tC .non) tNil)))))) (gName 8))
    (tCut (tIfS (tTest (tOp uIsN (tVar 6) (tC .non))) (tIfS (tNot (tB (tCall sp__law_same [] E0 (tCons (tVar 8) (tCons (tCall sp__law_due [] E0 (tCons (tC (.str "BadPoints")) (tCons (tLst (tCons (tC (.str "number")) tNil)) tNil))) tNil))))) (tRet (tC (.bl false))) tNext) (tIfS (tOr (tTest (tOp (uEq K) (tCall sp__law_draw [] E0 (tCons (tVar 1) (tCons (tC (.int 3)) tNil))) (tC (.int 0)))) (tAnd (tTest (tOp (uGt K) (tVar 2) (tC (.int 0)))) (tTest (tOp (uGt K) (tVar 5) (tOp (uAdd K) (tVar 2) (tC (.int 1))))))) (tIfS (tNot (tB (tCall (sp__law_made K) [] E0 (tCons (tVar 1) (tCons (tVar 2) (tCons (tVar 3) (tCons (tVar 4) (tCons (tVar 8) (tCons (tVar 6) tNil))))))))) (tRet (tC (.bl false))) tNext) (tPts K)))
    (tTail K)))
theorem law_go (K : PySem.W.Frag) {b L : Addr} {G H : Hp} {p : Int} {m r z : Nat} {Q : VK} {o0 : Option V} {v6 : V} {word : Str} (I : LawW K b L G H) (hw : word = "none" ∨ word = "window") (hp : PrN p) (ez : z = m + r - 1) (m1 : 1 ≤ m) (r1 : 1 ≤ r) (m6 : m ≤ 6) (r6 : r ≤ 6)
    (d6 : DefD p z G v6) (q : ∀ H', Q (.bl true) H') :
    tGo K { nx := fun _ H' => Q .non H', rt := Q } [o0, some (.ref b), some (.int p), some (.int (m : Int)), some (.int (r : Int)), some (.int (z : Int)), some v6, some (.str word), none, none, none, none, none] H := by
  have p31 := prN_32 hp
  unfold tGo
  with_reducible refine c_seq ?_
  with_reducible refine c_asg ?_
  have fin : ∀ (σ' : L2.St) (H' : Hp), (∃ (G' : Hp) (o6 o7 o8 o9 : Option V), σ' = [o0, some (.ref b), some (.int p), some (.int (m : Int)), some (.int (r : Int)), some (.int (z : Int)), o6, o7, o8, o9, none, none, none] ∧ LawW K b L G' H') → tTail K { nx := fun _ H' => Q .non H', rt := Q } σ' H' := by
    rintro σ' H' ⟨G', o6, o7, o8, o9, rfl, I'⟩
    exact law_tail K I' hp ez m1 r1 m6 r6 q
  rcases d6 with ⟨rfl, hp0, hz⟩ | ⟨hc, d6⟩
  · refine c_pre1 (fun v H' => LawW K b L G H' ∧ Dx H' v (faultD "BadPoints" [.str "number"])) (fun v8 H1 hv => ?_) (fun Q2 k => ?_)
    rotate_left
    · walk_at "tw"
      exact .inr (.inl ⟨G, p, m, r, word, rfl, hw, I.ex, hp, m1, r1, by omega, by omega, fun a => absurd a (by omega), fun _ a => absurd a (by omega), fun _ _ => ⟨fun _ _ u H2 e2 d2 => k _ _ ⟨I.mono e2, d2.mono (grow_in (ex0 _))⟩, fun a => absurd a (by omega)⟩⟩)
    obtain ⟨I1, d1⟩ := hv
    with_reducible refine c_name ?_
    refine c_cut _ ?_ fin
    walk_at "tw"
    refine ⟨by show 1 ≤ sizeLine; decide, fun W fW => ?_⟩
    refine due_go (Ex.refl H1) fW due_ok2 (dx_s1 "number") fun u4 H4 e4 d4 => ?_
    have I4 := I1.mono e4
    walk_at "tw"
    refine ⟨v8, u4, faultD "BadPoints" [.str "number"], rfl, d1.mono e4, d4.mono (grow_in (ex0 _)), dep_fault (.bp "number"), fun H5 e5 => ?_⟩
    have I5 := I4.mono e5
    refine c_bl ?_
    walk_at "tw"
    exact ⟨G, _, _, _, _, rfl, I5⟩
  · obtain ⟨nd, pok, lp⟩ := def_nodup hp (show 1 ≤ z by omega) (show z ≤ 15 by omega) hc
    obtain ⟨a6, us6, rfl, _⟩ := d6.lst_inv
    refine c_pre1 (fun v H' => ∃ (G' : Hp) (x lA : Addr), v = .ref lA ∧ LawW K b L G' H' ∧ Ex G G' ∧ G' lA = some (.lst [.str "told", .ref x]) ∧ LrAt K G' x p z r m (winTr p m r (defPts p z))) (fun v8 H1 hv => ?_) (fun Q2 k => ?_)
    rotate_left
    · walk_at "tw"
      refine .inr (.inl ⟨G, p, m, r, word, rfl, hw, I.ex, hp, m1, r1, by omega, by omega, fun a => absurd a (by omega), fun _ a => absurd a (by omega), fun _ _ => ⟨fun a c => by omega, fun _ => ?_⟩⟩)
      rw [← ez]
      refine ⟨pok, sc_ok hp pok nd, fun lB x H2 e2 hB lr => ?_⟩
      exact k _ _ ⟨gro G H H2, x, lB, rfl, I.growsE e2, I.sub, strip_some hB (fun _ z => nomatch z), lr.strip⟩
    obtain ⟨G1, x, lA, rfl, I1, s1, hA, lr⟩ := hv
    have d61 := d6.mono s1
    clear I d6 s1
    with_reducible refine c_name ?_
    refine c_cut _ ?_ fin
    walk_at "tw"
    refine ⟨b, L, 3, rfl, I1.bag, by decide, by decide, fun d H2 x2 hb2 d0 d3 => ?_⟩
    have I2 := I1.draw x2 hb2
    clear I1 x2 hb2
    walk_at "tw"
    refine c_ite (fun h1 => ?_) (fun h1 => ?_)
    · walk_at "tw"
      refine ⟨b, L, lA, x, G1, p, m, r, z, .ref a6, defPts p z, rfl, I2, hp, ez, m1, r1, m6, r6, hA, lr, d61, nd, pok, lp, fun G3 H3 I3 => ?_⟩
      refine c_bl ?_
      walk_at "tw"
      exact ⟨G3, _, _, _, _, rfl, I3⟩
    · walk_at "tw"
      refine c_ite (fun h2 => ?_) (fun h2 => ?_)
      · have h2 := of_decide_eq_true h2
        walk_at "tw"
        exact law_pts K I2 hp ez m1 r1 m6 r6 hc fun G3 H3 l9 I3 => ⟨G3, _, _, _, _, rfl, I3⟩
      · walk_at "tw"
        exact law_pts K I2 hp ez m1 r1 m6 r6 hc fun G3 H3 l9 I3 => ⟨G3, _, _, _, _, rfl, I3⟩
theorem def_preW {K : PySem.W.Frag} {b L : Addr} {G H : Hp} {p : Int} {z : Nat} {Q2 : VK} (I : LawW K b L G H) (hp : PrN p) (z1 : 1 ≤ z) (z14 : z ≤ 14) (k : ∀ v H', (∃ G', LawW K b L G' H' ∧ DefD p z G' v) → Q2 v H') : sp__law_default [.int p, .int (z : Int)] H Q2 E0 :=
  ⟨p, z, rfl, hp, z1, by omega, fun a c => k _ _ ⟨G, I, .inl ⟨rfl, a, c⟩⟩, fun c v H2 e2 d2 => k _ _ ⟨gro G H H2, I.growsE e2, .inr ⟨c, gro_new d2⟩⟩⟩
theorem words_of {j : Nat} {v : V} (h : [V.str "none", V.str "window"][j]? = some v) : ∃ w : Str, v = .str w ∧ (w = "none" ∨ w = "window") := by
  match j, h with
  | 0, h => cases h; exact ⟨_, rfl, .inl rfl⟩
  | 1, h => cases h; exact ⟨_, rfl, .inr rfl⟩
  | n + 2, h => cases h
def sp_law (K : PySem.W.Frag) : Sp := fun vs H Q _ => ∃ (a : Addr) (ns : List Int), vs = [.ref a] ∧ SqL K H a (ns.map V.int) ∧ ns.length ≤ 63 ∧ Tabs (tbs K) H ∧ ∀ H', Q (.bl true) H'
def t_f_law (K : PySem.W.Frag) : TS :=
    (tSeq (tAsg (tCall (sp__law_bag K) [] E0 (tCons (tVar 0) tNil)) (gName 1))
    (tSeq (tAsg (tCall sp__law_pick [] E0 (tCons (tVar 1) (tCons (tLst (tCons (tC (.int 0)) (tCons (tC (.int 0)) (tCons (tC (.int 0)) (tCons (tC (.int 3)) (tCons (tC (.int 5)) (tCons (tC (.int 7)) (tCons (tC (.int 11)) (tCons (tC (.int 13)) (tCons (tC (.int 17)) tNil)))))))))) tNil))) (gName 2))
    (tSeq (tAsg (tTup (tCons (tOp (uAdd K) (tC (.int 1)) (tCall sp__law_draw [] E0 (tCons (tVar 1) (tCons (tCall sp__law_pick [] E0 (tCons (tVar 1) (tCons (tLst (tCons (tC (.int 2)) (tCons (tC (.int 3)) (tCons (tC (.int 4)) (tCons (tC (.int 6)) tNil))))) tNil))) tNil)))) (tCons (tOp (uAdd K) (tC (.int 1)) (tCall sp__law_draw [] E0 (tCons (tVar 1) (tCons (tCall sp__law_pick [] E0 (tCons (tVar 1) (tCons (tLst (tCons (tC (.int 2)) (tCons (tC (.int 3)) (tCons (tC (.int 4)) (tCons (tC (.int 6)) tNil))))) tNil))) tNil)))) tNil))) (gTup K 2 (gCons (gName 3) (gCons (gName 4) gNil))))
    (tSeq (tAsg (tOp uSub (tOp (uAdd K) (tVar 3) (tVar 4)) (tC (.int 1))) (gName 5))
    (tSeq (tAsg (tCall sp__law_default [] E0 (tCons (tVar 2) (tCons (tVar 5) tNil))) (gName 6))
    (tSeq (tIfS (tNot (tB (tCall (sp__law_refused K) [] E0 (tCons (tVar 1) (tCons (tVar 2) (tCons (tVar 3) (tCons (tVar 4) tNil))))))) (tRet (tC (.bl false))) tNext)
    (tSeq (tAsg (tCall sp__law_pick [] E0 (tCons (tVar 1) (tCons (tLst (tCons (tC (.str "none")) (tCons (tC (.str "window")) tNil))) tNil))) (gName 7))
    (tSeq (tAsg (tCall (sp__law_asked K) [] E0 (tCons (tVar 7) (tCons (tVar 2) (tCons (tVar 3) (tCons (tVar 4) (tCons (tC .non) tNil)))))) (gName 8))
    (tCut (tIfS (tTest (tOp uIsN (tVar 6) (tC .non))) (tIfS (tNot (tB (tCall sp__law_same [] E0 (tCons (tVar 8) (tCons (tCall sp__law_due [] E0 (tCons (tC (.str "BadPoints")) (tCons (tLst (tCons (tC (.str "number")) tNil)) tNil))) tNil))))) (tRet (tC (.bl false))) tNext) (tIfS (tOr (tTest (tOp (uEq K) (tCall sp__law_draw [] E0 (tCons (tVar 1) (tCons (tC (.int 3)) tNil))) (tC (.int 0)))) (tAnd (tTest (tOp (uGt K) (tVar 2) (tC (.int 0)))) (tTest (tOp (uGt K) (tVar 5) (tOp (uAdd K) (tVar 2) (tC (.int 1))))))) (tIfS (tNot (tB (tCall (sp__law_made K) [] E0 (tCons (tVar 1) (tCons (tVar 2) (tCons (tVar 3) (tCons (tVar 4) (tCons (tVar 8) (tCons (tVar 6) tNil))))))))) (tRet (tC (.bl false))) tNext) (tSeq (tAsg (tCall sp__law_points [] E0 (tCons (tVar 1) (tCons (tVar 2) (tCons (tVar 5) tNil)))) (gName 9))
    (tIfS (tNot (tB (tCall (sp__law_made K) [] E0 (tCons (tVar 1) (tCons (tVar 2) (tCons (tVar 3) (tCons (tVar 4) (tCons (tCall (sp__law_asked K) [] E0 (tCons (tC (.str "window")) (tCons (tVar 2) (tCons (tVar 3) (tCons (tVar 4) (tCons (tCB (uList K) (tCons (tVar 9) tNil)) tNil)))))) (tCons (tVar 9) tNil))))))))) (tRet (tC (.bl false))) tNext))))
    (tSeq (tAsg (tLst tNil) (gName 10))
    (tSeq (tFor (iRng1 (tCons (tVar 3) tNil)) (gName 11) (tAsg (tOp (uAdd K) (tVar 10) (tLc (iRng1 (tCons (tVar 4) tNil)) (gName 12) tYes (tTup (tCons (tCall sp__law_base [] E0 (tCons (tVar 2) (tCons (tVar 5) (tCons (tOp (uAdd K) (tVar 11) (tVar 12)) tNil)))) (tCons (tCall sp__law_base [] E0 (tCons (tVar 2) (tCons (tVar 4) (tCons (tVar 12) tNil)))) (tCons (tCall sp__law_base [] E0 (tCons (tVar 2) (tCons (tVar 3) (tCons (tVar 11) tNil)))) tNil)))) [12])) (gName 10)))
    (tSeq (tAsg (tIf (tTest (tOp (uLt K) (tOp (uMul K) (tVar 3) (tVar 4)) (tC (.int 13)))) (tCall sp__law_dressed [] E0 (tCons (tVar 1) (tCons (tVar 2) (tCons (tVar 10) tNil)))) (tVar 10)) (gName 10))
    (tRet (tAndV (tCall (sp__law_judged K) [] E0 (tCons (tVar 1) (tCons (tVar 2) (tCons (tVar 3) (tCons (tVar 4) (tCons (tVar 10) tNil)))))) (tCall (sp__law_judged K) [] E0 (tCons (tVar 1) (tCons (tVar 2) (tCons (tVar 3) (tCons (tVar 4) (tCons (tLst tNil) tNil))))))))))))))))))))
theorem pure_law (K : PySem.W.Frag) (vs : List V) (H : Hp) (Q : VK) (E : XK) (h : sp_law K vs H Q E) : t_f_law K { nx := fun _ H' => Q .non H', rt := Q } (start ["script", "bag", "p", "many", "wide", "z", "usual", "word", "asked", "spread", "every", "i", "j"] vs) H := by
  obtain ⟨a0, ns, rfl, sq, hl, tb, q⟩ := h
  unfold t_f_law
  walk_at "tw"
  refine ⟨a0, ns, rfl, sq, hl, fun b L H1 e1 nb nL hb => ?_⟩
  have I1 : LawW K b L hp0 H1 := ⟨hb, ex0 _, rfl, fun c ps h => (by cases h), tb.ext e1⟩
  have fr : ∀ {H' : Hp}, LawW K b L hp0 H' → ∀ {l : Addr}, H' l = none → l ≠ b := fun J l h z => by
    obtain ⟨o, e⟩ := J.bag.some
    rw [z, e] at h; cases h
  clear sq e1 nb nL hb tb
  walk_at "tw"
  refine ⟨by show 9 ≤ sizeLine; decide, fun l fl => ?_⟩
  have I2 := I1.mono (Ex.new (o := .lst [V.int 0, V.int 0, V.int 0, V.int 3, V.int 5, V.int 7, V.int 11, V.int 13, V.int 17]) fl)
  refine ⟨b, L, l, _, rfl, I2.bag, fr I1 fl, upd_same, by decide, by decide, fun j v H3 hj x3 hb3 => ?_⟩
  obtain ⟨p, rfl, hp⟩ := primes_of hj
  have I3 := I2.draw x3 hb3
  clear I1 I2 fl x3 hb3 hj
  walk_at "tw"
  refine ⟨by show 4 ≤ sizeLine; decide, fun l2 fl2 => ?_⟩
  have I4 := I3.mono (Ex.new (o := .lst [V.int 2, V.int 3, V.int 4, V.int 6]) fl2)
  refine ⟨b, L, l2, _, rfl, I4.bag, fr I3 fl2, upd_same, by decide, by decide, fun j2 v2 H5 hj2 x5 hb5 => ?_⟩
  obtain ⟨zm, rfl, zm0, zm1⟩ := sizes_of hj2
  have I5 := I4.draw x5 hb5
  clear I3 I4 fl2 x5 hb5 hj2
  walk_at "tw"
  refine ⟨b, L, zm, rfl, I5.bag, zm0, by omega, fun dm H6 x6 hb6 dm0 dm1 => ?_⟩
  have I6 := I5.draw x6 hb6
  clear I5 x6 hb6
  walk_at "tw"
  refine ⟨by show 4 ≤ sizeLine; decide, fun l3 fl3 => ?_⟩
  have I7 := I6.mono (Ex.new (o := .lst [V.int 2, V.int 3, V.int 4, V.int 6]) fl3)
  refine ⟨b, L, l3, _, rfl, I7.bag, fr I6 fl3, upd_same, by decide, by decide, fun j3 v3 H8 hj3 x8 hb8 => ?_⟩
  obtain ⟨zr, rfl, zr0, zr1⟩ := sizes_of hj3
  have I8 := I7.draw x8 hb8
  clear I6 I7 fl3 x8 hb8 hj3
  walk_at "tw"
  refine ⟨b, L, zr, rfl, I8.bag, zr0, by omega, fun dr H9 x9 hb9 dr0 dr1 => ?_⟩
  have I9 := I8.draw x9 hb9
  clear I8 x9 hb9
  obtain ⟨m, hm⟩ : ∃ n : Nat, 1 + dm = (n : Int) := ⟨(1 + dm).toNat, by omega⟩
  obtain ⟨r, hr⟩ : ∃ n : Nat, 1 + dr = (n : Int) := ⟨(1 + dr).toNat, by omega⟩
  walk_at "tw"
  rw [hm, hr]
  refine ⟨by show 2 ≤ sizeLine; decide, fun t ft => ?_⟩
  have I10 := I9.mono (Ex.new (o := .tup [.int (m : Int), .int (r : Int)]) ft)
  obtain ⟨z, ez⟩ : ∃ z : Nat, z = m + r - 1 := ⟨_, rfl⟩
  walk_at "tw"
  rw [show (m : Int) + (r : Int) - 1 = (z : Int) from by omega]
  generalize upd H9 t (.tup [.int (m : Int), .int (r : Int)]) = H10 at I10 ⊢
  clear I9 ft fr
  refine def_preW I10 hp (by omega) (by omega) fun v6 H12 hv => ?_
  obtain ⟨G12, I12, d6⟩ := hv
  clear I10
  walk_at "tw"
  refine ⟨b, L, G12, p, m, r, rfl, I12, hp, by omega, by omega, by omega, by omega, fun G15 H15 I15 s15 => ?_⟩
  have d6' := d6.mono s15
  clear I12 d6 s15
  refine c_bl ?_
  refine c_iteF rfl ?_
  walk_at "tw"
  refine ⟨by show 2 ≤ sizeLine; decide, fun l4 fl4 => ?_⟩
  have I16 := I15.mono (Ex.new (o := .lst [V.str "none", V.str "window"]) fl4)
  have l4b : l4 ≠ b := fun z => by
    obtain ⟨o, e⟩ := I15.bag.some
    rw [z, e] at fl4; cases fl4
  refine ⟨b, L, l4, _, rfl, I16.bag, l4b, upd_same, by decide, by decide, fun j4 v4 H17 hj4 x17 hb17 => ?_⟩
  obtain ⟨word, rfl, hw⟩ := words_of hj4
  have I17 := I16.draw x17 hb17
  clear I15 I16 fl4 l4b x17 hb17 hj4
  with_reducible refine c_name ?_
  exact law_go K I17 hw hp ez (by omega) (by omega) (by omega) (by omega) d6' q
end TwW
namespace TwW
open Tw PySem PySem.Spec PyProof.Rows L2 Evl RZ L2H
abbrev N_f_law_gcd : List Str := ["one", "two"]
theorem sc_f_law_gcd : FnScope N_f_law_gcd ["one", "two"] (defScope s_f_law_gcd) := ⟨rfl, rfl, rfl, by decide +kernel, rfl, by decide +kernel, by decide +kernel⟩
abbrev N_f_law_num : List Str := ["p", "top", "bottom", "told", "left", "power", "part"]
theorem sc_f_law_num : FnScope N_f_law_num ["p", "top", "bottom"] (defScope s_f_law_num) := ⟨rfl, rfl, rfl, by decide +kernel, rfl, by decide +kernel, by decide +kernel⟩
abbrev N_f_law_int : List Str := ["p", "k"]
theorem sc_f_law_int : FnScope N_f_law_int ["p", "k"] (defScope s_f_law_int) := ⟨rfl, rfl, rfl, by decide +kernel, rfl, by decide +kernel, by decide +kernel⟩
abbrev N_f_law_add : List Str := ["p", "one", "two"]
theorem sc_f_law_add : FnScope N_f_law_add ["p", "one", "two"] (defScope s_f_law_add) := ⟨rfl, rfl, rfl, by decide +kernel, rfl, by decide +kernel, by decide +kernel⟩
abbrev N_f_law_mul : List Str := ["p", "one", "two"]
theorem sc_f_law_mul : FnScope N_f_law_mul ["p", "one", "two"] (defScope s_f_law_mul) := ⟨rfl, rfl, rfl, by decide +kernel, rfl, by decide +kernel, by decide +kernel⟩
abbrev N_f_law_neg : List Str := ["p", "one"]
theorem sc_f_law_neg : FnScope N_f_law_neg ["p", "one"] (defScope s_f_law_neg) := ⟨rfl, rfl, rfl, by decide +kernel, rfl, by decide +kernel, by decide +kernel⟩
abbrev N_f_law_inv : List Str := ["p", "one"]
theorem sc_f_law_inv : FnScope N_f_law_inv ["p", "one"] (defScope s_f_law_inv) := ⟨rfl, rfl, rfl, by decide +kernel, rfl, by decide +kernel, by decide +kernel⟩
abbrev N_f_law_draw : List Str := ["bag", "size", "cell", "digit"]
theorem sc_f_law_draw : FnScope N_f_law_draw ["bag", "size"] (defScope s_f_law_draw) := ⟨rfl, rfl, rfl, by decide +kernel, rfl, by decide +kernel, by decide +kernel⟩
abbrev N_f_law_pick : List Str := ["bag", "menu"]
theorem sc_f_law_pick : FnScope N_f_law_pick ["bag", "menu"] (defScope s_f_law_pick) := ⟨rfl, rfl, rfl, by decide +kernel, rfl, by decide +kernel, by decide +kernel⟩
abbrev N_f_law_small : List Str := ["bag", "p", "bottom"]
theorem sc_f_law_small : FnScope N_f_law_small ["bag", "p"] (defScope s_f_law_small) := ⟨rfl, rfl, rfl, by decide +kernel, rfl, by decide +kernel, by decide +kernel⟩
abbrev N_f_law_row : List Str := ["bag", "p", "size", "k"]
theorem sc_f_law_row : FnScope N_f_law_row ["bag", "p", "size"] (defScope s_f_law_row) := ⟨rfl, rfl, rfl, by decide +kernel, rfl, by decide +kernel, by decide +kernel⟩
abbrev N_f_law_bag : List Str := ["script", "mixed", "cell"]
theorem sc_f_law_bag : FnScope N_f_law_bag ["script"] (defScope s_f_law_bag) := ⟨rfl, rfl, rfl, by decide +kernel, rfl, by decide +kernel, by decide +kernel⟩
abbrev N_f_law_line : List Str := ["p"]
theorem sc_f_law_line : FnScope N_f_law_line ["p"] (defScope s_f_law_line) := ⟨rfl, rfl, rfl, by decide +kernel, rfl, by decide +kernel, by decide +kernel⟩
abbrev N_f_law_copied : List Str := ["thing", "one"]
theorem sc_f_law_copied : FnScope N_f_law_copied ["thing"] (defScope s_f_law_copied) := ⟨rfl, rfl, rfl, by decide +kernel, rfl, by decide +kernel, by decide +kernel⟩
abbrev N_f_law_same : List Str := ["told", "due", "k"]
theorem sc_f_law_same : FnScope N_f_law_same ["told", "due"] (defScope s_f_law_same) := ⟨rfl, rfl, rfl, by decide +kernel, rfl, by decide +kernel, by decide +kernel⟩
abbrev N_f_law_due : List Str := ["name", "fields", "base"]
theorem sc_f_law_due : FnScope N_f_law_due ["name", "fields"] (defScope s_f_law_due) := ⟨rfl, rfl, rfl, by decide +kernel, rfl, by decide +kernel, by decide +kernel⟩
abbrev N_f_law_zeros : List Str := ["p", "size"]
theorem sc_f_law_zeros : FnScope N_f_law_zeros ["p", "size"] (defScope s_f_law_zeros) := ⟨rfl, rfl, rfl, by decide +kernel, rfl, by decide +kernel, by decide +kernel⟩
abbrev N_f_law_base : List Str := ["p", "size", "k", "i"]
theorem sc_f_law_base : FnScope N_f_law_base ["p", "size", "k"] (defScope s_f_law_base) := ⟨rfl, rfl, rfl, by decide +kernel, rfl, by decide +kernel, by decide +kernel⟩
abbrev N_f_law_times : List Str := ["p", "factor", "row", "one"]
theorem sc_f_law_times : FnScope N_f_law_times ["p", "factor", "row"] (defScope s_f_law_times) := ⟨rfl, rfl, rfl, by decide +kernel, rfl, by decide +kernel, by decide +kernel⟩
abbrev N_f_law_dot : List Str := ["p", "one", "two", "k", "top", "bottom", "part", "below", "common"]
theorem sc_f_law_dot : FnScope N_f_law_dot ["p", "one", "two"] (defScope s_f_law_dot) := ⟨rfl, rfl, rfl, by decide +kernel, rfl, by decide +kernel, by decide +kernel⟩
abbrev N_f_law_combined : List Str := ["p", "factors", "rows", "size", "k", "row"]
theorem sc_f_law_combined : FnScope N_f_law_combined ["p", "factors", "rows", "size"] (defScope s_f_law_combined) := ⟨rfl, rfl, rfl, by decide +kernel, rfl, by decide +kernel, by decide +kernel⟩
abbrev N_f_law_powers : List Str := ["p", "point", "size", "told", "k"]
theorem sc_f_law_powers : FnScope N_f_law_powers ["p", "point", "size"] (defScope s_f_law_powers) := ⟨rfl, rfl, rfl, by decide +kernel, rfl, by decide +kernel, by decide +kernel⟩
abbrev N_f_law_unit : List Str := ["bag", "p"]
theorem sc_f_law_unit : FnScope N_f_law_unit ["bag", "p"] (defScope s_f_law_unit) := ⟨rfl, rfl, rfl, by decide +kernel, rfl, by decide +kernel, by decide +kernel⟩
abbrev N_f_law_mixed : List Str := ["bag", "things", "told", "one"]
theorem sc_f_law_mixed : FnScope N_f_law_mixed ["bag", "things"] (defScope s_f_law_mixed) := ⟨rfl, rfl, rfl, by decide +kernel, rfl, by decide +kernel, by decide +kernel⟩
abbrev N_f_law_points : List Str := ["bag", "p", "size", "first", "pool", "k"]
theorem sc_f_law_points : FnScope N_f_law_points ["bag", "p", "size"] (defScope s_f_law_points) := ⟨rfl, rfl, rfl, by decide +kernel, rfl, by decide +kernel, by decide +kernel⟩
abbrev N_f_law_lagrange : List Str := ["p", "spread", "told", "point", "poly", "below", "other", "zero", "k"]
theorem sc_f_law_lagrange : FnScope N_f_law_lagrange ["p", "spread"] (defScope s_f_law_lagrange) := ⟨rfl, rfl, rfl, by decide +kernel, rfl, by decide +kernel, by decide +kernel⟩
abbrev N_f_law_dressed : List Str := ["bag", "p", "triples", "told", "u", "v", "w", "one", "two"]
theorem sc_f_law_dressed : FnScope N_f_law_dressed ["bag", "p", "triples"] (defScope s_f_law_dressed) := ⟨rfl, rfl, rfl, by decide +kernel, rfl, by decide +kernel, by decide +kernel⟩
abbrev N_f_law_default : List Str := ["p", "many", "k"]
theorem sc_f_law_default : FnScope N_f_law_default ["p", "many"] (defScope s_f_law_default) := ⟨rfl, rfl, rfl, by decide +kernel, rfl, by decide +kernel, by decide +kernel⟩
abbrev N_f_law_first : List Str := ["p", "triples", "many", "wide", "i", "j", "factors", "due", "one"]
theorem sc_f_law_first : FnScope N_f_law_first ["p", "triples", "many", "wide"] (defScope s_f_law_first) := ⟨rfl, rfl, rfl, by decide +kernel, rfl, by decide +kernel, by decide +kernel⟩
abbrev N_f_law_bent : List Str := ["bag", "p", "triples", "told", "row", "at"]
theorem sc_f_law_bent : FnScope N_f_law_bent ["bag", "p", "triples"] (defScope s_f_law_bent) := ⟨rfl, rfl, rfl, by decide +kernel, rfl, by decide +kernel, by decide +kernel⟩
abbrev N_f_inverse_modulo : List Str := ["number", "modulus", "high", "low", "above", "below", "many"]
theorem sc_f_inverse_modulo : FnScope N_f_inverse_modulo ["number", "modulus"] (defScope s_f_inverse_modulo) := ⟨rfl, rfl, rfl, by decide +kernel, rfl, by decide +kernel, by decide +kernel⟩
abbrev N_m_Ground_number : List Str := ["self", "top", "bottom", "common"]
theorem sc_m_Ground_number : FnScope N_m_Ground_number ["self", "top", "bottom"] (defScope s_m_Ground_number) := ⟨rfl, rfl, rfl, by decide +kernel, rfl, by decide +kernel, by decide +kernel⟩
abbrev N_f_lowest : List Str := ["top", "bottom", "common"]
theorem sc_f_lowest : FnScope N_f_lowest ["top", "bottom"] (defScope s_f_lowest) := ⟨rfl, rfl, rfl, by decide +kernel, rfl, by decide +kernel, by decide +kernel⟩
abbrev N_m_Ground_sub : List Str := ["self", "x", "y"]
theorem sc_m_Ground_sub : FnScope N_m_Ground_sub ["self", "x", "y"] (defScope s_m_Ground_sub) := ⟨rfl, rfl, rfl, by decide +kernel, rfl, by decide +kernel, by decide +kernel⟩
abbrev N_m_Ground_mul : List Str := ["self", "x", "y"]
theorem sc_m_Ground_mul : FnScope N_m_Ground_mul ["self", "x", "y"] (defScope s_m_Ground_mul) := ⟨rfl, rfl, rfl, by decide +kernel, rfl, by decide +kernel, by decide +kernel⟩
abbrev N_m_Ground_div : List Str := ["self", "x", "y"]
theorem sc_m_Ground_div : FnScope N_m_Ground_div ["self", "x", "y"] (defScope s_m_Ground_div) := ⟨rfl, rfl, rfl, by decide +kernel, rfl, by decide +kernel, by decide +kernel⟩
abbrev N_f_zero_of : List Str := ["ground"]
theorem sc_f_zero_of : FnScope N_f_zero_of ["ground"] (defScope s_f_zero_of) := ⟨rfl, rfl, rfl, by decide +kernel, rfl, by decide +kernel, by decide +kernel⟩
abbrev N_f_one_of : List Str := ["ground"]
theorem sc_f_one_of : FnScope N_f_one_of ["ground"] (defScope s_f_one_of) := ⟨rfl, rfl, rfl, by decide +kernel, rfl, by decide +kernel, by decide +kernel⟩
abbrev N_f_unit_row : List Str := ["ground", "places", "at", "zero", "one", "k"]
theorem sc_f_unit_row : FnScope N_f_unit_row ["ground", "places", "at"] (defScope s_f_unit_row) := ⟨rfl, rfl, rfl, by decide +kernel, rfl, by decide +kernel, by decide +kernel⟩
abbrev N_f_dot : List Str := ["ground", "row", "other", "top", "bottom", "a", "b", "c", "d", "below", "x", "y"]
theorem sc_f_dot : FnScope N_f_dot ["ground", "row", "other"] (defScope s_f_dot) := ⟨rfl, rfl, rfl, by decide +kernel, rfl, by decide +kernel, by decide +kernel⟩
abbrev N_f_blend : List Str := ["ground", "numbers", "rows", "places", "zero", "used", "heads", "x", "row", "k"]
theorem sc_f_blend : FnScope N_f_blend ["ground", "numbers", "rows", "places"] (defScope s_f_blend) := ⟨rfl, rfl, rfl, by decide +kernel, rfl, by decide +kernel, by decide +kernel⟩
abbrev N_f_scaled : List Str := ["ground", "x", "row", "top", "bottom", "a", "b", "y"]
theorem sc_f_scaled : FnScope N_f_scaled ["ground", "x", "row"] (defScope s_f_scaled) := ⟨rfl, rfl, rfl, by decide +kernel, rfl, by decide +kernel, by decide +kernel⟩
abbrev N_m_LeftRight_init : List Str := ["self", "ground", "sizes", "triples", "u", "v", "w"]
theorem sc_m_LeftRight_init : FnScope N_m_LeftRight_init ["self", "ground", "sizes", "triples"] (defScope s_m_LeftRight_init) := ⟨rfl, rfl, rfl, by decide +kernel, rfl, by decide +kernel, by decide +kernel⟩
abbrev N_m_LeftRight_sizes : List Str := ["self"]
theorem sc_m_LeftRight_sizes : FnScope N_m_LeftRight_sizes ["self"] (defScope s_m_LeftRight_sizes) := ⟨rfl, rfl, rfl, by decide +kernel, rfl, by decide +kernel, by decide +kernel⟩
abbrev N_m_LeftRight_triples : List Str := ["self", "u", "v", "w"]
theorem sc_m_LeftRight_triples : FnScope N_m_LeftRight_triples ["self"] (defScope s_m_LeftRight_triples) := ⟨rfl, rfl, rfl, by decide +kernel, rfl, by decide +kernel, by decide +kernel⟩
abbrev N_m_LeftRight_tells : List Str := ["self", "a", "b", "ground", "numbers", "u", "v", "w"]
theorem sc_m_LeftRight_tells : FnScope N_m_LeftRight_tells ["self", "a", "b"] (defScope s_m_LeftRight_tells) := ⟨rfl, rfl, rfl, by decide +kernel, rfl, by decide +kernel, by decide +kernel⟩
abbrev N_f_value_rows : List Str := ["ground", "many", "points", "zero", "one", "rows", "point", "other", "others", "row", "scale", "raised", "kept", "x", "y"]
theorem sc_f_value_rows : FnScope N_f_value_rows ["ground", "many", "points"] (defScope s_f_value_rows) := ⟨rfl, rfl, rfl, by decide +kernel, rfl, by decide +kernel, by decide +kernel⟩
abbrev N_m_TooMany_init : List Str := ["self", "what", "count"]
theorem sc_m_TooMany_init : FnScope N_m_TooMany_init ["self", "what", "count"] (defScope s_m_TooMany_init) := ⟨rfl, rfl, rfl, by decide +kernel, rfl, by decide +kernel, by decide +kernel⟩
abbrev N_m_BadPoints_init : List Str := ["self", "why"]
theorem sc_m_BadPoints_init : FnScope N_m_BadPoints_init ["self", "why"] (defScope s_m_BadPoints_init) := ⟨rfl, rfl, rfl, by decide +kernel, rfl, by decide +kernel, by decide +kernel⟩
abbrev N_m_Unlike_init : List Str := ["self", "what"]
theorem sc_m_Unlike_init : FnScope N_m_Unlike_init ["self", "what"] (defScope s_m_Unlike_init) := ⟨rfl, rfl, rfl, by decide +kernel, rfl, by decide +kernel, by decide +kernel⟩
abbrev N_f_check_lengths : List Str := ["first", "second"]
theorem sc_f_check_lengths : FnScope N_f_check_lengths ["first", "second"] (defScope s_f_check_lengths) := ⟨rfl, rfl, rfl, by decide +kernel, rfl, by decide +kernel, by decide +kernel⟩
abbrev N_f_default_points : List Str := ["ground", "many", "k"]
theorem sc_f_default_points : FnScope N_f_default_points ["ground", "many"] (defScope s_f_default_points) := ⟨rfl, rfl, rfl, by decide +kernel, rfl, by decide +kernel, by decide +kernel⟩
abbrev N_f_checked_points : List Str := ["points", "many", "chosen", "k"]
theorem sc_f_checked_points : FnScope N_f_checked_points ["points", "many"] (defScope s_f_checked_points) := ⟨rfl, rfl, rfl, by decide +kernel, rfl, by decide +kernel, by decide +kernel⟩
abbrev N_f_powers_at : List Str := ["ground", "places", "point", "row", "_", "k"]
theorem sc_f_powers_at : FnScope N_f_powers_at ["ground", "places", "point"] (defScope s_f_powers_at) := ⟨rfl, rfl, rfl, by decide +kernel, rfl, by decide +kernel, by decide +kernel⟩
abbrev N_f_rectangle : List Str := ["ground", "m", "r", "points", "many", "chosen", "triples", "point", "row"]
theorem sc_f_rectangle : FnScope N_f_rectangle ["ground", "m", "r", "points"] (defScope s_f_rectangle) := ⟨rfl, rfl, rfl, by decide +kernel, rfl, by decide +kernel, by decide +kernel⟩
abbrev N_f_turn : List Str := ["program", "way", "left", "right", "answers", "u", "v", "w"]
theorem sc_f_turn : FnScope N_f_turn ["program", "way"] (defScope s_f_turn) := ⟨rfl, rfl, rfl, by decide +kernel, rfl, by decide +kernel, by decide +kernel⟩
abbrev N_f_window : List Str := ["ground", "answers", "taps", "points"]
theorem sc_f_window : FnScope N_f_window ["ground", "answers", "taps", "points"] (defScope s_f_window) := ⟨rfl, rfl, rfl, by decide +kernel, rfl, by decide +kernel, by decide +kernel⟩
abbrev N_f_first_unlike : List Str := ["program", "due", "ground", "lefts", "rights", "places", "zero", "triples", "i", "seen", "j", "numbers", "u", "v", "w", "x"]
theorem sc_f_first_unlike : FnScope N_f_first_unlike ["program", "due"] (defScope s_f_first_unlike) := ⟨rfl, rfl, rfl, by decide +kernel, rfl, by decide +kernel, by decide +kernel⟩
abbrev N_f_errs_window : List Str := ["program", "answers", "taps", "ground"]
theorem sc_f_errs_window : FnScope N_f_errs_window ["program", "answers", "taps"] (defScope s_f_errs_window) := ⟨rfl, rfl, rfl, by decide +kernel, rfl, by decide +kernel, by decide +kernel⟩
abbrev N_f_unsigned : List Str := ["word", "most"]
theorem sc_f_unsigned : FnScope N_f_unsigned ["word", "most"] (defScope s_f_unsigned) := ⟨rfl, rfl, rfl, by decide +kernel, rfl, by decide +kernel, by decide +kernel⟩
abbrev N_f_is_odd_prime : List Str := ["number", "divisor"]
theorem sc_f_is_odd_prime : FnScope N_f_is_odd_prime ["number"] (defScope s_f_is_odd_prime) := ⟨rfl, rfl, rfl, by decide +kernel, rfl, by decide +kernel, by decide +kernel⟩
abbrev N_f_prime_of_line : List Str := ["line", "prime"]
theorem sc_f_prime_of_line : FnScope N_f_prime_of_line ["line"] (defScope s_f_prime_of_line) := ⟨rfl, rfl, rfl, by decide +kernel, rfl, by decide +kernel, by decide +kernel⟩
abbrev N_m_Ground_init : List Str := ["self", "line"]
theorem sc_m_Ground_init : FnScope N_m_Ground_init ["self", "line"] (defScope s_m_Ground_init) := ⟨rfl, rfl, rfl, by decide +kernel, rfl, by decide +kernel, by decide +kernel⟩
abbrev N_f_law_fault : List Str := ["e", "base", "rows", "names", "name", "fields", "one"]
theorem sc_f_law_fault : FnScope N_f_law_fault ["e", "base"] (defScope s_f_law_fault) := ⟨rfl, rfl, rfl, by decide +kernel, rfl, by decide +kernel, by decide +kernel⟩
abbrev N_f_law_asked : List Str := ["what", "p", "one", "two", "spread", "kept", "told", "e"]
theorem sc_f_law_asked : FnScope N_f_law_asked ["what", "p", "one", "two", "spread"] (defScope s_f_law_asked) := ⟨rfl, rfl, rfl, by decide +kernel, rfl, by decide +kernel, by decide +kernel⟩
abbrev N_f_law_judged : List Str := ["bag", "p", "many", "wide", "triples", "lap", "made", "other"]
theorem sc_f_law_judged : FnScope N_f_law_judged ["bag", "p", "many", "wide", "triples"] (defScope s_f_law_judged) := ⟨rfl, rfl, rfl, by decide +kernel, rfl, by decide +kernel, by decide +kernel⟩
abbrev N_f_law_refused : List Str := ["bag", "p", "many", "wide", "z", "beyond", "spread", "rows", "i", "j", "alike", "row"]
theorem sc_f_law_refused : FnScope N_f_law_refused ["bag", "p", "many", "wide"] (defScope s_f_law_refused) := ⟨rfl, rfl, rfl, by decide +kernel, rfl, by decide +kernel, by decide +kernel⟩
abbrev N_f_law_made : List Str := ["bag", "p", "many", "wide", "asked", "spread", "z", "made", "polys", "triples", "x", "h", "due", "k", "i"]
theorem sc_f_law_made : FnScope N_f_law_made ["bag", "p", "many", "wide", "asked", "spread"] (defScope s_f_law_made) := ⟨rfl, rfl, rfl, by decide +kernel, rfl, by decide +kernel, by decide +kernel⟩
abbrev N_f_law : List Str := ["script", "bag", "p", "many", "wide", "z", "usual", "word", "asked", "spread", "every", "i", "j"]
theorem sc_f_law : FnScope N_f_law ["script"] (defScope s_f_law) := ⟨rfl, rfl, rfl, by decide +kernel, rfl, by decide +kernel, by decide +kernel⟩
theorem hot3 {Pr : Str → Prop} (h1 : Pr "TooMany") (h2 : Pr "BadPoints") (h3 : Pr "Unlike") : ∀ C, C ∈ hotL → Pr C := fun C hC => by
  rcases List.mem_cons.mp hC with rfl | hC
  · exact h1
  rcases List.mem_cons.mp hC with rfl | hC
  · exact h2
  rcases List.mem_cons.mp hC with rfl | hC
  · exact h3
  · cases hC
theorem pe_constS {X : Cx} {x y : Str} {pos : Pos} (hg : Gl X x) (h : ∃ t, X.mg x = some (.str y t)) (hd : (x == ("__debug__" : Str)) = false := by decide) : PE X (.Name x pos) (tC (.str y)) := by
  obtain ⟨t, e⟩ := h
  exact (pe_glob hg e ⟨t, rfl⟩ hd)
/-- a def called by position, its defaults left out, told with its FuncData -/
structure OkS (P : Program) (w : World) (K : PySem.W.Frag) (mg : Str → Option Value) (base : Heap) (k : Nat) (x : Str) (fd : FuncData) (ds : List Value) (ps : List Str) (sp : Sp) (dvs : List V) : Prop where
  fn : FnOk P w K mg base (L2N.CX P w) k (He.ga K x) fd ps sp
  bd : Binds K fd ps ds
  vd : Vals dvs ds
  kp : PySem.W.keepIn K (.ref (He.ga K x)) = true
theorem pe_giveQ {X : Cx} {CX : CXT} {T : List (Addr × Str)} {x a1 a2 q : Str} {g c P : Addr} {k : Nat} {pg : Arguments} {bg : List Stmt} {sg : Scope} {dV kV doc pm cdv ct oc : Value} {an od : Option Addr} {osl : Array (Option Value)} {Ng : List Str} {e1 : Expr}
    {params : Arguments} {body : Expr} {scope : Scope} {fr : List Str} {js : List Nat} {te : TE} {TT : V → Addr → Addr → List (Option V) → Hp → VK → Prop} {E : XK} {p lpos pos : Pos} (hq : X.env.qual ++ "<lambda>" = q) (hg : Gl X x) (hm : X.mg x = some (.ref g)) (hk : PySem.W.keepIn X.K (.ref g) = true)
    (lk : X.K.lookup g = some ⟨oc, od, .func (PySem.W.fnOf x x pg bg sg dV kV doc pm an cdv ct), osl⟩) (hcg : PySem.W.codeIn X.K cdv x = true) (hb : L2.Binds X.K (PySem.W.fnOf x x pg bg sg dV kV doc pm an cdv ct) [a1, a2] []) (Sg : FnScope Ng [a1, a2] sg)
    (TB : LamX.TabB X.base X.mg c P) (hcode : X.env.code = .ref c) (hmT : (P, q) ∈ T) (hu : ∀ p ∈ T, p.1 = P → p.2 = q) (hr : Room (k + 1) X.A) (hdef : defaultsOf params X.env = ([], []))
    (hfree : (scope.names.all fun y => !decide (y.2 = .free) || (decide (X.env.scope.names.lookup y.1 = some .cell) || decide (X.env.scope.names.lookup y.1 = some .free))) = true) (hfr : ∀ y ∈ fr, (y, NameKind.free) ∈ scope.names) (hjs : js.map (fun j => X.N[j]?) = fr.map some)
    (hx : Passes CX X E) (h1 : PE X e1 te)
    (hG : ∀ (f c' : Addr) (pm' ctv : Value) (s : Shared) (H : Hp) (v : V) (ws : List (Option V)) (Q : VK), Room k (X.A.deeper (envOfC x sg s.heap.objs.size g cdv)) → NdefX.CellsAt (cloFrom X.env.cells scope.names []) fr ws s.heap H →
      s.heap.get? f = some (PySem.W.kla_obj "<lambda>" q params body scope (cloFrom X.env.cells scope.names []) pm' c' ctv) → H f = none → f ∉ frs X.stack → TT v f c' ws H Q →
      ∃ t, PSs (cxOf CX X.prog X.w X.K X.mg X.base Ng x sg g cdv X.A X.stack s H E) bg t ∧ t { nx := fun _ H' => Q .non H', rt := Q } (L2.start Ng [v, .ref f]) H)
    (hdb : (x == ("__debug__" : Str)) = false := by decide) (he : starEach (e1 :: [.Lambda params body scope lpos]) X.env = (false, eval e1 X.env) :: starEach [.Lambda params body scope lpos] X.env := by rfl) :
    PE X (.Call (.Name x p) [e1, .Lambda params body scope lpos] [] pos) (tGive T q js te TT) := by
  subst hq
  refine pe_give hg hm hk lk hcg hb Sg TB hcode hmT hu hr hdef (fun y hy e => ?_) hfr hjs hx h1 hG hdb he
  have z := List.all_eq_true.mp hfree y hy
  rw [e] at z
  simp only [Bool.or_eq_true, decide_eq_true_eq, decide_true, Bool.not_true, Bool.false_eq_true, false_or] at z
  exact z
structure Txt (K : PySem.W.Frag) (mg : Str → Option Value) : Prop where
  b_abs : mg "abs" = none
  b_any : mg "any" = none
  b_bool : mg "bool" = none
  b_int : mg "int" = none
  b_isinstance : mg "isinstance" = none
  b_len : mg "len" = none
  b_list : mg "list" = none
  b_max : mg "max" = none
  b_min : mg "min" = none
  b_range : mg "range" = none
  b_str : mg "str" = none
  b_sum : mg "sum" = none
  b_tuple : mg "tuple" = none
  b_zip : mg "zip" = none
  c_FAR : ∃ t, mg "FAR" = some (.str "far" t)
  c_GREATEST_PRIME : ∃ t, mg "GREATEST_PRIME" = some (.int 10007 t)
  c_MOST_PRODUCTS : ∃ t, mg "MOST_PRODUCTS" = some (.int 60 t)
  c_MOST_SIZE : ∃ t, mg "MOST_SIZE" = some (.int 12 t)
  cl_Ground : Cls K (He.ga K "Ground")
  cl_LeftRight : Cls K (He.ga K "LeftRight")
  ex_BadPoints : OexC K (He.ga K "BadPoints") ∧ PySem.W.findIn K (.ref (He.ga K "BadPoints")) "__init__" = some (some (.ref (He.ma K (He.ga K "BadPoints") "__init__"))) ∧ PySem.W.typeIn K (.ref (He.ma K (He.ga K "BadPoints") "__init__")) = some (.type "function") ∧ mg "BadPoints" = some (.ref (He.ga K "BadPoints"))
  ex_TooMany : OexC K (He.ga K "TooMany") ∧ PySem.W.findIn K (.ref (He.ga K "TooMany")) "__init__" = some (some (.ref (He.ma K (He.ga K "TooMany") "__init__"))) ∧ PySem.W.typeIn K (.ref (He.ma K (He.ga K "TooMany") "__init__")) = some (.type "function") ∧ mg "TooMany" = some (.ref (He.ga K "TooMany"))
  ex_Unlike : OexC K (He.ga K "Unlike") ∧ PySem.W.findIn K (.ref (He.ga K "Unlike")) "__init__" = some (some (.ref (He.ma K (He.ga K "Unlike") "__init__"))) ∧ PySem.W.typeIn K (.ref (He.ma K (He.ga K "Unlike") "__init__")) = some (.type "function") ∧ mg "Unlike" = some (.ref (He.ga K "Unlike"))
  g_BadFormula : mg "BadFormula" = some (.ref (He.ga K "BadFormula"))
  g_BadGround : mg "BadGround" = some (.ref (He.ga K "BadGround"))
  g_BadName : mg "BadName" = some (.ref (He.ga K "BadName"))
  g_BadNumber : mg "BadNumber" = some (.ref (He.ga K "BadNumber"))
  g_BadPoints : mg "BadPoints" = some (.ref (He.ga K "BadPoints"))
  g_BadProgram : mg "BadProgram" = some (.ref (He.ga K "BadProgram"))
  g_BadScript : mg "BadScript" = some (.ref (He.ga K "BadScript"))
  g_BadTable : mg "BadTable" = some (.ref (He.ga K "BadTable"))
  g_Broken : mg "Broken" = some (.ref (He.ga K "Broken"))
  g_Endless : mg "Endless" = some (.ref (He.ga K "Endless"))
  g_Enough : mg "Enough" = some (.ref (He.ga K "Enough"))
  g_Ground : mg "Ground" = some (.ref (He.ga K "Ground"))
  g_LeftRight : mg "LeftRight" = some (.ref (He.ga K "LeftRight"))
  g_NoSuch : mg "NoSuch" = some (.ref (He.ga K "NoSuch"))
  g_NotLeast : mg "NotLeast" = some (.ref (He.ga K "NotLeast"))
  g_NotLow : mg "NotLow" = some (.ref (He.ga K "NotLow"))
  g_NotRight : mg "NotRight" = some (.ref (He.ga K "NotRight"))
  g_NothingLeft : mg "NothingLeft" = some (.ref (He.ga K "NothingLeft"))
  g_Refused : mg "Refused" = some (.ref (He.ga K "Refused"))
  g_Stops : mg "Stops" = some (.ref (He.ga K "Stops"))
  g_TooMany : mg "TooMany" = some (.ref (He.ga K "TooMany"))
  g_Unlike : mg "Unlike" = some (.ref (He.ga K "Unlike"))
  g__first_unlike : mg "_first_unlike" = some (.ref (He.ga K "_first_unlike"))
  g__law_add : mg "_law_add" = some (.ref (He.ga K "_law_add"))
  g__law_asked : mg "_law_asked" = some (.ref (He.ga K "_law_asked"))
  g__law_bag : mg "_law_bag" = some (.ref (He.ga K "_law_bag"))
  g__law_base : mg "_law_base" = some (.ref (He.ga K "_law_base"))
  g__law_bent : mg "_law_bent" = some (.ref (He.ga K "_law_bent"))
  g__law_combined : mg "_law_combined" = some (.ref (He.ga K "_law_combined"))
  g__law_copied : mg "_law_copied" = some (.ref (He.ga K "_law_copied"))
  g__law_default : mg "_law_default" = some (.ref (He.ga K "_law_default"))
  g__law_dot : mg "_law_dot" = some (.ref (He.ga K "_law_dot"))
  g__law_draw : mg "_law_draw" = some (.ref (He.ga K "_law_draw"))
  g__law_dressed : mg "_law_dressed" = some (.ref (He.ga K "_law_dressed"))
  g__law_due : mg "_law_due" = some (.ref (He.ga K "_law_due"))
  g__law_fault : mg "_law_fault" = some (.ref (He.ga K "_law_fault"))
  g__law_first : mg "_law_first" = some (.ref (He.ga K "_law_first"))
  g__law_gcd : mg "_law_gcd" = some (.ref (He.ga K "_law_gcd"))
  g__law_int : mg "_law_int" = some (.ref (He.ga K "_law_int"))
  g__law_inv : mg "_law_inv" = some (.ref (He.ga K "_law_inv"))
  g__law_judged : mg "_law_judged" = some (.ref (He.ga K "_law_judged"))
  g__law_lagrange : mg "_law_lagrange" = some (.ref (He.ga K "_law_lagrange"))
  g__law_line : mg "_law_line" = some (.ref (He.ga K "_law_line"))
  g__law_made : mg "_law_made" = some (.ref (He.ga K "_law_made"))
  g__law_mixed : mg "_law_mixed" = some (.ref (He.ga K "_law_mixed"))
  g__law_mul : mg "_law_mul" = some (.ref (He.ga K "_law_mul"))
  g__law_neg : mg "_law_neg" = some (.ref (He.ga K "_law_neg"))
  g__law_num : mg "_law_num" = some (.ref (He.ga K "_law_num"))
  g__law_pick : mg "_law_pick" = some (.ref (He.ga K "_law_pick"))
  g__law_points : mg "_law_points" = some (.ref (He.ga K "_law_points"))
  g__law_powers : mg "_law_powers" = some (.ref (He.ga K "_law_powers"))
  g__law_refused : mg "_law_refused" = some (.ref (He.ga K "_law_refused"))
  g__law_row : mg "_law_row" = some (.ref (He.ga K "_law_row"))
  g__law_same : mg "_law_same" = some (.ref (He.ga K "_law_same"))
  g__law_small : mg "_law_small" = some (.ref (He.ga K "_law_small"))
  g__law_times : mg "_law_times" = some (.ref (He.ga K "_law_times"))
  g__law_unit : mg "_law_unit" = some (.ref (He.ga K "_law_unit"))
  g__law_zeros : mg "_law_zeros" = some (.ref (He.ga K "_law_zeros"))
  g_blend : mg "blend" = some (.ref (He.ga K "blend"))
  g_check_lengths : mg "check_lengths" = some (.ref (He.ga K "check_lengths"))
  g_checked_points : mg "checked_points" = some (.ref (He.ga K "checked_points"))
  g_default_points : mg "default_points" = some (.ref (He.ga K "default_points"))
  g_dot : mg "dot" = some (.ref (He.ga K "dot"))
  g_errs_window : mg "errs_window" = some (.ref (He.ga K "errs_window"))
  g_inverse_modulo : mg "inverse_modulo" = some (.ref (He.ga K "inverse_modulo"))
  g_is_odd_prime : mg "is_odd_prime" = some (.ref (He.ga K "is_odd_prime"))
  g_lowest : mg "lowest" = some (.ref (He.ga K "lowest"))
  g_one_of : mg "one_of" = some (.ref (He.ga K "one_of"))
  g_powers_at : mg "powers_at" = some (.ref (He.ga K "powers_at"))
  g_prime_of_line : mg "prime_of_line" = some (.ref (He.ga K "prime_of_line"))
  g_rectangle : mg "rectangle" = some (.ref (He.ga K "rectangle"))
  g_scaled : mg "scaled" = some (.ref (He.ga K "scaled"))
  g_turn : mg "turn" = some (.ref (He.ga K "turn"))
  g_unit_row : mg "unit_row" = some (.ref (He.ga K "unit_row"))
  g_unsigned : mg "unsigned" = some (.ref (He.ga K "unsigned"))
  g_value_rows : mg "value_rows" = some (.ref (He.ga K "value_rows"))
  g_window : mg "window" = some (.ref (He.ga K "window"))
  g_zero_of : mg "zero_of" = some (.ref (He.ga K "zero_of"))
  i_gcd : mg "gcd" = some (.builtin "math.gcd")
  m_Ground_div : Meth K (He.ga K "Ground") "div" (He.ma K (He.ga K "Ground") "div")
  m_Ground_mul : Meth K (He.ga K "Ground") "mul" (He.ma K (He.ga K "Ground") "mul")
  m_Ground_number : Meth K (He.ga K "Ground") "number" (He.ma K (He.ga K "Ground") "number")
  m_Ground_sub : Meth K (He.ga K "Ground") "sub" (He.ma K (He.ga K "Ground") "sub")
  m_LeftRight_sizes : Meth K (He.ga K "LeftRight") "sizes" (He.ma K (He.ga K "LeftRight") "sizes")
  m_LeftRight_tells : Meth K (He.ga K "LeftRight") "tells" (He.ma K (He.ga K "LeftRight") "tells")
  m_LeftRight_triples : Meth K (He.ga K "LeftRight") "triples" (He.ma K (He.ga K "LeftRight") "triples")
  mk_Ground : Mk K (He.ga K "Ground") (He.ma K (He.ga K "Ground") "__init__")
  mk_LeftRight : Mk K (He.ga K "LeftRight") (He.ma K (He.ga K "LeftRight") "__init__")
  no_at : ∀ C, C ∈ hotL → PySem.W.findIn K (.ref (He.ga K C)) "at" = some none
  no_code : ∀ C, C ∈ hotL → PySem.W.findIn K (.ref (He.ga K C)) "code" = some none
  no_condition : ∀ C, C ∈ hotL → PySem.W.findIn K (.ref (He.ga K C)) "condition" = some none
  no_cost : ∀ C, C ∈ hotL → PySem.W.findIn K (.ref (He.ga K C)) "cost" = some none
  no_count : ∀ C, C ∈ hotL → PySem.W.findIn K (.ref (He.ga K C)) "count" = some none
  no_line : ∀ C, C ∈ hotL → PySem.W.findIn K (.ref (He.ga K C)) "line" = some none
  no_name : ∀ C, C ∈ hotL → PySem.W.findIn K (.ref (He.ga K C)) "name" = some none
  no_place : ∀ C, C ∈ hotL → PySem.W.findIn K (.ref (He.ga K C)) "place" = some none
  no_what : ∀ C, C ∈ hotL → PySem.W.findIn K (.ref (He.ga K C)) "what" = some none
  no_where : ∀ C, C ∈ hotL → PySem.W.findIn K (.ref (He.ga K C)) "where" = some none
  no_why : ∀ C, C ∈ hotL → PySem.W.findIn K (.ref (He.ga K C)) "why" = some none
  xf : ∀ C, C ∈ hotL → XfC K (He.ga K C)
  gr : GrK K
  lr : LrK K
  tm : TmK K
  bp : BpK K
  ul : UlK K
  ft : FtK K
  ask : AskK K
  law : LawK K
section
variable {P : Program} {w : World} {K : PySem.W.Frag} {base : Heap} {mg : Str → Option Value}
theorem ok_f_law_gcd (T : Txt K mg) {fd : FuncData} (F : FunD K "_law_gcd" "_law_gcd" (defArgs s_f_law_gcd) (defBody s_f_law_gcd) (defScope s_f_law_gcd) [] [] (He.fAd K ("_law_gcd", none)) fd)  : OkF P w K mg base (L2N.CX P w) 1 ("_law_gcd", none) ["one", "two"] sp__law_gcd := by
  refine FunD.okF F (F.ok sc_f_law_gcd (fun vs H Q E h => ?_) (fun cdv A outer s H vs Q E hr h => ⟨t_f_law_gcd K, PSs.nox ?_, pure_gcd K vs H Q E h⟩)) fun _ _ _ _ _ _ us hl => match us, hl with | [_, _], _ => rfl
  · obtain ⟨_, _, rfl, _⟩ := h; rfl
  · exact (pss_cons (ps_par (i := 0) (j := 1) rfl sc_f_law_gcd.nd rfl rfl (by decide) rfl rfl (pa_cons (pe_callB call_abs rfl T.b_abs (by decide +kernel) (pa_cons (pv 0) pa_nil)) (pa_cons (pe_callB call_abs rfl T.b_abs (by decide +kernel) (pa_cons (pv 1) pa_nil)) pa_nil)) (by rfl))
    (pss_cons (ps_while PassesOwn.never (pt_cmpR u_gt (pv 1) pe_int (nomark _)) (pss_one (ps_par (i := 0) (j := 1) rfl sc_f_law_gcd.nd rfl rfl (by decide) rfl rfl (pa_cons (pv 1) (pa_cons (pe_op u_mod (pe_callTy u_int rfl T.b_int (by decide +kernel) (pa_cons (pv 0) pa_nil)) (pv 1)) pa_nil)) (by rfl))))
    (pss_one (ps_ret (pv 0)))))
theorem ok_f_law_num (T : Txt K mg) {fd : FuncData} (F : FunD K "_law_num" "_law_num" (defArgs s_f_law_num) (defBody s_f_law_num) (defScope s_f_law_num) [] [] (He.fAd K ("_law_num", none)) fd) (G__law_gcd : OkF P w K mg base (L2N.CX P w) 1 ("_law_gcd", none) ["one", "two"] sp__law_gcd) : OkF P w K mg base (L2N.CX P w) 2 ("_law_num", none) ["p", "top", "bottom"] sp__law_num := by
  refine FunD.okF F (F.ok sc_f_law_num (fun vs H Q E h => ?_) (fun cdv A outer s H vs Q E hr h => ⟨t_f_law_num K, PSs.nox ?_, pure_num K vs H Q E h⟩)) fun _ _ _ _ _ _ us hl => match us, hl with | [_, _, _], _ => rfl
  · rcases h with ⟨_, _, _, rfl, _⟩ | ⟨_, _, _, rfl, _⟩ | ⟨_, _, _, rfl, _⟩ <;> rfl
  · exact (pss_cons (ps_if (pt_cmpR u_gt (pv 0) pe_int (nomark _)) (pss_cons (ps_par3 (i := 3) (j := 4) (l := 5) rfl sc_f_law_num.nd rfl rfl rfl (by decide) (by decide) (by decide) rfl rfl rfl (pa_cons pe_int (pa_cons (pe_op op_sub (pv 0) pe_int) (pa_cons (pe_op u_mod (pe_callTy u_int rfl T.b_int (by decide +kernel) (pa_cons (pv 2) pa_nil)) (pv 0)) pa_nil))) (by rfl))
    (pss_cons (ps_while PassesOwn.never (pt_cmpR u_gt (pv 4) pe_int (nomark _)) (pss_cons (ps_set (i := 3) sc_f_law_num.nd rfl (Or.inl rfl) (pe_ifExp (pt_cmpR (u_eq (un64 hr)) (pe_op u_mod (pe_callTy u_int rfl T.b_int (by decide +kernel) (pa_cons (pv 4) pa_nil)) pe_int) pe_int (nomark _)) (pe_op u_mod (pe_callTy u_int rfl T.b_int (by decide +kernel) (pa_cons (pe_op u_mul (pv 3) (pv 5)) pa_nil)) (pv 0)) (pv 3)))
    (pss_cons (ps_set (i := 5) sc_f_law_num.nd rfl (Or.inl rfl) (pe_op u_mod (pe_callTy u_int rfl T.b_int (by decide +kernel) (pa_cons (pe_op u_mul (pv 5) (pv 5)) pa_nil)) (pv 0)))
    (pss_one (ps_set (i := 4) sc_f_law_num.nd rfl (Or.inl rfl) (pe_op u_fdiv (pv 4) pe_int))))))
    (pss_one (ps_ret (pe_op u_mod (pe_callTy u_int rfl T.b_int (by decide +kernel) (pa_cons (pe_op u_mul (pv 1) (pv 3)) pa_nil)) (pv 0)))))) pss_nil)
    (pss_cons (ps_set (i := 6) sc_f_law_num.nd rfl (Or.inl rfl) (pe_op u_mul (pe_own G__law_gcd (hr.mono (by omega)) rfl T.g__law_gcd passN (pa_cons (pv 1) (pa_cons (pv 2) pa_nil))) (pe_ifExp (pt_cmpR u_gt (pv 2) pe_int (nomark _)) pe_int (pe_un un_neg pe_int))))
    (pss_one (ps_ret (pe_tup (pa_cons (pe_op u_fdiv (pv 1) (pv 6)) (pa_cons (pe_op u_fdiv (pv 2) (pv 6)) pa_nil)))))))
theorem ok_f_law_int (T : Txt K mg) {fd : FuncData} (F : FunD K "_law_int" "_law_int" (defArgs s_f_law_int) (defBody s_f_law_int) (defScope s_f_law_int) [] [] (He.fAd K ("_law_int", none)) fd)  : OkF P w K mg base (L2N.CX P w) 1 ("_law_int", none) ["p", "k"] sp__law_int := by
  refine FunD.okF F (F.ok sc_f_law_int (fun vs H Q E h => ?_) (fun cdv A outer s H vs Q E hr h => ⟨t_f_law_int K, PSs.nox ?_, pure_int K vs H Q E h⟩)) fun _ _ _ _ _ _ us hl => match us, hl with | [_, _], _ => rfl
  · obtain ⟨_, _, _, rfl, _⟩ := h; rfl
  · exact (pss_one (ps_ret (pe_ifExp (pt_cmpR u_gt (pv 0) pe_int (nomark _)) (pe_op u_mod (pe_callTy u_int rfl T.b_int (by decide +kernel) (pa_cons (pv 1) pa_nil)) (pv 0)) (pe_tup (pa_cons (pv 1) (pa_cons pe_int pa_nil))))))
theorem ok_f_law_add (T : Txt K mg) {fd : FuncData} (F : FunD K "_law_add" "_law_add" (defArgs s_f_law_add) (defBody s_f_law_add) (defScope s_f_law_add) [] [] (He.fAd K ("_law_add", none)) fd) (G__law_num : OkF P w K mg base (L2N.CX P w) 2 ("_law_num", none) ["p", "top", "bottom"] sp__law_num) : OkF P w K mg base (L2N.CX P w) 3 ("_law_add", none) ["p", "one", "two"] sp__law_add := by
  refine FunD.okF F (F.ok sc_f_law_add (fun vs H Q E h => ?_) (fun cdv A outer s H vs Q E hr h => ⟨t_f_law_add K, PSs.nox ?_, pure_add K vs H Q E h⟩)) fun _ _ _ _ _ _ us hl => match us, hl with | [_, _, _], _ => rfl
  · obtain ⟨_, _, _, _, _, _, _, _, rfl, _⟩ := h; rfl
  · exact (pss_cons (ps_if (pt_cmpR u_gt (pv 0) pe_int (nomark _)) (pss_one (ps_ret (pe_op u_mod (pe_callTy u_int rfl T.b_int (by decide +kernel) (pa_cons (pe_op u_add (pv 1) (pv 2)) pa_nil)) (pv 0)))) pss_nil)
    (pss_cons (ps_if (PW.pt (pw_and (pt_cmpR (u_eq (un64 hr)) (pe_ix u_ix (pv 1) pe_int (fun _ _ => rfl)) pe_int (nomark _)) (pw_and1 (pt_cmpR (u_eq (un64 hr)) (pe_ix u_ix (pv 2) pe_int (fun _ _ => rfl)) pe_int (nomark _))))) (pss_one (ps_ret (pe_tup (pa_cons (pe_op u_add (pe_ix u_ix (pv 1) pe_int (fun _ _ => rfl)) (pe_ix u_ix (pv 2) pe_int (fun _ _ => rfl))) (pa_cons pe_int pa_nil))))) pss_nil)
    (pss_one (ps_ret (pe_own G__law_num (hr.mono (by omega)) rfl T.g__law_num passN (pa_cons pe_int (pa_cons (pe_op u_add (pe_op u_mul (pe_ix u_ix (pv 1) pe_int (fun _ _ => rfl)) (pe_ix u_ix (pv 2) pe_int (fun _ _ => rfl))) (pe_op u_mul (pe_ix u_ix (pv 2) pe_int (fun _ _ => rfl)) (pe_ix u_ix (pv 1) pe_int (fun _ _ => rfl)))) (pa_cons (pe_op u_mul (pe_ix u_ix (pv 1) pe_int (fun _ _ => rfl)) (pe_ix u_ix (pv 2) pe_int (fun _ _ => rfl))) pa_nil))))))))
theorem ok_f_law_mul (T : Txt K mg) {fd : FuncData} (F : FunD K "_law_mul" "_law_mul" (defArgs s_f_law_mul) (defBody s_f_law_mul) (defScope s_f_law_mul) [] [] (He.fAd K ("_law_mul", none)) fd) (G__law_num : OkF P w K mg base (L2N.CX P w) 2 ("_law_num", none) ["p", "top", "bottom"] sp__law_num) : OkF P w K mg base (L2N.CX P w) 3 ("_law_mul", none) ["p", "one", "two"] sp__law_mul := by
  refine FunD.okF F (F.ok sc_f_law_mul (fun vs H Q E h => ?_) (fun cdv A outer s H vs Q E hr h => ⟨t_f_law_mul K, PSs.nox ?_, pure_mul K vs H Q E h⟩)) fun _ _ _ _ _ _ us hl => match us, hl with | [_, _, _], _ => rfl
  · obtain ⟨_, _, _, _, _, _, _, _, rfl, _⟩ := h; rfl
  · exact (pss_cons (ps_if (pt_cmpR u_gt (pv 0) pe_int (nomark _)) (pss_one (ps_ret (pe_op u_mod (pe_callTy u_int rfl T.b_int (by decide +kernel) (pa_cons (pe_op u_mul (pv 1) (pv 2)) pa_nil)) (pv 0)))) pss_nil)
    (pss_cons (ps_if (PW.pt (pw_and (pt_cmpR (u_eq (un64 hr)) (pe_ix u_ix (pv 1) pe_int (fun _ _ => rfl)) pe_int (nomark _)) (pw_and1 (pt_cmpR (u_eq (un64 hr)) (pe_ix u_ix (pv 2) pe_int (fun _ _ => rfl)) pe_int (nomark _))))) (pss_one (ps_ret (pe_tup (pa_cons (pe_op u_mul (pe_ix u_ix (pv 1) pe_int (fun _ _ => rfl)) (pe_ix u_ix (pv 2) pe_int (fun _ _ => rfl))) (pa_cons pe_int pa_nil))))) pss_nil)
    (pss_one (ps_ret (pe_own G__law_num (hr.mono (by omega)) rfl T.g__law_num passN (pa_cons pe_int (pa_cons (pe_op u_mul (pe_ix u_ix (pv 1) pe_int (fun _ _ => rfl)) (pe_ix u_ix (pv 2) pe_int (fun _ _ => rfl))) (pa_cons (pe_op u_mul (pe_ix u_ix (pv 1) pe_int (fun _ _ => rfl)) (pe_ix u_ix (pv 2) pe_int (fun _ _ => rfl))) pa_nil))))))))
theorem ok_f_law_neg (T : Txt K mg) {fd : FuncData} (F : FunD K "_law_neg" "_law_neg" (defArgs s_f_law_neg) (defBody s_f_law_neg) (defScope s_f_law_neg) [] [] (He.fAd K ("_law_neg", none)) fd)  : OkF P w K mg base (L2N.CX P w) 1 ("_law_neg", none) ["p", "one"] sp__law_neg := by
  refine FunD.okF F (F.ok sc_f_law_neg (fun vs H Q E h => ?_) (fun cdv A outer s H vs Q E hr h => ⟨t_f_law_neg K, PSs.nox ?_, pure_neg K vs H Q E h⟩)) fun _ _ _ _ _ _ us hl => match us, hl with | [_, _], _ => rfl
  · obtain ⟨_, _, _, _, rfl, _⟩ := h; rfl
  · exact (pss_one (ps_ret (pe_ifExp (pt_cmpR u_gt (pv 0) pe_int (nomark _)) (pe_op u_mod (pe_callTy u_int rfl T.b_int (by decide +kernel) (pa_cons (pe_un un_neg (pv 1)) pa_nil)) (pv 0)) (pe_tup (pa_cons (pe_un un_neg (pe_ix u_ix (pv 1) pe_int (fun _ _ => rfl))) (pa_cons (pe_ix u_ix (pv 1) pe_int (fun _ _ => rfl)) pa_nil))))))
theorem ok_f_law_inv (T : Txt K mg) {fd : FuncData} (F : FunD K "_law_inv" "_law_inv" (defArgs s_f_law_inv) (defBody s_f_law_inv) (defScope s_f_law_inv) [] [] (He.fAd K ("_law_inv", none)) fd) (G__law_num : OkF P w K mg base (L2N.CX P w) 2 ("_law_num", none) ["p", "top", "bottom"] sp__law_num) : OkF P w K mg base (L2N.CX P w) 3 ("_law_inv", none) ["p", "one"] sp__law_inv := by
  refine FunD.okF F (F.ok sc_f_law_inv (fun vs H Q E h => ?_) (fun cdv A outer s H vs Q E hr h => ⟨t_f_law_inv K, PSs.nox ?_, pure_inv K vs H Q E h⟩)) fun _ _ _ _ _ _ us hl => match us, hl with | [_, _], _ => rfl
  · obtain ⟨_, _, _, _, rfl, _⟩ := h; rfl
  · exact (pss_one (ps_ret (pe_ifExp (pt_cmpR u_gt (pv 0) pe_int (nomark _)) (pe_own G__law_num (hr.mono (by omega)) rfl T.g__law_num passN (pa_cons (pv 0) (pa_cons pe_int (pa_cons (pv 1) pa_nil)))) (pe_own G__law_num (hr.mono (by omega)) rfl T.g__law_num passN (pa_cons pe_int (pa_cons (pe_ix u_ix (pv 1) pe_int (fun _ _ => rfl)) (pa_cons (pe_ix u_ix (pv 1) pe_int (fun _ _ => rfl)) pa_nil)))))))
theorem ok_f_law_draw (T : Txt K mg) {fd : FuncData} (F : FunD K "_law_draw" "_law_draw" (defArgs s_f_law_draw) (defBody s_f_law_draw) (defScope s_f_law_draw) [] [] (He.fAd K ("_law_draw", none)) fd)  : OkF P w K mg base (L2N.CX P w) 1 ("_law_draw", none) ["bag", "size"] sp__law_draw := by
  refine FunD.okF F (F.ok sc_f_law_draw (fun vs H Q E h => ?_) (fun cdv A outer s H vs Q E hr h => ⟨t_f_law_draw K, PSs.nox ?_, pure_draw K vs H Q E h⟩)) fun _ _ _ _ _ _ us hl => match us, hl with | [_, _], _ => rfl
  · obtain ⟨_, _, _, rfl, _⟩ := h; rfl
  · exact (pss_cons (ps_asg (pe_op u_add (pe_ix u_ix (pv 0) pe_int (fun _ _ => rfl)) pe_int) (pg_sub (pv 0) pe_int set_list))
    (pss_cut (ps_if (PW.pt (pw_and (pt_cmpR (u_eq (un64 hr)) (pe_ix u_ix (pv 0) pe_int (fun _ _ => rfl)) pe_int (nomark _)) (pw_and1 (pt_cmpR (u_lt (un64 hr)) (pe_ix u_ix (pv 0) pe_int (fun _ _ => rfl)) (pe_callB u_len rfl T.b_len (by decide +kernel) (pa_cons (pe_ix u_ix (pv 0) pe_int (fun _ _ => rfl)) pa_nil)) (nomark _))))) (pss_cons (ps_set (i := 2) sc_f_law_draw.nd rfl (Or.inl rfl) (pe_ix u_ix (pe_ix u_ix (pv 0) pe_int (fun _ _ => rfl)) (pe_ix u_ix (pv 0) pe_int (fun _ _ => rfl)) (fun _ _ => rfl)))
    (pss_cons (ps_asg (pe_op u_add (pe_ix u_ix (pv 0) pe_int (fun _ _ => rfl)) pe_int) (pg_sub (pv 0) pe_int set_list))
    (pss_one (ps_if (pt_cmpR u_ge (pv 2) (pe_op op_pow pe_int pe_int) (nomark _)) (pss_one (ps_asg (pe_callTy u_int rfl T.b_int (by decide +kernel) (pa_cons (pv 2) pa_nil)) (pg_sub (pv 0) pe_int set_list))) (pss_one (ps_asg (pe_op u_mod (pe_callTy u_int rfl T.b_int (by decide +kernel) (pa_cons (pe_op u_add (pe_op u_add (pe_op u_mul (pe_ix u_ix (pv 0) pe_int (fun _ _ => rfl)) pe_int) (pe_op u_mul (pe_op u_mod (pe_callTy u_int rfl T.b_int (by decide +kernel) (pa_cons (pv 2) pa_nil)) pe_int) pe_int)) pe_int) pa_nil)) pe_int) (pg_sub (pv 0) pe_int set_list))))))) pss_nil)
    (pss_cons (ps_if (pt_cmpR u_gt (pe_ix u_ix (pv 0) pe_int (fun _ _ => rfl)) pe_int (nomark _)) (pss_cons (ps_set (i := 3) sc_f_law_draw.nd rfl (Or.inl rfl) (pe_op u_mod (pe_callTy u_int rfl T.b_int (by decide +kernel) (pa_cons (pe_ix u_ix (pv 0) pe_int (fun _ _ => rfl)) pa_nil)) (pv 1)))
    (pss_cons (ps_asg (pe_op u_fdiv (pe_ix u_ix (pv 0) pe_int (fun _ _ => rfl)) (pv 1)) (pg_sub (pv 0) pe_int set_list))
    (pss_one (ps_ret (pv 3))))) pss_nil)
    (pss_cons (ps_asg (pe_op u_mod (pe_callTy u_int rfl T.b_int (by decide +kernel) (pa_cons (pe_op u_add (pe_op u_add (pe_op op_pow (pe_ix u_ix (pv 0) pe_int (fun _ _ => rfl)) pe_int) (pe_op u_mul (pe_ix u_ix (pv 0) pe_int (fun _ _ => rfl)) pe_int)) pe_int) pa_nil)) pe_int) (pg_sub (pv 0) pe_int set_list))
    (pss_one (ps_ret (pe_op u_mod (pe_callTy u_int rfl T.b_int (by decide +kernel) (pa_cons (pe_op u_add (pe_op u_fdiv (pe_ix u_ix (pv 0) pe_int (fun _ _ => rfl)) pe_int) (pe_op u_mul (pe_op u_mod (pe_callTy u_int rfl T.b_int (by decide +kernel) (pa_cons (pe_ix u_ix (pv 0) pe_int (fun _ _ => rfl)) pa_nil)) pe_int) pe_int)) pa_nil)) (pv 1))))))))
theorem ok_f_law_pick (T : Txt K mg) {fd : FuncData} (F : FunD K "_law_pick" "_law_pick" (defArgs s_f_law_pick) (defBody s_f_law_pick) (defScope s_f_law_pick) [] [] (He.fAd K ("_law_pick", none)) fd) (G__law_draw : OkF P w K mg base (L2N.CX P w) 1 ("_law_draw", none) ["bag", "size"] sp__law_draw) : OkF P w K mg base (L2N.CX P w) 2 ("_law_pick", none) ["bag", "menu"] sp__law_pick := by
  refine FunD.okF F (F.ok sc_f_law_pick (fun vs H Q E h => ?_) (fun cdv A outer s H vs Q E hr h => ⟨t_f_law_pick K, PSs.nox ?_, pure_pick K vs H Q E h⟩)) fun _ _ _ _ _ _ us hl => match us, hl with | [_, _], _ => rfl
  · obtain ⟨_, _, _, _, rfl, _⟩ := h; rfl
  · exact (pss_one (ps_ret (pe_ix u_ix (pv 1) (pe_own G__law_draw (hr.mono (by omega)) rfl T.g__law_draw passN (pa_cons (pv 0) (pa_cons (pe_callB u_len rfl T.b_len (by decide +kernel) (pa_cons (pv 1) pa_nil)) pa_nil))) (fun _ _ => rfl))))
theorem ok_f_law_pickT (T : Txt K mg) {fd : FuncData} (F : FunD K "_law_pick" "_law_pick" (defArgs s_f_law_pick) (defBody s_f_law_pick) (defScope s_f_law_pick) [] [] (He.fAd K ("_law_pick", none)) fd) (G__law_draw : OkF P w K mg base (L2N.CX P w) 1 ("_law_draw", none) ["bag", "size"] sp__law_draw) : OkF P w K mg base (L2N.CX P w) 2 ("_law_pick", none) ["bag", "menu"] sp__law_pickT := by
  refine FunD.okF F (F.ok sc_f_law_pick (fun vs H Q E h => ?_) (fun cdv A outer s H vs Q E hr h => ⟨t_f_law_pick K, PSs.nox ?_, pure_pickT K vs H Q E h⟩)) fun _ _ _ _ _ _ us hl => match us, hl with | [_, _], _ => rfl
  · obtain ⟨_, _, _, _, rfl, _⟩ := h; rfl
  · exact (pss_one (ps_ret (pe_ix u_ix (pv 1) (pe_own G__law_draw (hr.mono (by omega)) rfl T.g__law_draw passN (pa_cons (pv 0) (pa_cons (pe_callB u_len rfl T.b_len (by decide +kernel) (pa_cons (pv 1) pa_nil)) pa_nil))) (fun _ _ => rfl))))
theorem ok_f_law_small (T : Txt K mg) {fd : FuncData} (F : FunD K "_law_small" "_law_small" (defArgs s_f_law_small) (defBody s_f_law_small) (defScope s_f_law_small) [] [] (He.fAd K ("_law_small", none)) fd) (G__law_draw : OkF P w K mg base (L2N.CX P w) 1 ("_law_draw", none) ["bag", "size"] sp__law_draw) (G__law_num : OkF P w K mg base (L2N.CX P w) 2 ("_law_num", none) ["p", "top", "bottom"] sp__law_num) (G__law_pick : OkF P w K mg base (L2N.CX P w) 2 ("_law_pick", none) ["bag", "menu"] sp__law_pick) : OkF P w K mg base (L2N.CX P w) 3 ("_law_small", none) ["bag", "p"] sp__law_small := by
  refine FunD.okF F (F.ok sc_f_law_small (fun vs H Q E h => ?_) (fun cdv A outer s H vs Q E hr h => ⟨t_f_law_small K, PSs.nox ?_, pure_small K vs H Q E h⟩)) fun _ _ _ _ _ _ us hl => match us, hl with | [_, _], _ => rfl
  · obtain ⟨_, _, _, rfl, _⟩ := h; rfl
  · exact (pss_cons (ps_if (pt_cmpR u_gt (pv 1) pe_int (nomark _)) (pss_one (ps_ret (pe_own G__law_draw (hr.mono (by omega)) rfl T.g__law_draw passN (pa_cons (pv 0) (pa_cons (pv 1) pa_nil))))) pss_nil)
    (pss_cons (ps_set (i := 2) sc_f_law_small.nd rfl (Or.inl rfl) (pe_own G__law_pick (hr.mono (by omega)) rfl T.g__law_pick passN (pa_cons (pv 0) (pa_cons (pe_lst (pa_cons pe_int (pa_cons pe_int (pa_cons pe_int (pa_cons pe_int (pa_cons pe_int pa_nil)))))) pa_nil))))
    (pss_one (ps_ret (pe_own G__law_num (hr.mono (by omega)) rfl T.g__law_num passN (pa_cons pe_int (pa_cons (pe_op op_sub (pe_own G__law_draw (hr.mono (by omega)) rfl T.g__law_draw passN (pa_cons (pv 0) (pa_cons pe_int pa_nil))) pe_int) (pa_cons (pv 2) pa_nil))))))))
theorem ok_f_law_row (T : Txt K mg) {fd : FuncData} (F : FunD K "_law_row" "_law_row" (defArgs s_f_law_row) (defBody s_f_law_row) (defScope s_f_law_row) [] [] (He.fAd K ("_law_row", none)) fd) (G__law_small : OkF P w K mg base (L2N.CX P w) 3 ("_law_small", none) ["bag", "p"] sp__law_small) : OkF P w K mg base (L2N.CX P w) 4 ("_law_row", none) ["bag", "p", "size"] sp__law_row := by
  refine FunD.okF F (F.ok sc_f_law_row (fun vs H Q E h => ?_) (fun cdv A outer s H vs Q E hr h => ⟨t_f_law_row K, PSs.nox ?_, pure_row K vs H Q E h⟩)) fun _ _ _ _ _ _ us hl => match us, hl with | [_, _, _], _ => rfl
  · obtain ⟨_, _, _, _, rfl, _⟩ := h; rfl
  · exact (pss_one (ps_ret (pe_lc (own := [("k", 3)]) rfl sc_f_law_row.nd (pi_range1 rfl T.b_range (pa_cons (pv 2) pa_nil)) (blkOk_by (N := N_f_law_row) (sc := defScope s_f_law_row) (own := [("k", 3)]) (by decide +kernel)) (fun _ _ _ _ _ => (pg_name (i := 3) sc_f_law_row.nd rfl (Or.inl rfl))) (fun _ _ _ _ _ => pts_nil) (fun _ _ _ _ _ => (pe_own G__law_small (hr.mono (by omega)) rfl T.g__law_small passN (pa_cons (pv 0) (pa_cons (pv 1) pa_nil)))))))
theorem ok_f_law_bag (T : Txt K mg) {fd : FuncData} (F : FunD K "_law_bag" "_law_bag" (defArgs s_f_law_bag) (defBody s_f_law_bag) (defScope s_f_law_bag) [] [] (He.fAd K ("_law_bag", none)) fd)  : OkF P w K mg base (L2N.CX P w) 1 ("_law_bag", none) ["script"] (sp__law_bag K) := by
  refine FunD.okF F (F.ok sc_f_law_bag (fun vs H Q E h => ?_) (fun cdv A outer s H vs Q E hr h => ⟨t_f_law_bag K, PSs.nox ?_, pure_bag K vs H Q E h⟩)) fun _ _ _ _ _ _ us hl => match us, hl with | [_], _ => rfl
  · obtain ⟨_, _, rfl, _⟩ := h; rfl
  · exact (pss_cons (ps_set (i := 1) sc_f_law_bag.nd rfl (Or.inl rfl) pe_int)
    (pss_cons (ps_for PassesOwn.never rfl (pi_seq (pe_slice u_sl (pv 0) po_none (po_some pe_int))) (pg_name (i := 2) sc_f_law_bag.nd rfl (Or.inl rfl)) (pss_one (ps_set (i := 1) sc_f_law_bag.nd rfl (Or.inl rfl) (pe_op u_mod (pe_callTy u_int rfl T.b_int (by decide +kernel) (pa_cons (pe_op u_add (pe_op u_add (pe_op u_mul (pv 1) pe_int) (pe_op u_mod (pe_callTy u_int rfl T.b_int (by decide +kernel) (pa_cons (pv 2) pa_nil)) pe_int)) pe_int) pa_nil)) pe_int))))
    (pss_one (ps_ret (pe_lst (pa_cons (pe_callTy u_list rfl T.b_list (by decide +kernel) (pa_cons (pe_slice u_sl (pv 0) po_none (po_some pe_int)) pa_nil)) (pa_cons pe_int (pa_cons pe_int (pa_cons (pv 1) (pa_cons pe_int pa_nil))))))))))
theorem ok_f_law_line (T : Txt K mg) {fd : FuncData} (F : FunD K "_law_line" "_law_line" (defArgs s_f_law_line) (defBody s_f_law_line) (defScope s_f_law_line) [] [] (He.fAd K ("_law_line", none)) fd)  : OkF P w K mg base (L2N.CX P w) 1 ("_law_line", none) ["p"] sp__law_line := by
  refine FunD.okF F (F.ok sc_f_law_line (fun vs H Q E h => ?_) (fun cdv A outer s H vs Q E hr h => ⟨t_f_law_line K, PSs.nox ?_, pure_line K vs H Q E h⟩)) fun _ _ _ _ _ _ us hl => match us, hl with | [_], _ => rfl
  · obtain ⟨_, rfl, _⟩ := h; rfl
  · exact (pss_one (ps_ret (pe_ifExp (pt_cmpR u_gt (pv 0) pe_int (nomark _)) (pe_op u_add pe_str (pe_callTy u_str rfl T.b_str (by decide +kernel) (pa_cons (pv 0) pa_nil))) pe_str)))
theorem ok_f_law_copied (T : Txt K mg) {fd : FuncData} (F : FunD K "_law_copied" "_law_copied" (defArgs s_f_law_copied) (defBody s_f_law_copied) (defScope s_f_law_copied) [] [] (He.fAd K ("_law_copied", none)) fd)  : ∀ n : Nat, OkF P w K mg base (L2N.CX P w) (n + 1) ("_law_copied", none) ["thing"] (spC n)
  | 0 => FunD.okF F (F.ok sc_f_law_copied (fun _ _ _ _ h => h.elim) (fun _ _ _ _ _ _ _ _ _ h => h.elim)) fun _ _ _ _ _ _ us hl => match us, hl with | [_], _ => rfl
  | n + 1 => by
    have G__law_copied := ok_f_law_copied T F  n
    refine FunD.okF F (F.ok sc_f_law_copied (fun vs H Q E h => ?_) (fun cdv A outer s H vs Q E hr h => ⟨t_f_law_copied K (spC n), PSs.nox ?_, pure_copied K n vs H Q E h⟩)) fun _ _ _ _ _ _ us hl => match us, hl with | [_], _ => rfl
    · obtain ⟨_, _,  rfl, _⟩ := h; rfl
    · exact (pss_cons (ps_if (pt_val (pe_callB u_isi rfl T.b_isinstance (by decide +kernel) (pa_cons (pv 0) (pa_cons (pe_bltn rfl T.b_list (by decide +kernel) rfl) pa_nil)))) (pss_one (ps_ret (pe_lc (own := [("one", 1)]) rfl sc_f_law_copied.nd (pi_seq (pv 0)) (blkOk_by (N := N_f_law_copied) (sc := defScope s_f_law_copied) (own := [("one", 1)]) (by decide +kernel)) (fun _ _ _ _ _ => (pg_name (i := 1) sc_f_law_copied.nd rfl (Or.inl rfl))) (fun _ _ _ _ _ => pts_nil) (fun _ _ _ _ _ => (pe_own G__law_copied (hr.mono (by omega)) rfl T.g__law_copied passN (pa_cons (pv 1) pa_nil)))))) pss_nil)
    (pss_cons (ps_if (pt_val (pe_callB u_isi rfl T.b_isinstance (by decide +kernel) (pa_cons (pv 0) (pa_cons (pe_bltn rfl T.b_tuple (by decide +kernel) rfl) pa_nil)))) (pss_one (ps_ret (pe_callTy u_tuple rfl T.b_tuple (by decide +kernel) (pa_cons (pe_lc (own := [("one", 1)]) rfl sc_f_law_copied.nd (pi_seq (pv 0)) (blkOk_by (N := N_f_law_copied) (sc := defScope s_f_law_copied) (own := [("one", 1)]) (by decide +kernel)) (fun _ _ _ _ _ => (pg_name (i := 1) sc_f_law_copied.nd rfl (Or.inl rfl))) (fun _ _ _ _ _ => pts_nil) (fun _ _ _ _ _ => (pe_own G__law_copied (hr.mono (by omega)) rfl T.g__law_copied passN (pa_cons (pv 1) pa_nil)))) pa_nil)))) pss_nil)
    (pss_one (ps_ret (pv 0)))))
theorem ok_f_law_same (T : Txt K mg) {fd : FuncData} (F : FunD K "_law_same" "_law_same" (defArgs s_f_law_same) (defBody s_f_law_same) (defScope s_f_law_same) [] [] (He.fAd K ("_law_same", none)) fd)  : ∀ n : Nat, OkF P w K mg base (L2N.CX P w) (n + 1) ("_law_same", none) ["told", "due"] (spS n)
  | 0 => FunD.okF F (F.ok sc_f_law_same (fun _ _ _ _ h => h.elim) (fun _ _ _ _ _ _ _ _ _ h => h.elim)) fun _ _ _ _ _ _ us hl => match us, hl with | [_, _], _ => rfl
  | n + 1 => by
    have G__law_same := ok_f_law_same T F  n
    refine FunD.okF F (F.ok sc_f_law_same (fun vs H Q E h => ?_) (fun cdv A outer s H vs Q E hr h => ⟨t_f_law_same K (spS n), PSs.nox ?_, pure_same K n vs H Q E h⟩)) fun _ _ _ _ _ _ us hl => match us, hl with | [_, _], _ => rfl
    · obtain ⟨_, _, _,  rfl, _⟩ := h; rfl
    · exact (pss_cons (ps_if (PW.pt (pw_or (PW.pt (pw_and (pt_val (pe_callB u_isi rfl T.b_isinstance (by decide +kernel) (pa_cons (pv 1) (pa_cons (pe_bltn rfl T.b_list (by decide +kernel) rfl) pa_nil)))) (pw_and1 (pt_val (pe_callB u_isi rfl T.b_isinstance (by decide +kernel) (pa_cons (pv 0) (pa_cons (pe_bltn rfl T.b_list (by decide +kernel) rfl) pa_nil))))))) (pw_or1 (PW.pt (pw_and (pt_val (pe_callB u_isi rfl T.b_isinstance (by decide +kernel) (pa_cons (pv 1) (pa_cons (pe_bltn rfl T.b_tuple (by decide +kernel) rfl) pa_nil)))) (pw_and1 (pt_val (pe_callB u_isi rfl T.b_isinstance (by decide +kernel) (pa_cons (pv 0) (pa_cons (pe_bltn rfl T.b_tuple (by decide +kernel) rfl) pa_nil)))))))))) (pss_one (ps_ret (pe_and (pe_cmpR (u_eq (un64 hr)) (pe_callB u_len rfl T.b_len (by decide +kernel) (pa_cons (pv 0) pa_nil)) (pe_callB u_len rfl T.b_len (by decide +kernel) (pa_cons (pv 1) pa_nil)) (nomark _)) (pe_one (pe_cmpR (u_eq (un64 hr)) (pe_lc (own := [("k", 2)]) rfl sc_f_law_same.nd (pi_range1 rfl T.b_range (pa_cons (pe_callB u_len rfl T.b_len (by decide +kernel) (pa_cons (pv 1) pa_nil)) pa_nil)) (blkOk_by (N := N_f_law_same) (sc := defScope s_f_law_same) (own := [("k", 2)]) (by decide +kernel)) (fun _ _ _ _ _ => (pg_name (i := 2) sc_f_law_same.nd rfl (Or.inl rfl))) (fun _ _ _ _ _ => (pts_one (pt_not (pt_val (pe_own G__law_same (hr.mono (by omega)) rfl T.g__law_same passN (pa_cons (pe_ix u_ix (pv 0) (pv 2) (fun _ _ => rfl)) (pa_cons (pe_ix u_ix (pv 1) (pv 2) (fun _ _ => rfl)) pa_nil))))))) (fun _ _ _ _ _ => (pv 2))) (pe_lst pa_nil) (nomark _)))))) pss_nil)
    (pss_cons (ps_if (PW.pt (pw_or (pt_val (pe_callB u_isi rfl T.b_isinstance (by decide +kernel) (pa_cons (pv 1) (pa_cons (pe_bltn rfl T.b_bool (by decide +kernel) rfl) pa_nil)))) (pw_or1 (pt_val (pe_callB u_isi rfl T.b_isinstance (by decide +kernel) (pa_cons (pv 0) (pa_cons (pe_bltn rfl T.b_bool (by decide +kernel) rfl) pa_nil))))))) (pss_one (ps_ret (pe_and (pe_callB u_isi rfl T.b_isinstance (by decide +kernel) (pa_cons (pv 1) (pa_cons (pe_bltn rfl T.b_bool (by decide +kernel) rfl) pa_nil))) (pe_and (pe_callB u_isi rfl T.b_isinstance (by decide +kernel) (pa_cons (pv 0) (pa_cons (pe_bltn rfl T.b_bool (by decide +kernel) rfl) pa_nil))) (pe_one (pe_cmpR (u_eq (un64 hr)) (pv 0) (pv 1) (nomark _))))))) pss_nil)
    (pss_cons (ps_if (PW.pt (pw_or (PW.pt (pw_and (pt_val (pe_callB u_isi rfl T.b_isinstance (by decide +kernel) (pa_cons (pv 1) (pa_cons (pe_bltn rfl T.b_int (by decide +kernel) rfl) pa_nil)))) (pw_and1 (pt_val (pe_callB u_isi rfl T.b_isinstance (by decide +kernel) (pa_cons (pv 0) (pa_cons (pe_bltn rfl T.b_int (by decide +kernel) rfl) pa_nil))))))) (pw_or1 (PW.pt (pw_and (pt_val (pe_callB u_isi rfl T.b_isinstance (by decide +kernel) (pa_cons (pv 1) (pa_cons (pe_bltn rfl T.b_str (by decide +kernel) rfl) pa_nil)))) (pw_and1 (pt_val (pe_callB u_isi rfl T.b_isinstance (by decide +kernel) (pa_cons (pv 0) (pa_cons (pe_bltn rfl T.b_str (by decide +kernel) rfl) pa_nil)))))))))) (pss_one (ps_ret (pe_cmpR (u_eq (un64 hr)) (pv 0) (pv 1) (nomark _)))) pss_nil)
    (pss_one (ps_ret (pe_and (pe_cmpR op_isN (pv 0) pe_non (nomark _)) (pe_one (pe_cmpR op_isN (pv 1) pe_non (nomark _)))))))))
theorem ok_f_law_due (T : Txt K mg) {fd : FuncData} (F : FunD K "_law_due" "_law_due" (defArgs s_f_law_due) (defBody s_f_law_due) (defScope s_f_law_due) [] [] (He.fAd K ("_law_due", none)) fd)  : OkF P w K mg base (L2N.CX P w) 1 ("_law_due", none) ["name", "fields"] sp__law_due := by
  refine FunD.okF F (F.ok sc_f_law_due (fun vs H Q E h => ?_) (fun cdv A outer s H vs Q E hr h => ⟨t_f_law_due K, PSs.nox ?_, pure_due K vs H Q E h⟩)) fun _ _ _ _ _ _ us hl => match us, hl with | [_, _], _ => rfl
  · obtain ⟨_, _, _, _, rfl, _⟩ := h; rfl
  · exact (pss_cons (ps_set (i := 2) sc_f_law_due.nd rfl (Or.inl rfl) (pe_ifExp (pt_cmpR (u_eq (un64 hr)) (pv 0) pe_str (nomark _)) pe_str (pe_ifExp (pt_cmpR u_in (pv 0) (pe_lst (pa_cons pe_str (pa_cons pe_str (pa_cons pe_str (pa_cons pe_str pa_nil))))) rfl) pe_str pe_str)))
    (pss_one (ps_ret (pe_lst (pa_cons pe_str (pa_cons (pv 2) (pa_cons (pe_lst (pa_cons (pv 0) pa_nil)) (pa_cons (pv 1) (pa_cons (pv 0) pa_nil)))))))))
theorem ok_f_law_zeros (T : Txt K mg) {fd : FuncData} (F : FunD K "_law_zeros" "_law_zeros" (defArgs s_f_law_zeros) (defBody s_f_law_zeros) (defScope s_f_law_zeros) [] [] (He.fAd K ("_law_zeros", none)) fd) (G__law_int : OkF P w K mg base (L2N.CX P w) 1 ("_law_int", none) ["p", "k"] sp__law_int) : OkF P w K mg base (L2N.CX P w) 2 ("_law_zeros", none) ["p", "size"] sp__law_zeros := by
  refine FunD.okF F (F.ok sc_f_law_zeros (fun vs H Q E h => ?_) (fun cdv A outer s H vs Q E hr h => ⟨t_f_law_zeros K, PSs.nox ?_, pure_zeros K vs H Q E h⟩)) fun _ _ _ _ _ _ us hl => match us, hl with | [_, _], _ => rfl
  · obtain ⟨_, _, rfl, _⟩ := h; rfl
  · exact (pss_one (ps_ret (pe_op u_mul (pe_lst (pa_cons (pe_own G__law_int (hr.mono (by omega)) rfl T.g__law_int passN (pa_cons (pv 0) (pa_cons pe_int pa_nil))) pa_nil)) (pv 1))))
theorem ok_f_law_base (T : Txt K mg) {fd : FuncData} (F : FunD K "_law_base" "_law_base" (defArgs s_f_law_base) (defBody s_f_law_base) (defScope s_f_law_base) [] [] (He.fAd K ("_law_base", none)) fd) (G__law_int : OkF P w K mg base (L2N.CX P w) 1 ("_law_int", none) ["p", "k"] sp__law_int) : OkF P w K mg base (L2N.CX P w) 2 ("_law_base", none) ["p", "size", "k"] sp__law_base := by
  refine FunD.okF F (F.ok sc_f_law_base (fun vs H Q E h => ?_) (fun cdv A outer s H vs Q E hr h => ⟨t_f_law_base K, PSs.nox ?_, pure_base K vs H Q E h⟩)) fun _ _ _ _ _ _ us hl => match us, hl with | [_, _, _], _ => rfl
  · obtain ⟨_, _, _, rfl, _⟩ := h; rfl
  · exact (pss_one (ps_ret (pe_lc (own := [("i", 3)]) rfl sc_f_law_base.nd (pi_range1 rfl T.b_range (pa_cons (pv 1) pa_nil)) (blkOk_by (N := N_f_law_base) (sc := defScope s_f_law_base) (own := [("i", 3)]) (by decide +kernel)) (fun _ _ _ _ _ => (pg_name (i := 3) sc_f_law_base.nd rfl (Or.inl rfl))) (fun _ _ _ _ _ => pts_nil) (fun _ _ _ _ _ => (pe_own G__law_int (hr.mono (by omega)) rfl T.g__law_int passN (pa_cons (pv 0) (pa_cons (pe_callTy u_int rfl T.b_int (by decide +kernel) (pa_cons (pe_cmpR (u_eq (un64 hr)) (pv 3) (pv 2) (nomark _)) pa_nil)) pa_nil)))))))
theorem ok_f_law_times (T : Txt K mg) {fd : FuncData} (F : FunD K "_law_times" "_law_times" (defArgs s_f_law_times) (defBody s_f_law_times) (defScope s_f_law_times) [] [] (He.fAd K ("_law_times", none)) fd) (G__law_mul : OkF P w K mg base (L2N.CX P w) 3 ("_law_mul", none) ["p", "one", "two"] sp__law_mul) : OkF P w K mg base (L2N.CX P w) 4 ("_law_times", none) ["p", "factor", "row"] sp__law_times := by
  refine FunD.okF F (F.ok sc_f_law_times (fun vs H Q E h => ?_) (fun cdv A outer s H vs Q E hr h => ⟨t_f_law_times K, PSs.nox ?_, pure_times K vs H Q E h⟩)) fun _ _ _ _ _ _ us hl => match us, hl with | [_, _, _], _ => rfl
  · obtain ⟨_, _, _, _, _, _, _, rfl, _⟩ := h; rfl
  · exact (pss_one (ps_ret (pe_lc (own := [("one", 3)]) rfl sc_f_law_times.nd (pi_seq (pv 2)) (blkOk_by (N := N_f_law_times) (sc := defScope s_f_law_times) (own := [("one", 3)]) (by decide +kernel)) (fun _ _ _ _ _ => (pg_name (i := 3) sc_f_law_times.nd rfl (Or.inl rfl))) (fun _ _ _ _ _ => pts_nil) (fun _ _ _ _ _ => (pe_own G__law_mul (hr.mono (by omega)) rfl T.g__law_mul passN (pa_cons (pv 0) (pa_cons (pv 1) (pa_cons (pv 3) pa_nil))))))))
theorem ok_f_law_dot (T : Txt K mg) {fd : FuncData} (F : FunD K "_law_dot" "_law_dot" (defArgs s_f_law_dot) (defBody s_f_law_dot) (defScope s_f_law_dot) [] [] (He.fAd K ("_law_dot", none)) fd) (G__law_gcd : OkF P w K mg base (L2N.CX P w) 1 ("_law_gcd", none) ["one", "two"] sp__law_gcd) (G__law_num : OkF P w K mg base (L2N.CX P w) 2 ("_law_num", none) ["p", "top", "bottom"] sp__law_num) : OkF P w K mg base (L2N.CX P w) 3 ("_law_dot", none) ["p", "one", "two"] sp__law_dot := by
  refine FunD.okF F (F.ok sc_f_law_dot (fun vs H Q E h => ?_) (fun cdv A outer s H vs Q E hr h => ⟨t_f_law_dot K, PSs.nox ?_, pure_ldot K vs H Q E h⟩)) fun _ _ _ _ _ _ us hl => match us, hl with | [_, _, _], _ => rfl
  · obtain ⟨_, _, _, _, _, _, _, rfl, _⟩ := h; rfl
  · exact (pss_cons (ps_if (pt_cmpR u_gt (pv 0) pe_int (nomark _)) (pss_one (ps_ret (pe_op u_mod (pe_callTy u_int rfl T.b_int (by decide +kernel) (pa_cons (pe_callB (u_sum rfl) rfl T.b_sum (by decide +kernel) (pa_cons (pe_lc (own := [("k", 3)]) rfl sc_f_law_dot.nd (pi_range1 rfl T.b_range (pa_cons (pe_callB u_len rfl T.b_len (by decide +kernel) (pa_cons (pv 1) pa_nil)) pa_nil)) (blkOk_by (N := N_f_law_dot) (sc := defScope s_f_law_dot) (own := [("k", 3)]) (by decide +kernel)) (fun _ _ _ _ _ => (pg_name (i := 3) sc_f_law_dot.nd rfl (Or.inl rfl))) (fun _ _ _ _ _ => pts_nil) (fun _ _ _ _ _ => (pe_op u_mul (pe_ix u_ix (pv 1) (pv 3) (fun _ _ => rfl)) (pe_ix u_ix (pv 2) (pv 3) (fun _ _ => rfl))))) pa_nil)) pa_nil)) (pv 0)))) pss_nil)
    (pss_cons (ps_asg (pe_tup (pa_cons pe_int (pa_cons pe_int pa_nil))) (pg_tup rfl (pgs_cons (pg_name (i := 4) sc_f_law_dot.nd rfl (Or.inl rfl)) (pgs_cons (pg_name (i := 5) sc_f_law_dot.nd rfl (Or.inl rfl)) pgs_nil))))
    (pss_cons (ps_for PassesOwn.never rfl (pi_range1 rfl T.b_range (pa_cons (pe_callB u_len rfl T.b_len (by decide +kernel) (pa_cons (pv 1) pa_nil)) pa_nil)) (pg_name (i := 3) sc_f_law_dot.nd rfl (Or.inl rfl)) (pss_cons (ps_par (i := 6) (j := 7) rfl sc_f_law_dot.nd rfl rfl (by decide) rfl rfl (pa_cons (pe_op u_mul (pe_ix u_ix (pe_ix u_ix (pv 1) (pv 3) (fun _ _ => rfl)) pe_int (fun _ _ => rfl)) (pe_ix u_ix (pe_ix u_ix (pv 2) (pv 3) (fun _ _ => rfl)) pe_int (fun _ _ => rfl))) (pa_cons (pe_op u_mul (pe_ix u_ix (pe_ix u_ix (pv 1) (pv 3) (fun _ _ => rfl)) pe_int (fun _ _ => rfl)) (pe_ix u_ix (pe_ix u_ix (pv 2) (pv 3) (fun _ _ => rfl)) pe_int (fun _ _ => rfl))) pa_nil)) (by rfl))
    (pss_one (ps_if (PW.pt (pw_and (pt_cmpR (u_ne (un64 hr)) (pv 6) pe_int (nomark _)) (pw_and1 (pt_cmpR (u_eq (un64 hr)) (pv 7) (pv 5) (nomark _))))) (pss_one (ps_set (i := 4) sc_f_law_dot.nd rfl (Or.inl rfl) (pe_op u_add (pv 4) (pv 6)))) (pss_one (ps_if (pt_cmpR (u_ne (un64 hr)) (pv 6) pe_int (nomark _)) (pss_cons (ps_set (i := 8) sc_f_law_dot.nd rfl (Or.inl rfl) (pe_own G__law_gcd (hr.mono (by omega)) rfl T.g__law_gcd passN (pa_cons (pv 5) (pa_cons (pv 7) pa_nil))))
    (pss_one (ps_par (i := 4) (j := 5) rfl sc_f_law_dot.nd rfl rfl (by decide) rfl rfl (pa_cons (pe_op u_add (pe_op u_mul (pv 4) (pe_op u_fdiv (pv 7) (pv 8))) (pe_op u_mul (pv 6) (pe_op u_fdiv (pv 5) (pv 8)))) (pa_cons (pe_op u_mul (pe_op u_fdiv (pv 5) (pv 8)) (pv 7)) pa_nil)) (by rfl)))) pss_nil))))))
    (pss_one (ps_ret (pe_own G__law_num (hr.mono (by omega)) rfl T.g__law_num passN (pa_cons pe_int (pa_cons (pv 4) (pa_cons (pv 5) pa_nil)))))))))
theorem ok_f_law_combined (T : Txt K mg) {fd : FuncData} (F : FunD K "_law_combined" "_law_combined" (defArgs s_f_law_combined) (defBody s_f_law_combined) (defScope s_f_law_combined) [] [] (He.fAd K ("_law_combined", none)) fd) (G__law_dot : OkF P w K mg base (L2N.CX P w) 3 ("_law_dot", none) ["p", "one", "two"] sp__law_dot) : OkF P w K mg base (L2N.CX P w) 4 ("_law_combined", none) ["p", "factors", "rows", "size"] sp__law_combined := by
  refine FunD.okF F (F.ok sc_f_law_combined (fun vs H Q E h => ?_) (fun cdv A outer s H vs Q E hr h => ⟨t_f_law_combined K, PSs.nox ?_, pure_combined K vs H Q E h⟩)) fun _ _ _ _ _ _ us hl => match us, hl with | [_, _, _, _], _ => rfl
  · obtain ⟨_, _, _, _, _, _, _, _, rfl, _⟩ := h; rfl
  · exact (pss_one (ps_ret (pe_lc (own := [("k", 4)]) rfl sc_f_law_combined.nd (pi_range1 rfl T.b_range (pa_cons (pv 3) pa_nil)) (blkOk_by (N := N_f_law_combined) (sc := defScope s_f_law_combined) (own := [("k", 4)]) (by decide +kernel)) (fun _ _ _ _ _ => (pg_name (i := 4) sc_f_law_combined.nd rfl (Or.inr rfl))) (fun _ _ _ _ _ => pts_nil) (fun _ _ _ _ _ => (pe_own G__law_dot (hr.mono (by omega)) rfl T.g__law_dot passN (pa_cons (pv 0) (pa_cons (pv 1) (pa_cons (pe_lc (own := [("row", 5)]) rfl sc_f_law_combined.nd (pi_seq (pv 2)) (blkOk_by (N := N_f_law_combined) (own := [("row", 5)]) (by kernel_rfl)) (fun _ _ _ _ _ => (pg_name (i := 5) sc_f_law_combined.nd rfl (Or.inl rfl))) (fun _ _ _ _ _ => pts_nil) (fun _ _ _ _ _ => (pe_ix u_ix (pv 5) (pv 4) (fun _ _ => rfl)))) pa_nil))))))))
theorem ok_f_law_powers (T : Txt K mg) {fd : FuncData} (F : FunD K "_law_powers" "_law_powers" (defArgs s_f_law_powers) (defBody s_f_law_powers) (defScope s_f_law_powers) [] [] (He.fAd K ("_law_powers", none)) fd) (G__law_base : OkF P w K mg base (L2N.CX P w) 2 ("_law_base", none) ["p", "size", "k"] sp__law_base) (G__law_int : OkF P w K mg base (L2N.CX P w) 1 ("_law_int", none) ["p", "k"] sp__law_int) (G__law_mul : OkF P w K mg base (L2N.CX P w) 3 ("_law_mul", none) ["p", "one", "two"] sp__law_mul) : OkF P w K mg base (L2N.CX P w) 4 ("_law_powers", none) ["p", "point", "size"] sp__law_powers := by
  refine FunD.okF F (F.ok sc_f_law_powers (fun vs H Q E h => ?_) (fun cdv A outer s H vs Q E hr h => ⟨t_f_law_powers K, PSs.nox ?_, pure_powers K vs H Q E h⟩)) fun _ _ _ _ _ _ us hl => match us, hl with | [_, _, _], _ => rfl
  · obtain ⟨_, _, _, _, _, rfl, _⟩ := h; rfl
  · exact (pss_cons (ps_if (pt_cmpR (u_eq (un64 hr)) (pv 1) pe_str (nomark _)) (pss_one (ps_ret (pe_own G__law_base (hr.mono (by omega)) rfl T.g__law_base passN (pa_cons (pv 0) (pa_cons (pv 2) (pa_cons (pe_op op_sub (pv 2) pe_int) pa_nil)))))) pss_nil)
    (pss_cons (ps_set (i := 3) sc_f_law_powers.nd rfl (Or.inl rfl) (pe_lst (pa_cons (pe_own G__law_int (hr.mono (by omega)) rfl T.g__law_int passN (pa_cons (pv 0) (pa_cons pe_int pa_nil))) pa_nil)))
    (pss_cons (ps_for PassesOwn.never rfl (pi_range1 rfl T.b_range (pa_cons (pe_op op_sub (pv 2) pe_int) pa_nil)) (pg_name (i := 4) sc_f_law_powers.nd rfl (Or.inl rfl)) (pss_one (ps_expr (pe_bm PySem.F.plainAttrs_list PySem.F.slot_list_append PySem.F.type_list_append mt_append (pv 3) (pa_cons (pe_own G__law_mul (hr.mono (by omega)) rfl T.g__law_mul passN (pa_cons (pv 0) (pa_cons (pe_ix u_ix (pv 3) (pe_un un_neg pe_int) (fun _ _ => rfl)) (pa_cons (pv 1) pa_nil)))) pa_nil)))))
    (pss_one (ps_ret (pv 3))))))
theorem ok_f_law_unit (T : Txt K mg) {fd : FuncData} (F : FunD K "_law_unit" "_law_unit" (defArgs s_f_law_unit) (defBody s_f_law_unit) (defScope s_f_law_unit) [] [] (He.fAd K ("_law_unit", none)) fd) (G__law_draw : OkF P w K mg base (L2N.CX P w) 1 ("_law_draw", none) ["bag", "size"] sp__law_draw) (G__law_num : OkF P w K mg base (L2N.CX P w) 2 ("_law_num", none) ["p", "top", "bottom"] sp__law_num) (G__law_pick : OkF P w K mg base (L2N.CX P w) 2 ("_law_pick", none) ["bag", "menu"] sp__law_pick) : OkF P w K mg base (L2N.CX P w) 3 ("_law_unit", none) ["bag", "p"] sp__law_unit := by
  refine FunD.okF F (F.ok sc_f_law_unit (fun vs H Q E h => ?_) (fun cdv A outer s H vs Q E hr h => ⟨t_f_law_unit K, PSs.nox ?_, pure_unit K vs H Q E h⟩)) fun _ _ _ _ _ _ us hl => match us, hl with | [_, _], _ => rfl
  · obtain ⟨_, _, _, rfl, _⟩ := h; rfl
  · exact (pss_cons (ps_if (pt_cmpR u_gt (pv 1) pe_int (nomark _)) (pss_one (ps_ret (pe_op u_add pe_int (pe_own G__law_draw (hr.mono (by omega)) rfl T.g__law_draw passN (pa_cons (pv 0) (pa_cons (pe_op op_sub (pv 1) pe_int) pa_nil)))))) pss_nil)
    (pss_one (ps_ret (pe_own G__law_num (hr.mono (by omega)) rfl T.g__law_num passN (pa_cons pe_int (pa_cons (pe_own G__law_pick (hr.mono (by omega)) rfl T.g__law_pick passN (pa_cons (pv 0) (pa_cons (pe_lst (pa_cons pe_int (pa_cons (pe_un un_neg pe_int) (pa_cons pe_int (pa_cons pe_int (pa_cons (pe_un un_neg pe_int) pa_nil)))))) pa_nil))) (pa_cons (pe_own G__law_pick (hr.mono (by omega)) rfl T.g__law_pick passN (pa_cons (pv 0) (pa_cons (pe_lst (pa_cons pe_int (pa_cons pe_int (pa_cons pe_int (pa_cons pe_int pa_nil))))) pa_nil))) pa_nil)))))))
theorem ok_f_law_mixed (T : Txt K mg) {fd : FuncData} (F : FunD K "_law_mixed" "_law_mixed" (defArgs s_f_law_mixed) (defBody s_f_law_mixed) (defScope s_f_law_mixed) [] [] (He.fAd K ("_law_mixed", none)) fd) (G__law_draw : OkF P w K mg base (L2N.CX P w) 1 ("_law_draw", none) ["bag", "size"] sp__law_draw) : OkF P w K mg base (L2N.CX P w) 2 ("_law_mixed", none) ["bag", "things"] sp__law_mixed := by
  refine FunD.okF F (F.ok sc_f_law_mixed (fun vs H Q E h => ?_) (fun cdv A outer s H vs Q E hr h => ⟨t_f_law_mixed K, PSs.nox ?_, pure_mixed K vs H Q E h⟩)) fun _ _ _ _ _ _ us hl => match us, hl with | [_, _], _ => rfl
  · obtain ⟨_, _, _, _, _, rfl, _⟩ := h; rfl
  · exact (pss_cons (ps_set (i := 2) sc_f_law_mixed.nd rfl (Or.inl rfl) (pe_lst pa_nil))
    (pss_cons (ps_for PassesOwn.never rfl (pi_seq (pv 1)) (pg_name (i := 3) sc_f_law_mixed.nd rfl (Or.inl rfl)) (pss_one (ps_expr (pe_bm PySem.F.plainAttrs_list PySem.F.slot_list_insert PySem.F.type_list_insert mt_insert (pv 2) (pa_cons (pe_own G__law_draw (hr.mono (by omega)) rfl T.g__law_draw passN (pa_cons (pv 0) (pa_cons (pe_op u_add (pe_callB u_len rfl T.b_len (by decide +kernel) (pa_cons (pv 2) pa_nil)) pe_int) pa_nil))) (pa_cons (pv 3) pa_nil))))))
    (pss_one (ps_ret (pv 2)))))
theorem ok_f_law_points (T : Txt K mg) {fd : FuncData} (F : FunD K "_law_points" "_law_points" (defArgs s_f_law_points) (defBody s_f_law_points) (defScope s_f_law_points) [] [] (He.fAd K ("_law_points", none)) fd) (G__law_draw : OkF P w K mg base (L2N.CX P w) 1 ("_law_draw", none) ["bag", "size"] sp__law_draw) (G__law_mixed : OkF P w K mg base (L2N.CX P w) 2 ("_law_mixed", none) ["bag", "things"] sp__law_mixed) : OkF P w K mg base (L2N.CX P w) 3 ("_law_points", none) ["bag", "p", "size"] sp__law_points := by
  refine FunD.okF F (F.ok sc_f_law_points (fun vs H Q E h => ?_) (fun cdv A outer s H vs Q E hr h => ⟨t_f_law_points K, PSs.nox ?_, pure_points K vs H Q E h⟩)) fun _ _ _ _ _ _ us hl => match us, hl with | [_, _, _], _ => rfl
  · obtain ⟨_, _, _, _, rfl, _⟩ := h; rfl
  · exact (pss_cut (ps_if (pt_cmpR u_gt (pv 1) pe_int (nomark _)) (pss_cons (ps_set (i := 3) sc_f_law_points.nd rfl (Or.inr rfl) (pe_own G__law_draw (hr.mono (by omega)) rfl T.g__law_draw passN (pa_cons (pv 0) (pa_cons (pv 1) pa_nil))))
    (pss_one (ps_setLc (i := 4) (own := [("k", 5)]) rfl sc_f_law_points.nd rfl rfl (sw_true rfl rfl rfl (by decide +kernel)) (pi_range1 rfl T.b_range (pa_cons (pe_callB (u_min rfl) rfl T.b_min (by decide +kernel) (pa_cons (pv 1) (pa_cons (pv 2) pa_nil))) pa_nil)) (blkOk_by (N := N_f_law_points) (sc := defScope s_f_law_points) (own := [("k", 5)]) (by decide +kernel)) (fun _ _ _ _ _ => (pg_name (i := 5) sc_f_law_points.nd rfl (Or.inl rfl))) (fun _ _ _ _ _ => pts_nil) (fun _ _ _ _ _ => (pe_op u_mod (pe_callTy u_int rfl T.b_int (by decide +kernel) (pa_cons (pe_op u_add (pv 3) (pv 5)) pa_nil)) (pv 1)))))) (pss_cons (ps_set (i := 4) sc_f_law_points.nd rfl (Or.inl rfl) (pe_lst (pa_cons (pe_tup (pa_cons pe_int (pa_cons pe_int pa_nil))) (pa_cons (pe_tup (pa_cons pe_int (pa_cons pe_int pa_nil))) (pa_cons (pe_tup (pa_cons (pe_un un_neg pe_int) (pa_cons pe_int pa_nil))) (pa_cons (pe_tup (pa_cons pe_int (pa_cons pe_int pa_nil))) (pa_cons (pe_tup (pa_cons (pe_un un_neg pe_int) (pa_cons pe_int pa_nil))) (pa_cons (pe_tup (pa_cons pe_int (pa_cons pe_int pa_nil))) (pa_cons (pe_tup (pa_cons pe_int (pa_cons pe_int pa_nil))) (pa_cons (pe_tup (pa_cons (pe_un un_neg pe_int) (pa_cons pe_int pa_nil))) (pa_cons (pe_tup (pa_cons (pe_un un_neg pe_int) (pa_cons pe_int pa_nil))) (pa_cons (pe_tup (pa_cons pe_int (pa_cons pe_int pa_nil))) (pa_cons (pe_tup (pa_cons pe_int (pa_cons pe_int pa_nil))) (pa_cons (pe_tup (pa_cons (pe_un un_neg pe_int) (pa_cons pe_int pa_nil))) (pa_cons (pe_tup (pa_cons pe_int (pa_cons pe_int pa_nil))) (pa_cons (pe_tup (pa_cons (pe_un un_neg pe_int) (pa_cons pe_int pa_nil))) (pa_cons (pe_tup (pa_cons pe_int (pa_cons pe_int pa_nil))) (pa_cons (pe_tup (pa_cons pe_int (pa_cons pe_int pa_nil))) (pa_cons (pe_tup (pa_cons (pe_un un_neg pe_int) (pa_cons pe_int pa_nil))) (pa_cons (pe_tup (pa_cons pe_int (pa_cons pe_int pa_nil))) (pa_cons (pe_tup (pa_cons (pe_un un_neg pe_int) (pa_cons pe_int pa_nil))) (pa_cons (pe_tup (pa_cons pe_int (pa_cons pe_int pa_nil))) pa_nil))))))))))))))))))))))
    (pss_one (ps_set (i := 4) sc_f_law_points.nd rfl (Or.inl rfl) (pe_slice u_sl (pe_own G__law_mixed (hr.mono (by omega)) rfl T.g__law_mixed passN (pa_cons (pv 0) (pa_cons (pe_slice u_sl (pv 4) po_none (po_some (pe_op u_add (pv 2) pe_int))) pa_nil))) po_none (po_some (pv 2)))))))
    (pss_cons (ps_if (pt_cmpR (u_lt (un64 hr)) (pe_callB u_len rfl T.b_len (by decide +kernel) (pa_cons (pv 4) pa_nil)) (pv 2) (nomark _)) (pss_one (ps_ret (pe_own G__law_mixed (hr.mono (by omega)) rfl T.g__law_mixed passN (pa_cons (pv 0) (pa_cons (pe_op u_add (pv 4) (pe_lst (pa_cons pe_str pa_nil))) pa_nil))))) pss_nil)
    (pss_cut (ps_if (pt_cmpR (u_eq (un64 hr)) (pe_own G__law_draw (hr.mono (by omega)) rfl T.g__law_draw passN (pa_cons (pv 0) (pa_cons pe_int pa_nil))) pe_int (nomark _)) (pss_one (ps_asg pe_str (pg_sub (pv 4) (pe_own G__law_draw (hr.mono (by omega)) rfl T.g__law_draw passN (pa_cons (pv 0) (pa_cons (pv 2) pa_nil))) set_list))) pss_nil)
    (pss_one (ps_ret (pv 4))))))
theorem ok_f_law_lagrange (T : Txt K mg) {fd : FuncData} (F : FunD K "_law_lagrange" "_law_lagrange" (defArgs s_f_law_lagrange) (defBody s_f_law_lagrange) (defScope s_f_law_lagrange) [] [] (He.fAd K ("_law_lagrange", none)) fd) (G__law_add : OkF P w K mg base (L2N.CX P w) 3 ("_law_add", none) ["p", "one", "two"] sp__law_add) (G__law_int : OkF P w K mg base (L2N.CX P w) 1 ("_law_int", none) ["p", "k"] sp__law_int) (G__law_inv : OkF P w K mg base (L2N.CX P w) 3 ("_law_inv", none) ["p", "one"] sp__law_inv) (G__law_mul : OkF P w K mg base (L2N.CX P w) 3 ("_law_mul", none) ["p", "one", "two"] sp__law_mul) (G__law_neg : OkF P w K mg base (L2N.CX P w) 1 ("_law_neg", none) ["p", "one"] sp__law_neg) (G__law_times : OkF P w K mg base (L2N.CX P w) 4 ("_law_times", none) ["p", "factor", "row"] sp__law_times) (G__law_zeros : OkF P w K mg base (L2N.CX P w) 2 ("_law_zeros", none) ["p", "size"] sp__law_zeros) : OkF P w K mg base (L2N.CX P w) 5 ("_law_lagrange", none) ["p", "spread"] sp__law_lagrange := by
  refine FunD.okF F (F.ok sc_f_law_lagrange (fun vs H Q E h => ?_) (fun cdv A outer s H vs Q E hr h => ⟨t_f_law_lagrange K, PSs.nox ?_, pure_lagrange K vs H Q E h⟩)) fun _ _ _ _ _ _ us hl => match us, hl with | [_, _], _ => rfl
  · obtain ⟨_, _, _, rfl, _⟩ := h; rfl
  · exact (pss_cons (ps_set (i := 2) sc_f_law_lagrange.nd rfl (Or.inl rfl) (pe_lst pa_nil))
    (pss_cons (ps_for PassesOwn.never rfl (pi_seq (pv 1)) (pg_name (i := 3) sc_f_law_lagrange.nd rfl (Or.inl rfl)) (pss_cons (ps_asg (pe_tup (pa_cons (pe_lst (pa_cons (pe_own G__law_int (hr.mono (by omega)) rfl T.g__law_int passN (pa_cons (pv 0) (pa_cons pe_int pa_nil))) pa_nil)) (pa_cons (pe_own G__law_int (hr.mono (by omega)) rfl T.g__law_int passN (pa_cons (pv 0) (pa_cons pe_int pa_nil))) pa_nil))) (pg_tup rfl (pgs_cons (pg_name (i := 4) sc_f_law_lagrange.nd rfl (Or.inr rfl)) (pgs_cons (pg_name (i := 5) sc_f_law_lagrange.nd rfl (Or.inl rfl)) pgs_nil))))
    (pss_cons (ps_for PassesOwn.never rfl (pi_seq (pv 1)) (pg_name (i := 6) sc_f_law_lagrange.nd rfl (Or.inr rfl)) (pss_one (ps_if (PW.pt (pw_and (pt_cmpR (u_ne (un64 hr)) (pv 6) (pv 3) (nomark _)) (pw_and1 (pt_cmpR (u_ne (un64 hr)) (pv 6) pe_str (nomark _))))) (pss_cons (ps_set (i := 7) sc_f_law_lagrange.nd rfl (Or.inr rfl) (pe_own G__law_int (hr.mono (by omega)) rfl T.g__law_int passN (pa_cons (pv 0) (pa_cons pe_int pa_nil))))
    (pss_cons (ps_set (i := 4) sc_f_law_lagrange.nd rfl (Or.inr rfl) (pe_lc (own := [("k", 8)]) rfl sc_f_law_lagrange.nd (pi_range1 rfl T.b_range (pa_cons (pe_op u_add (pe_callB u_len rfl T.b_len (by decide +kernel) (pa_cons (pv 4) pa_nil)) pe_int) pa_nil)) (blkOk_by (N := N_f_law_lagrange) (sc := defScope s_f_law_lagrange) (own := [("k", 8)]) (by decide +kernel)) (fun _ _ _ _ _ => (pg_name (i := 8) sc_f_law_lagrange.nd rfl (Or.inl rfl))) (fun _ _ _ _ _ => pts_nil) (fun _ _ _ _ _ => (pe_own G__law_add (hr.mono (by omega)) rfl T.g__law_add passN (pa_cons (pv 0) (pa_cons (pe_ix u_ix (pe_op u_add (pe_lst (pa_cons (pv 7) pa_nil)) (pv 4)) (pv 8) (fun _ _ => rfl)) (pa_cons (pe_own G__law_mul (hr.mono (by omega)) rfl T.g__law_mul passN (pa_cons (pv 0) (pa_cons (pe_own G__law_neg (hr.mono (by omega)) rfl T.g__law_neg passN (pa_cons (pv 0) (pa_cons (pv 6) pa_nil))) (pa_cons (pe_ix u_ix (pe_op u_add (pv 4) (pe_lst (pa_cons (pv 7) pa_nil))) (pv 8) (fun _ _ => rfl)) pa_nil)))) pa_nil)))))))
    (pss_one (ps_if (pt_cmpR (u_ne (un64 hr)) (pv 3) pe_str (nomark _)) (pss_one (ps_set (i := 5) sc_f_law_lagrange.nd rfl (Or.inl rfl) (pe_own G__law_mul (hr.mono (by omega)) rfl T.g__law_mul passN (pa_cons (pv 0) (pa_cons (pv 5) (pa_cons (pe_own G__law_add (hr.mono (by omega)) rfl T.g__law_add passN (pa_cons (pv 0) (pa_cons (pv 3) (pa_cons (pe_own G__law_neg (hr.mono (by omega)) rfl T.g__law_neg passN (pa_cons (pv 0) (pa_cons (pv 6) pa_nil))) pa_nil)))) pa_nil)))))) pss_nil)))) pss_nil)))
    (pss_cons (ps_set (i := 4) sc_f_law_lagrange.nd rfl (Or.inr rfl) (pe_own G__law_times (hr.mono (by omega)) rfl T.g__law_times passN (pa_cons (pv 0) (pa_cons (pe_own G__law_inv (hr.mono (by omega)) rfl T.g__law_inv passN (pa_cons (pv 0) (pa_cons (pv 5) pa_nil))) (pa_cons (pv 4) pa_nil)))))
    (pss_one (ps_expr (pe_bm PySem.F.plainAttrs_list PySem.F.slot_list_append PySem.F.type_list_append mt_append (pv 2) (pa_cons (pe_slice u_sl (pe_op u_add (pv 4) (pe_own G__law_zeros (hr.mono (by omega)) rfl T.g__law_zeros passN (pa_cons (pv 0) (pa_cons (pe_callB u_len rfl T.b_len (by decide +kernel) (pa_cons (pv 1) pa_nil)) pa_nil)))) po_none (po_some (pe_callB u_len rfl T.b_len (by decide +kernel) (pa_cons (pv 1) pa_nil)))) pa_nil))))))))
    (pss_one (ps_ret (pv 2)))))
theorem ok_f_law_dressed (T : Txt K mg) {fd : FuncData} (F : FunD K "_law_dressed" "_law_dressed" (defArgs s_f_law_dressed) (defBody s_f_law_dressed) (defScope s_f_law_dressed) [] [] (He.fAd K ("_law_dressed", none)) fd) (G__law_inv : OkF P w K mg base (L2N.CX P w) 3 ("_law_inv", none) ["p", "one"] sp__law_inv) (G__law_mixed : OkF P w K mg base (L2N.CX P w) 2 ("_law_mixed", none) ["bag", "things"] sp__law_mixed) (G__law_mul : OkF P w K mg base (L2N.CX P w) 3 ("_law_mul", none) ["p", "one", "two"] sp__law_mul) (G__law_times : OkF P w K mg base (L2N.CX P w) 4 ("_law_times", none) ["p", "factor", "row"] sp__law_times) (G__law_unit : OkF P w K mg base (L2N.CX P w) 3 ("_law_unit", none) ["bag", "p"] sp__law_unit) : OkF P w K mg base (L2N.CX P w) 5 ("_law_dressed", none) ["bag", "p", "triples"] sp__law_dressed := by
  refine FunD.okF F (F.ok sc_f_law_dressed (fun vs H Q E h => ?_) (fun cdv A outer s H vs Q E hr h => ⟨t_f_law_dressed K, PSs.nox ?_, pure_dressed K vs H Q E h⟩)) fun _ _ _ _ _ _ us hl => match us, hl with | [_, _, _], _ => rfl
  · obtain ⟨_, _, _, _, _, _, _, _, _, _, _, rfl, _⟩ := h; rfl
  · exact (pss_cons (ps_set (i := 3) sc_f_law_dressed.nd rfl (Or.inl rfl) (pe_lst pa_nil))
    (pss_cons (ps_for PassesOwn.never rfl (pi_seq (pe_own G__law_mixed (hr.mono (by omega)) rfl T.g__law_mixed passN (pa_cons (pv 0) (pa_cons (pv 2) pa_nil)))) (pg_tup rfl (pgs_cons (pg_name (i := 4) sc_f_law_dressed.nd rfl (Or.inl rfl)) (pgs_cons (pg_name (i := 5) sc_f_law_dressed.nd rfl (Or.inl rfl)) (pgs_cons (pg_name (i := 6) sc_f_law_dressed.nd rfl (Or.inl rfl)) pgs_nil)))) (pss_cons (ps_par (i := 7) (j := 8) rfl sc_f_law_dressed.nd rfl rfl (by decide) rfl rfl (pa_cons (pe_own G__law_unit (hr.mono (by omega)) rfl T.g__law_unit passN (pa_cons (pv 0) (pa_cons (pv 1) pa_nil))) (pa_cons (pe_own G__law_unit (hr.mono (by omega)) rfl T.g__law_unit passN (pa_cons (pv 0) (pa_cons (pv 1) pa_nil))) pa_nil)) (by rfl))
    (pss_one (ps_expr (pe_bm PySem.F.plainAttrs_list PySem.F.slot_list_append PySem.F.type_list_append mt_append (pv 3) (pa_cons (pe_tup (pa_cons (pe_own G__law_times (hr.mono (by omega)) rfl T.g__law_times passN (pa_cons (pv 1) (pa_cons (pv 7) (pa_cons (pv 4) pa_nil)))) (pa_cons (pe_own G__law_times (hr.mono (by omega)) rfl T.g__law_times passN (pa_cons (pv 1) (pa_cons (pv 8) (pa_cons (pv 5) pa_nil)))) (pa_cons (pe_own G__law_times (hr.mono (by omega)) rfl T.g__law_times passN (pa_cons (pv 1) (pa_cons (pe_own G__law_inv (hr.mono (by omega)) rfl T.g__law_inv passN (pa_cons (pv 1) (pa_cons (pe_own G__law_mul (hr.mono (by omega)) rfl T.g__law_mul passN (pa_cons (pv 1) (pa_cons (pv 7) (pa_cons (pv 8) pa_nil)))) pa_nil))) (pa_cons (pv 6) pa_nil)))) pa_nil)))) pa_nil))))))
    (pss_one (ps_ret (pv 3)))))
theorem ok_f_law_default (T : Txt K mg) {fd : FuncData} (F : FunD K "_law_default" "_law_default" (defArgs s_f_law_default) (defBody s_f_law_default) (defScope s_f_law_default) [] [] (He.fAd K ("_law_default", none)) fd)  : OkF P w K mg base (L2N.CX P w) 1 ("_law_default", none) ["p", "many"] sp__law_default := by
  refine FunD.okF F (F.ok sc_f_law_default (fun vs H Q E h => ?_) (fun cdv A outer s H vs Q E hr h => ⟨t_f_law_default K, PSs.nox ?_, pure_default K vs H Q E h⟩)) fun _ _ _ _ _ _ us hl => match us, hl with | [_, _], _ => rfl
  · obtain ⟨_, _, rfl, _⟩ := h; rfl
  · exact (pss_cons (ps_if (pt_cmpR u_gt (pv 0) pe_int (nomark _)) (pss_one (ps_ret (pe_ifExp (pt_cmpR (u_lt (un64 hr)) (pv 0) (pe_op op_sub (pv 1) pe_int) (nomark _)) pe_non (pe_op u_add (pe_callTy (u_listR rfl) rfl T.b_list (by decide +kernel) (pa_cons (pe_callTy cr_range1 rfl T.b_range (by decide +kernel) (pa_cons (pe_op op_sub (pv 1) pe_int) pa_nil)) pa_nil)) (pe_lst (pa_cons pe_str pa_nil)))))) pss_nil)
    (pss_one (ps_ret (pe_op u_add (pe_lc (own := [("k", 2)]) rfl sc_f_law_default.nd (pi_range1 rfl T.b_range (pa_cons (pe_op op_sub (pv 1) pe_int) pa_nil)) (blkOk_by (N := N_f_law_default) (sc := defScope s_f_law_default) (own := [("k", 2)]) (by decide +kernel)) (fun _ _ _ _ _ => (pg_name (i := 2) sc_f_law_default.nd rfl (Or.inl rfl))) (fun _ _ _ _ _ => pts_nil) (fun _ _ _ _ _ => (pe_tup (pa_cons (pe_op u_mul (pe_op u_fdiv (pe_op u_add (pv 2) pe_int) pe_int) (pe_ifExp (pt_cmpR (u_eq (un64 hr)) (pe_op u_mod (pe_callTy u_int rfl T.b_int (by decide +kernel) (pa_cons (pv 2) pa_nil)) pe_int) pe_int (nomark _)) pe_int (pe_un un_neg pe_int))) (pa_cons pe_int pa_nil))))) (pe_lst (pa_cons pe_str pa_nil))))))
theorem ok_f_law_first (T : Txt K mg) {fd : FuncData} (F : FunD K "_law_first" "_law_first" (defArgs s_f_law_first) (defBody s_f_law_first) (defScope s_f_law_first) [] [] (He.fAd K ("_law_first", none)) fd) (G__law_base : OkF P w K mg base (L2N.CX P w) 2 ("_law_base", none) ["p", "size", "k"] sp__law_base) (G__law_combined : OkF P w K mg base (L2N.CX P w) 4 ("_law_combined", none) ["p", "factors", "rows", "size"] sp__law_combined) (G__law_mul : OkF P w K mg base (L2N.CX P w) 3 ("_law_mul", none) ["p", "one", "two"] sp__law_mul) (G__law_zeros : OkF P w K mg base (L2N.CX P w) 2 ("_law_zeros", none) ["p", "size"] sp__law_zeros) : OkF P w K mg base (L2N.CX P w) 5 ("_law_first", none) ["p", "triples", "many", "wide"] sp__law_first := by
  refine FunD.okF F (F.ok sc_f_law_first (fun vs H Q E h => ?_) (fun cdv A outer s H vs Q E hr h => ⟨t_f_law_first K, PSs.nox ?_, pure_first K vs H Q E h⟩)) fun _ _ _ _ _ _ us hl => match us, hl with | [_, _, _, _], _ => rfl
  · obtain ⟨_, _, _, _, _, _, _, _, rfl, _⟩ := h; rfl
  · exact (pss_cons (ps_for PassesOwn.never rfl (pi_range1 rfl T.b_range (pa_cons (pe_op op_sub (pe_op u_add (pv 2) (pv 3)) pe_int) pa_nil)) (pg_name (i := 4) sc_f_law_first.nd rfl (Or.inr rfl)) (pss_one (ps_for PassesOwn.never rfl (pi_range1 rfl T.b_range (pa_cons (pv 3) pa_nil)) (pg_name (i := 5) sc_f_law_first.nd rfl (Or.inr rfl)) (pss_cons (ps_setLc (i := 6) (own := [("one", 8)]) rfl sc_f_law_first.nd rfl rfl (sw_true rfl rfl rfl (by decide +kernel)) (pi_seq (pv 1)) (blkOk_by (N := N_f_law_first) (sc := defScope s_f_law_first) (own := [("one", 8)]) (by decide +kernel)) (fun _ _ _ _ _ => (pg_name (i := 8) sc_f_law_first.nd rfl (Or.inl rfl))) (fun _ _ _ _ _ => pts_nil) (fun _ _ _ _ _ => (pe_own G__law_mul (hr.mono (by omega)) rfl T.g__law_mul passN (pa_cons (pv 0) (pa_cons (pe_ix u_ix (pe_ix u_ix (pv 8) pe_int (fun _ _ => rfl)) (pv 4) (fun _ _ => rfl)) (pa_cons (pe_ix u_ix (pe_ix u_ix (pv 8) pe_int (fun _ _ => rfl)) (pv 5) (fun _ _ => rfl)) pa_nil))))))
    (pss_cons (ps_set (i := 7) sc_f_law_first.nd rfl (Or.inl rfl) (pe_ifExp (pt_chain u_le (u_lt (un64 hr)) pe_int (pe_op op_sub (pv 4) (pv 5)) (pv 2)) (pe_own G__law_base (hr.mono (by omega)) rfl T.g__law_base passN (pa_cons (pv 0) (pa_cons (pv 2) (pa_cons (pe_op op_sub (pv 4) (pv 5)) pa_nil)))) (pe_own G__law_zeros (hr.mono (by omega)) rfl T.g__law_zeros passN (pa_cons (pv 0) (pa_cons (pv 2) pa_nil)))))
    (pss_one (ps_if (pt_cmpR (u_ne (un64 hr)) (pe_own G__law_combined (hr.mono (by omega)) rfl T.g__law_combined passN (pa_cons (pv 0) (pa_cons (pv 6) (pa_cons (pe_lc (own := [("one", 8)]) rfl sc_f_law_first.nd (pi_seq (pv 1)) (blkOk_by (N := N_f_law_first) (sc := defScope s_f_law_first) (own := [("one", 8)]) (by decide +kernel)) (fun _ _ _ _ _ => (pg_name (i := 8) sc_f_law_first.nd rfl (Or.inl rfl))) (fun _ _ _ _ _ => pts_nil) (fun _ _ _ _ _ => (pe_ix u_ix (pv 8) pe_int (fun _ _ => rfl)))) (pa_cons (pv 2) pa_nil))))) (pv 7) (nomark _)) (pss_one (ps_ret (pe_tup (pa_cons (pv 4) (pa_cons (pv 5) pa_nil))))) pss_nil)))))))
    (pss_one (ps_ret pe_non)))
theorem ok_f_law_bent (T : Txt K mg) {fd : FuncData} (F : FunD K "_law_bent" "_law_bent" (defArgs s_f_law_bent) (defBody s_f_law_bent) (defScope s_f_law_bent) [] [] (He.fAd K ("_law_bent", none)) fd) (G__law_add : OkF P w K mg base (L2N.CX P w) 3 ("_law_add", none) ["p", "one", "two"] sp__law_add) (G__law_copied : OkF P w K mg base (L2N.CX P w) 6 ("_law_copied", none) ["thing"] sp__law_copied) (G__law_draw : OkF P w K mg base (L2N.CX P w) 1 ("_law_draw", none) ["bag", "size"] sp__law_draw) (G__law_pick : OkF P w K mg base (L2N.CX P w) 2 ("_law_pick", none) ["bag", "menu"] sp__law_pick) (G__law_pickT : OkF P w K mg base (L2N.CX P w) 2 ("_law_pick", none) ["bag", "menu"] sp__law_pickT) (G__law_unit : OkF P w K mg base (L2N.CX P w) 3 ("_law_unit", none) ["bag", "p"] sp__law_unit) : OkF P w K mg base (L2N.CX P w) 7 ("_law_bent", none) ["bag", "p", "triples"] sp__law_bent := by
  refine FunD.okF F (F.ok sc_f_law_bent (fun vs H Q E h => ?_) (fun cdv A outer s H vs Q E hr h => ⟨t_f_law_bent K, PSs.nox ?_, pure_bent K vs H Q E h⟩)) fun _ _ _ _ _ _ us hl => match us, hl with | [_, _, _], _ => rfl
  · obtain ⟨_, _, _, _, _, _, _, _, _, _, _, rfl, _⟩ := h; rfl
  · exact (pss_cons (ps_set (i := 3) sc_f_law_bent.nd rfl (Or.inl rfl) (pe_own G__law_copied (hr.mono (by omega)) rfl T.g__law_copied passN (pa_cons (pv 2) pa_nil)))
    (pss_cons (ps_set (i := 4) sc_f_law_bent.nd rfl (Or.inl rfl) (pe_own G__law_pickT (hr.mono (by omega)) rfl T.g__law_pick passN (pa_cons (pv 0) (pa_cons (pe_own G__law_pick (hr.mono (by omega)) rfl T.g__law_pick passN (pa_cons (pv 0) (pa_cons (pv 3) pa_nil))) pa_nil))))
    (pss_cons (ps_set (i := 5) sc_f_law_bent.nd rfl (Or.inl rfl) (pe_own G__law_draw (hr.mono (by omega)) rfl T.g__law_draw passN (pa_cons (pv 0) (pa_cons (pe_callB u_len rfl T.b_len (by decide +kernel) (pa_cons (pv 4) pa_nil)) pa_nil))))
    (pss_cons (ps_asg (pe_own G__law_add (hr.mono (by omega)) rfl T.g__law_add passN (pa_cons (pv 1) (pa_cons (pe_ix u_ix (pv 4) (pv 5) (fun _ _ => rfl)) (pa_cons (pe_own G__law_unit (hr.mono (by omega)) rfl T.g__law_unit passN (pa_cons (pv 0) (pa_cons (pv 1) pa_nil))) pa_nil)))) (pg_sub (pv 4) (pv 5) set_list))
    (pss_one (ps_ret (pv 3)))))))
theorem ok_f_inverse_modulo (T : Txt K mg) {fd : FuncData} (F : FunD K "inverse_modulo" "inverse_modulo" (defArgs s_f_inverse_modulo) (defBody s_f_inverse_modulo) (defScope s_f_inverse_modulo) [] [] (He.fAd K ("inverse_modulo", none)) fd)  : OkF P w K mg base (L2N.CX P w) 1 ("inverse_modulo", none) ["number", "modulus"] sp_inverse_modulo := by
  refine FunD.okF F (F.ok sc_f_inverse_modulo (fun vs H Q E h => ?_) (fun cdv A outer s H vs Q E hr h => ⟨t_f_inverse_modulo K, PSs.nox ?_, pure_inverse K vs H Q E h⟩)) fun _ _ _ _ _ _ us hl => match us, hl with | [_, _], _ => rfl
  · obtain ⟨_, _, rfl, _⟩ := h; rfl
  · exact (pss_cons (ps_par (i := 2) (j := 3) rfl sc_f_inverse_modulo.nd rfl rfl (by decide) rfl rfl (pa_cons (pv 1) (pa_cons (pe_op u_mod (pv 0) (pv 1)) pa_nil)) (by rfl))
    (pss_cons (ps_asg (pe_tup (pa_cons pe_int (pa_cons pe_int pa_nil))) (pg_tup rfl (pgs_cons (pg_name (i := 4) sc_f_inverse_modulo.nd rfl (Or.inl rfl)) (pgs_cons (pg_name (i := 5) sc_f_inverse_modulo.nd rfl (Or.inl rfl)) pgs_nil))))
    (pss_cons (ps_while PassesOwn.never (pt_cmpR u_gt (pv 3) pe_int (nomark _)) (pss_cons (ps_set (i := 6) sc_f_inverse_modulo.nd rfl (Or.inl rfl) (pe_op u_fdiv (pv 2) (pv 3)))
    (pss_cons (ps_par (i := 2) (j := 3) rfl sc_f_inverse_modulo.nd rfl rfl (by decide) rfl rfl (pa_cons (pv 3) (pa_cons (pe_op op_sub (pv 2) (pe_op u_mul (pv 6) (pv 3))) pa_nil)) (by rfl))
    (pss_one (ps_par (i := 4) (j := 5) rfl sc_f_inverse_modulo.nd rfl rfl (by decide) rfl rfl (pa_cons (pv 5) (pa_cons (pe_op op_sub (pv 4) (pe_op u_mul (pv 6) (pv 5))) pa_nil)) (by rfl))))))
    (pss_one (ps_ret (pe_op u_mod (pv 4) (pv 1)))))))
theorem fn_m_Ground_number (T : Txt K mg) {fd : FuncData} (F : FunD K "number" "Ground.number" (defArgs s_m_Ground_number) (defBody s_m_Ground_number) (defScope s_m_Ground_number) [.int 1] [] (He.fAd K ("Ground", some "number")) fd) (G_inverse_modulo : OkF P w K mg base (L2N.CX P w) 1 ("inverse_modulo", none) ["number", "modulus"] sp_inverse_modulo) : FnOk P w K mg base (L2N.CX P w) 2 (He.fAd K ("Ground", some "number")) fd ["self", "top", "bottom"] (sp_Ground_number K) := by
  refine (F.ok sc_m_Ground_number (fun vs H Q E h => ?_) (fun cdv A outer s H vs Q E hr h => ⟨t_m_Ground_number K, PSs.nox ?_, pure_number K T.gr vs H Q E h⟩))
  · rcases h with ⟨_, _, _, _, rfl, _⟩ | ⟨_, _, _, _, rfl, _⟩ | ⟨_, _, _, _, rfl, _⟩ <;> rfl
  · exact (pss_cons (ps_if (pt_cmpR op_notN (pe_fld (pv 0) rfl) pe_non (nomark _)) (pss_cons (ps_if (pt_cmpR (u_eq (un64 hr)) (pe_op u_mod (pv 2) (pe_fld (pv 0) rfl)) pe_int (nomark _)) (pss_one ps_never) pss_nil)
    (pss_one (ps_ret (pe_op u_mod (pe_op u_mul (pv 1) (pe_own G_inverse_modulo (hr.mono (by omega)) rfl T.g_inverse_modulo passN (pa_cons (pv 2) (pa_cons (pe_fld (pv 0) rfl) pa_nil)))) (pe_fld (pv 0) rfl))))) pss_nil)
    (pss_cons (ps_if (pt_cmpR (u_eq (un64 hr)) (pv 2) pe_int (nomark _)) (pss_one ps_never) pss_nil)
    (pss_cons (ps_set (i := 3) sc_m_Ground_number.nd rfl (Or.inl rfl) (pe_callBfun cr_gcd rfl T.i_gcd (pa_cons (pv 1) (pa_cons (pv 2) pa_nil))))
    (pss_cut (ps_if (pt_cmpR (u_lt (un64 hr)) (pv 2) pe_int (nomark _)) (pss_one (ps_set (i := 3) sc_m_Ground_number.nd rfl (Or.inl rfl) (pe_un un_neg (pv 3)))) pss_nil)
    (pss_one (ps_ret (pe_tup (pa_cons (pe_op u_fdiv (pv 1) (pv 3)) (pa_cons (pe_op u_fdiv (pv 2) (pv 3)) pa_nil)))))))))
theorem ok_m_Ground_number {fd : FuncData} (F : FunD K "number" "Ground.number" (defArgs s_m_Ground_number) (defBody s_m_Ground_number) (defScope s_m_Ground_number) [.int 1] [] (He.fAd K ("Ground", some "number")) fd) (fo : FnOk P w K mg base (L2N.CX P w) 2 (He.fAd K ("Ground", some "number")) fd ["self", "top", "bottom"] (sp_Ground_number K)) : OkM P w K mg base 2 "Ground" "number" ["self", "top", "bottom"] (sp_Ground_number K) [] := by
  obtain ⟨ds, hv, hb⟩ := F.binds1 (ps := ["self", "top", "bottom"]) 3 1 (by decide) rfl fun T kV doc pm an cdv ct us its h1 h2 => match us, its, h1, h2 with | [_, _, _], [_], _, _ => ⟨_, rfl, rfl⟩
  exact ⟨⟨fd, ds, fo, hv, hb⟩⟩
theorem ok_m_Ground_number1 {fd : FuncData} (F : FunD K "number" "Ground.number" (defArgs s_m_Ground_number) (defBody s_m_Ground_number) (defScope s_m_Ground_number) [.int 1] [] (He.fAd K ("Ground", some "number")) fd) (fo : FnOk P w K mg base (L2N.CX P w) 2 (He.fAd K ("Ground", some "number")) fd ["self", "top", "bottom"] (sp_Ground_number K)) : OkM P w K mg base 2 "Ground" "number" ["self", "top", "bottom"] (sp_Ground_number K) [.int 1] := by
  obtain ⟨ds, hv, hb⟩ := F.binds1 (ps := ["self", "top", "bottom"]) 2 0 (by decide) rfl fun T kV doc pm an cdv ct us its h1 h2 => match us, its, h1, h2 with | [_, _], [_], _, _ => ⟨_, rfl, rfl⟩
  exact ⟨⟨fd, ds, fo, hv, hb⟩⟩
theorem ok_f_lowest (T : Txt K mg) {fd : FuncData} (F : FunD K "lowest" "lowest" (defArgs s_f_lowest) (defBody s_f_lowest) (defScope s_f_lowest) [] [] (He.fAd K ("lowest", none)) fd)  : OkF P w K mg base (L2N.CX P w) 1 ("lowest", none) ["top", "bottom"] sp_lowest := by
  refine FunD.okF F (F.ok sc_f_lowest (fun vs H Q E h => ?_) (fun cdv A outer s H vs Q E hr h => ⟨t_f_lowest K, PSs.nox ?_, pure_lowest K vs H Q E h⟩)) fun _ _ _ _ _ _ us hl => match us, hl with | [_, _], _ => rfl
  · obtain ⟨_, _, _, rfl, _⟩ := h; rfl
  · exact (pss_cons (ps_set (i := 2) sc_f_lowest.nd rfl (Or.inl rfl) (pe_callBfun cr_gcd rfl T.i_gcd (pa_cons (pv 0) (pa_cons (pv 1) pa_nil))))
    (pss_one (ps_ret (pe_tup (pa_cons (pe_op u_fdiv (pv 0) (pv 2)) (pa_cons (pe_op u_fdiv (pv 1) (pv 2)) pa_nil))))))
theorem ok_m_Ground_sub (T : Txt K mg) {fd : FuncData} (F : FunD K "sub" "Ground.sub" (defArgs s_m_Ground_sub) (defBody s_m_Ground_sub) (defScope s_m_Ground_sub) [] [] (He.fAd K ("Ground", some "sub")) fd) (G_Ground_number : OkM P w K mg base 2 "Ground" "number" ["self", "top", "bottom"] (sp_Ground_number K) []) : OkM P w K mg base 3 "Ground" "sub" ["self", "x", "y"] (sp_Ground_sub K) [] := by
  refine ⟨⟨fd, [], (F.ok sc_m_Ground_sub (fun vs H Q E h => ?_) (fun cdv A outer s H vs Q E hr h => ⟨t_m_Ground_sub K, PSs.nox ?_, pure_gsub K T.gr vs H Q E h⟩)), .nil, (F.bindsN fun _ _ _ _ _ _ us hl => match us, hl with | [_, _, _], _ => rfl)⟩⟩
  · obtain ⟨_, _, _, _, _, _, _, _, _, rfl, _⟩ := h; rfl
  · exact (pss_cons (ps_if (pt_cmpR op_notN (pe_fld (pv 0) rfl) pe_non (nomark _)) (pss_one (ps_ret (pe_op u_mod (pe_op op_sub (pv 1) (pv 2)) (pe_fld (pv 0) rfl)))) pss_nil)
    (pss_one (ps_ret (pe_omt G_Ground_number T.cl_Ground T.m_Ground_number (hr.mono (by omega)) passN (pv 0) (pa_cons (pe_op op_sub (pe_op u_mul (pe_ix u_ix (pv 1) pe_int (fun _ _ => rfl)) (pe_ix u_ix (pv 2) pe_int (fun _ _ => rfl))) (pe_op u_mul (pe_ix u_ix (pv 2) pe_int (fun _ _ => rfl)) (pe_ix u_ix (pv 1) pe_int (fun _ _ => rfl)))) (pa_cons (pe_op u_mul (pe_ix u_ix (pv 1) pe_int (fun _ _ => rfl)) (pe_ix u_ix (pv 2) pe_int (fun _ _ => rfl))) pa_nil))))))
theorem ok_m_Ground_mul (T : Txt K mg) {fd : FuncData} (F : FunD K "mul" "Ground.mul" (defArgs s_m_Ground_mul) (defBody s_m_Ground_mul) (defScope s_m_Ground_mul) [] [] (He.fAd K ("Ground", some "mul")) fd) (G_Ground_number : OkM P w K mg base 2 "Ground" "number" ["self", "top", "bottom"] (sp_Ground_number K) []) : OkM P w K mg base 3 "Ground" "mul" ["self", "x", "y"] (sp_Ground_mul K) [] := by
  refine ⟨⟨fd, [], (F.ok sc_m_Ground_mul (fun vs H Q E h => ?_) (fun cdv A outer s H vs Q E hr h => ⟨t_m_Ground_mul K, PSs.nox ?_, pure_gmul K T.gr vs H Q E h⟩)), .nil, (F.bindsN fun _ _ _ _ _ _ us hl => match us, hl with | [_, _, _], _ => rfl)⟩⟩
  · obtain ⟨_, _, _, _, _, _, _, _, _, rfl, _⟩ := h; rfl
  · exact (pss_cons (ps_if (pt_cmpR op_notN (pe_fld (pv 0) rfl) pe_non (nomark _)) (pss_one (ps_ret (pe_op u_mod (pe_op u_mul (pv 1) (pv 2)) (pe_fld (pv 0) rfl)))) pss_nil)
    (pss_one (ps_ret (pe_omt G_Ground_number T.cl_Ground T.m_Ground_number (hr.mono (by omega)) passN (pv 0) (pa_cons (pe_op u_mul (pe_ix u_ix (pv 1) pe_int (fun _ _ => rfl)) (pe_ix u_ix (pv 2) pe_int (fun _ _ => rfl))) (pa_cons (pe_op u_mul (pe_ix u_ix (pv 1) pe_int (fun _ _ => rfl)) (pe_ix u_ix (pv 2) pe_int (fun _ _ => rfl))) pa_nil))))))
theorem ok_m_Ground_div (T : Txt K mg) {fd : FuncData} (F : FunD K "div" "Ground.div" (defArgs s_m_Ground_div) (defBody s_m_Ground_div) (defScope s_m_Ground_div) [] [] (He.fAd K ("Ground", some "div")) fd) (G_Ground_number : OkM P w K mg base 2 "Ground" "number" ["self", "top", "bottom"] (sp_Ground_number K) []) (G_Ground_number1 : OkM P w K mg base 2 "Ground" "number" ["self", "top", "bottom"] (sp_Ground_number K) [.int 1]) (G_inverse_modulo : OkF P w K mg base (L2N.CX P w) 1 ("inverse_modulo", none) ["number", "modulus"] sp_inverse_modulo) : OkM P w K mg base 3 "Ground" "div" ["self", "x", "y"] (sp_Ground_div K) [] := by
  refine ⟨⟨fd, [], (F.ok sc_m_Ground_div (fun vs H Q E h => ?_) (fun cdv A outer s H vs Q E hr h => ⟨t_m_Ground_div K, PSs.nox ?_, pure_gdiv K T.gr vs H Q E h⟩)), .nil, (F.bindsN fun _ _ _ _ _ _ us hl => match us, hl with | [_, _, _], _ => rfl)⟩⟩
  · obtain ⟨_, _, _, _, _, _, rfl, _⟩ := h; rfl
  · exact (pss_cons (ps_if (pt_cmpR (u_eq (un64 hr)) (pv 2) (pe_omt G_Ground_number1 T.cl_Ground T.m_Ground_number (hr.mono (by omega)) passN (pv 0) (pa_cons pe_int pa_nil)) (nomark _)) (pss_one ps_never) pss_nil)
    (pss_cons (ps_if (pt_cmpR op_notN (pe_fld (pv 0) rfl) pe_non (nomark _)) (pss_one (ps_ret (pe_op u_mod (pe_op u_mul (pv 1) (pe_own G_inverse_modulo (hr.mono (by omega)) rfl T.g_inverse_modulo passN (pa_cons (pv 2) (pa_cons (pe_fld (pv 0) rfl) pa_nil)))) (pe_fld (pv 0) rfl)))) pss_nil)
    (pss_one (ps_ret (pe_omt G_Ground_number T.cl_Ground T.m_Ground_number (hr.mono (by omega)) passN (pv 0) (pa_cons (pe_op u_mul (pe_ix u_ix (pv 1) pe_int (fun _ _ => rfl)) (pe_ix u_ix (pv 2) pe_int (fun _ _ => rfl))) (pa_cons (pe_op u_mul (pe_ix u_ix (pv 1) pe_int (fun _ _ => rfl)) (pe_ix u_ix (pv 2) pe_int (fun _ _ => rfl))) pa_nil)))))))
theorem ok_f_zero_of (T : Txt K mg) {fd : FuncData} (F : FunD K "zero_of" "zero_of" (defArgs s_f_zero_of) (defBody s_f_zero_of) (defScope s_f_zero_of) [] [] (He.fAd K ("zero_of", none)) fd)  : OkF P w K mg base (L2N.CX P w) 1 ("zero_of", none) ["ground"] (sp_zero_of K) := by
  refine FunD.okF F (F.ok sc_f_zero_of (fun vs H Q E h => ?_) (fun cdv A outer s H vs Q E hr h => ⟨t_f_zero_of K, PSs.nox ?_, pure_zero_of K T.gr vs H Q E h⟩)) fun _ _ _ _ _ _ us hl => match us, hl with | [_], _ => rfl
  · obtain ⟨_, _, rfl, _⟩ := h; rfl
  · exact (pss_one (ps_ret (pe_ifExp (pt_cmpR op_isN (pe_fld (pv 0) rfl) pe_non (nomark _)) (pe_tup (pa_cons pe_int (pa_cons pe_int pa_nil))) pe_int)))
theorem ok_f_one_of (T : Txt K mg) {fd : FuncData} (F : FunD K "one_of" "one_of" (defArgs s_f_one_of) (defBody s_f_one_of) (defScope s_f_one_of) [] [] (He.fAd K ("one_of", none)) fd)  : OkF P w K mg base (L2N.CX P w) 1 ("one_of", none) ["ground"] (sp_one_of K) := by
  refine FunD.okF F (F.ok sc_f_one_of (fun vs H Q E h => ?_) (fun cdv A outer s H vs Q E hr h => ⟨t_f_one_of K, PSs.nox ?_, pure_one_of K T.gr vs H Q E h⟩)) fun _ _ _ _ _ _ us hl => match us, hl with | [_], _ => rfl
  · obtain ⟨_, _, rfl, _⟩ := h; rfl
  · exact (pss_one (ps_ret (pe_ifExp (pt_cmpR op_isN (pe_fld (pv 0) rfl) pe_non (nomark _)) (pe_tup (pa_cons pe_int (pa_cons pe_int pa_nil))) pe_int)))
theorem ok_f_unit_row (T : Txt K mg) {fd : FuncData} (F : FunD K "unit_row" "unit_row" (defArgs s_f_unit_row) (defBody s_f_unit_row) (defScope s_f_unit_row) [] [] (He.fAd K ("unit_row", none)) fd) (G_one_of : OkF P w K mg base (L2N.CX P w) 1 ("one_of", none) ["ground"] (sp_one_of K)) (G_zero_of : OkF P w K mg base (L2N.CX P w) 1 ("zero_of", none) ["ground"] (sp_zero_of K)) : OkF P w K mg base (L2N.CX P w) 2 ("unit_row", none) ["ground", "places", "at"] (sp_unit_row K) := by
  refine FunD.okF F (F.ok sc_f_unit_row (fun vs H Q E h => ?_) (fun cdv A outer s H vs Q E hr h => ⟨t_f_unit_row K, PSs.nox ?_, pure_unit_row K vs H Q E h⟩)) fun _ _ _ _ _ _ us hl => match us, hl with | [_, _, _], _ => rfl
  · obtain ⟨_, _, _, _, rfl, _⟩ := h; rfl
  · exact (pss_cons (ps_asg (pe_tup (pa_cons (pe_own G_zero_of (hr.mono (by omega)) rfl T.g_zero_of passN (pa_cons (pv 0) pa_nil)) (pa_cons (pe_own G_one_of (hr.mono (by omega)) rfl T.g_one_of passN (pa_cons (pv 0) pa_nil)) pa_nil))) (pg_tup rfl (pgs_cons (pg_name (i := 3) sc_f_unit_row.nd rfl (Or.inr rfl)) (pgs_cons (pg_name (i := 4) sc_f_unit_row.nd rfl (Or.inr rfl)) pgs_nil))))
    (pss_one (ps_ret (pe_lc (own := [("k", 5)]) rfl sc_f_unit_row.nd (pi_range1 rfl T.b_range (pa_cons (pv 1) pa_nil)) (blkOk_by (N := N_f_unit_row) (sc := defScope s_f_unit_row) (own := [("k", 5)]) (by decide +kernel)) (fun _ _ _ _ _ => (pg_name (i := 5) sc_f_unit_row.nd rfl (Or.inl rfl))) (fun _ _ _ _ _ => pts_nil) (fun _ _ _ _ _ => (pe_ifExp (pt_cmpR (u_eq (un64 hr)) (pv 5) (pv 2) (nomark _)) (pv 4) (pv 3)))))))
theorem ok_f_dot (T : Txt K mg) {fd : FuncData} (F : FunD K "dot" "dot" (defArgs s_f_dot) (defBody s_f_dot) (defScope s_f_dot) [] [] (He.fAd K ("dot", none)) fd) (G_lowest : OkF P w K mg base (L2N.CX P w) 1 ("lowest", none) ["top", "bottom"] sp_lowest) : OkF P w K mg base (L2N.CX P w) 2 ("dot", none) ["ground", "row", "other"] (sp_dot K) := by
  refine FunD.okF F (F.ok sc_f_dot (fun vs H Q E h => ?_) (fun cdv A outer s H vs Q E hr h => ⟨t_f_dot K, PSs.nox ?_, pure_dotp K T.gr vs H Q E h⟩)) fun _ _ _ _ _ _ us hl => match us, hl with | [_, _, _], _ => rfl
  · obtain ⟨_, _, _, _, _, _, _, _, rfl, _⟩ := h; rfl
  · exact (pss_cons (ps_if (pt_cmpR op_notN (pe_fld (pv 0) rfl) pe_non (nomark _)) (pss_one (ps_ret (pe_op u_mod (pe_callB (u_sum rfl) rfl T.b_sum (by decide +kernel) (pa_cons (pe_lc (own := [("x", 10), ("y", 11)]) rfl sc_f_dot.nd (pi_zipA rfl T.b_zip (pa_cons (pv 1) (pa_cons (pv 2) pa_nil))) (blkOk_by (N := N_f_dot) (sc := defScope s_f_dot) (own := [("x", 10), ("y", 11)]) (by decide +kernel)) (fun _ _ _ _ _ => (pg_tup rfl (pgs_cons (pg_name (i := 10) sc_f_dot.nd rfl (Or.inl rfl)) (pgs_cons (pg_name (i := 11) sc_f_dot.nd rfl (Or.inl rfl)) pgs_nil)))) (fun _ _ _ _ _ => pts_nil) (fun _ _ _ _ _ => (pe_op u_mul (pv 10) (pv 11)))) pa_nil)) (pe_fld (pv 0) rfl)))) pss_nil)
    (pss_cons (ps_asg (pe_tup (pa_cons pe_int (pa_cons pe_int pa_nil))) (pg_tup rfl (pgs_cons (pg_name (i := 3) sc_f_dot.nd rfl (Or.inl rfl)) (pgs_cons (pg_name (i := 4) sc_f_dot.nd rfl (Or.inl rfl)) pgs_nil))))
    (pss_cons (ps_for PassesOwn.never rfl (pi_zipA rfl T.b_zip (pa_cons (pv 1) (pa_cons (pv 2) pa_nil))) (pg_tup rfl (pgs_cons (pg_tup rfl (pgs_cons (pg_name (i := 5) sc_f_dot.nd rfl (Or.inl rfl)) (pgs_cons (pg_name (i := 6) sc_f_dot.nd rfl (Or.inl rfl)) pgs_nil))) (pgs_cons (pg_tup rfl (pgs_cons (pg_name (i := 7) sc_f_dot.nd rfl (Or.inl rfl)) (pgs_cons (pg_name (i := 8) sc_f_dot.nd rfl (Or.inl rfl)) pgs_nil))) pgs_nil))) (pss_one (ps_if (PW.pt (pw_and (pt_truth (pv 5) (by intro _; rfl)) (pw_and1 (pt_truth (pv 7) (by intro _; rfl))))) (pss_cons (ps_set (i := 9) sc_f_dot.nd rfl (Or.inl rfl) (pe_op u_mul (pv 6) (pv 8)))
    (pss_one (ps_if (pt_cmpR (u_eq (un64 hr)) (pv 9) (pv 4) (nomark _)) (pss_one (ps_aug (i := 3) sc_f_dot.nd rfl (Or.inl rfl) (pe_op u_mul (pv 5) (pv 7)) ip_add)) (pss_one (ps_asg (pe_own G_lowest (hr.mono (by omega)) rfl T.g_lowest passN (pa_cons (pe_op u_add (pe_op u_mul (pv 3) (pv 9)) (pe_op u_mul (pe_op u_mul (pv 5) (pv 7)) (pv 4))) (pa_cons (pe_op u_mul (pv 4) (pv 9)) pa_nil))) (pg_tup rfl (pgs_cons (pg_name (i := 3) sc_f_dot.nd rfl (Or.inl rfl)) (pgs_cons (pg_name (i := 4) sc_f_dot.nd rfl (Or.inl rfl)) pgs_nil)))))))) pss_nil)))
    (pss_one (ps_ret (pe_own G_lowest (hr.mono (by omega)) rfl T.g_lowest passN (pa_cons (pv 3) (pa_cons (pv 4) pa_nil))))))))
theorem ok_f_blend (T : Txt K mg) {fd : FuncData} (F : FunD K "blend" "blend" (defArgs s_f_blend) (defBody s_f_blend) (defScope s_f_blend) [] [] (He.fAd K ("blend", none)) fd) (G_dot : OkF P w K mg base (L2N.CX P w) 2 ("dot", none) ["ground", "row", "other"] (sp_dot K)) (G_zero_of : OkF P w K mg base (L2N.CX P w) 1 ("zero_of", none) ["ground"] (sp_zero_of K)) : OkF P w K mg base (L2N.CX P w) 3 ("blend", none) ["ground", "numbers", "rows", "places"] (sp_blend K) := by
  refine FunD.okF F (F.ok sc_f_blend (fun vs H Q E h => ?_) (fun cdv A outer s H vs Q E hr h => ⟨t_f_blend K, PSs.nox ?_, pure_blend K vs H Q E h⟩)) fun _ _ _ _ _ _ us hl => match us, hl with | [_, _, _, _], _ => rfl
  · obtain ⟨_, _, _, _, _, _, _, _, _, rfl, _⟩ := h; rfl
  · exact (pss_cons (ps_set (i := 4) sc_f_blend.nd rfl (Or.inr rfl) (pe_own G_zero_of (hr.mono (by omega)) rfl T.g_zero_of passN (pa_cons (pv 0) pa_nil)))
    (pss_cons (ps_set (i := 5) sc_f_blend.nd rfl (Or.inr rfl) (pe_lc (own := [("x", 7), ("row", 8)]) rfl sc_f_blend.nd (pi_zipA rfl T.b_zip (pa_cons (pv 1) (pa_cons (pv 2) pa_nil))) (blkOk_by (N := N_f_blend) (sc := defScope s_f_blend) (own := [("x", 7), ("row", 8)]) (by decide +kernel)) (fun _ _ _ _ _ => (pg_tup rfl (pgs_cons (pg_name (i := 7) sc_f_blend.nd rfl (Or.inl rfl)) (pgs_cons (pg_name (i := 8) sc_f_blend.nd rfl (Or.inl rfl)) pgs_nil)))) (fun _ _ _ _ _ => (pts_one (pt_cmpR (u_ne (un64 hr)) (pv 7) (pv 4) (nomark _)))) (fun _ _ _ _ _ => (pe_tup (pa_cons (pv 7) (pa_cons (pv 8) pa_nil))))))
    (pss_cons (ps_set (i := 6) sc_f_blend.nd rfl (Or.inr rfl) (pe_lc (own := [("x", 7), ("row", 8)]) rfl sc_f_blend.nd (pi_seq (pv 5)) (blkOk_by (N := N_f_blend) (sc := defScope s_f_blend) (own := [("x", 7), ("row", 8)]) (by decide +kernel)) (fun _ _ _ _ _ => (pg_tup rfl (pgs_cons (pg_name (i := 7) sc_f_blend.nd rfl (Or.inl rfl)) (pgs_cons (pg_name (i := 8) sc_f_blend.nd rfl (Or.inl rfl)) pgs_nil)))) (fun _ _ _ _ _ => pts_nil) (fun _ _ _ _ _ => (pv 7))))
    (pss_one (ps_ret (pe_lc (own := [("k", 9)]) rfl sc_f_blend.nd (pi_range1 rfl T.b_range (pa_cons (pv 3) pa_nil)) (blkOk_by (N := N_f_blend) (sc := defScope s_f_blend) (own := [("k", 9)]) (by decide +kernel)) (fun _ _ _ _ _ => (pg_name (i := 9) sc_f_blend.nd rfl (Or.inr rfl))) (fun _ _ _ _ _ => pts_nil) (fun _ _ _ _ _ => (pe_own G_dot (hr.mono (by omega)) rfl T.g_dot passN (pa_cons (pv 0) (pa_cons (pv 6) (pa_cons (pe_lc (own := [("x", 7), ("row", 8)]) rfl sc_f_blend.nd (pi_seq (pv 5)) (blkOk_by (N := N_f_blend) (own := [("x", 7), ("row", 8)]) (by kernel_rfl)) (fun _ _ _ _ _ => (pg_tup rfl (pgs_cons (pg_name (i := 7) sc_f_blend.nd rfl (Or.inl rfl)) (pgs_cons (pg_name (i := 8) sc_f_blend.nd rfl (Or.inl rfl)) pgs_nil)))) (fun _ _ _ _ _ => pts_nil) (fun _ _ _ _ _ => (pe_ix u_ix (pv 8) (pv 9) (fun _ _ => rfl)))) pa_nil)))))))))))
theorem ok_f_scaled (T : Txt K mg) {fd : FuncData} (F : FunD K "scaled" "scaled" (defArgs s_f_scaled) (defBody s_f_scaled) (defScope s_f_scaled) [] [] (He.fAd K ("scaled", none)) fd) (G_lowest : OkF P w K mg base (L2N.CX P w) 1 ("lowest", none) ["top", "bottom"] sp_lowest) : OkF P w K mg base (L2N.CX P w) 2 ("scaled", none) ["ground", "x", "row"] (sp_scaled K) := by
  refine FunD.okF F (F.ok sc_f_scaled (fun vs H Q E h => ?_) (fun cdv A outer s H vs Q E hr h => ⟨t_f_scaled K, PSs.nox ?_, pure_scaled K T.gr vs H Q E h⟩)) fun _ _ _ _ _ _ us hl => match us, hl with | [_, _, _], _ => rfl
  · obtain ⟨_, _, _, _, _, _, _, _, rfl, _⟩ := h; rfl
  · exact (pss_cons (ps_if (pt_cmpR op_notN (pe_fld (pv 0) rfl) pe_non (nomark _)) (pss_one (ps_ret (pe_lc (own := [("y", 7)]) rfl sc_f_scaled.nd (pi_seq (pv 2)) (blkOk_by (N := N_f_scaled) (sc := defScope s_f_scaled) (own := [("y", 7)]) (by decide +kernel)) (fun _ _ _ _ _ => (pg_name (i := 7) sc_f_scaled.nd rfl (Or.inl rfl))) (fun _ _ _ _ _ => pts_nil) (fun _ _ _ _ _ => (pe_op u_mod (pe_op u_mul (pv 1) (pv 7)) (pe_fld (pv 0) rfl)))))) pss_nil)
    (pss_cons (ps_asg (pv 1) (pg_tup rfl (pgs_cons (pg_name (i := 3) sc_f_scaled.nd rfl (Or.inr rfl)) (pgs_cons (pg_name (i := 4) sc_f_scaled.nd rfl (Or.inr rfl)) pgs_nil))))
    (pss_one (ps_ret (pe_lc (own := [("a", 5), ("b", 6)]) rfl sc_f_scaled.nd (pi_seq (pv 2)) (blkOk_by (N := N_f_scaled) (sc := defScope s_f_scaled) (own := [("a", 5), ("b", 6)]) (by decide +kernel)) (fun _ _ _ _ _ => (pg_tup rfl (pgs_cons (pg_name (i := 5) sc_f_scaled.nd rfl (Or.inl rfl)) (pgs_cons (pg_name (i := 6) sc_f_scaled.nd rfl (Or.inl rfl)) pgs_nil)))) (fun _ _ _ _ _ => pts_nil) (fun _ _ _ _ _ => (pe_own G_lowest (hr.mono (by omega)) rfl T.g_lowest passN (pa_cons (pe_op u_mul (pv 3) (pv 5)) (pa_cons (pe_op u_mul (pv 4) (pv 6)) pa_nil)))))))))
theorem ok_m_LeftRight_init (T : Txt K mg) {fd : FuncData} (F : FunD K "__init__" "LeftRight.__init__" (defArgs s_m_LeftRight_init) (defBody s_m_LeftRight_init) (defScope s_m_LeftRight_init) [] [] (He.fAd K ("LeftRight", some "__init__")) fd)  : OkI P w K mg base 1 "LeftRight" ["self", "ground", "sizes", "triples"] (sp_LeftRight_init K) := by
  refine ⟨⟨fd, (F.ok sc_m_LeftRight_init (fun vs H Q E h => ?_) (fun cdv A outer s H vs Q E hr h => ⟨t_m_LeftRight_init K, PSs.nox ?_, pure_linit K T.lr vs H Q E h⟩)), (F.bindsN fun _ _ _ _ _ _ us hl => match us, hl with | [_, _, _, _], _ => rfl)⟩⟩
  · obtain ⟨_, _, _, _, _, _, _, _, _, _, _, rfl, _⟩ := h; rfl
  · exact (pss_cons (ps_fld (pv 0) (pv 1) rfl)
    (pss_cons (ps_fld (pv 0) (pe_callTy u_tuple rfl T.b_tuple (by decide +kernel) (pa_cons (pv 2) pa_nil)) rfl)
    (pss_cons (ps_fld (pv 0) (pe_lc (own := [("u", 4), ("v", 5), ("w", 6)]) rfl sc_m_LeftRight_init.nd (pi_seq (pv 3)) (blkOk_by (N := N_m_LeftRight_init) (sc := defScope s_m_LeftRight_init) (own := [("u", 4), ("v", 5), ("w", 6)]) (by decide +kernel)) (fun _ _ _ _ _ => (pg_tup rfl (pgs_cons (pg_name (i := 4) sc_m_LeftRight_init.nd rfl (Or.inl rfl)) (pgs_cons (pg_name (i := 5) sc_m_LeftRight_init.nd rfl (Or.inl rfl)) (pgs_cons (pg_name (i := 6) sc_m_LeftRight_init.nd rfl (Or.inl rfl)) pgs_nil))))) (fun _ _ _ _ _ => pts_nil) (fun _ _ _ _ _ => (pe_tup (pa_cons (pe_callTy u_list rfl T.b_list (by decide +kernel) (pa_cons (pv 4) pa_nil)) (pa_cons (pe_callTy u_list rfl T.b_list (by decide +kernel) (pa_cons (pv 5) pa_nil)) (pa_cons (pe_callTy u_list rfl T.b_list (by decide +kernel) (pa_cons (pv 6) pa_nil)) pa_nil)))))) rfl)
    (pss_cons (ps_for PassesOwn.never rfl (pi_seq (pe_fld (pv 0) rfl)) (pg_tup rfl (pgs_cons (pg_name (i := 4) sc_m_LeftRight_init.nd rfl (Or.inl rfl)) (pgs_cons (pg_name (i := 5) sc_m_LeftRight_init.nd rfl (Or.inl rfl)) (pgs_cons (pg_name (i := 6) sc_m_LeftRight_init.nd rfl (Or.inl rfl)) pgs_nil)))) (pss_one (ps_if (pt_cmpR (u_ne (un64 hr)) (pe_tup (pa_cons (pe_callB u_len rfl T.b_len (by decide +kernel) (pa_cons (pv 4) pa_nil)) (pa_cons (pe_callB u_len rfl T.b_len (by decide +kernel) (pa_cons (pv 5) pa_nil)) (pa_cons (pe_callB u_len rfl T.b_len (by decide +kernel) (pa_cons (pv 6) pa_nil)) pa_nil)))) (pe_fld (pv 0) rfl) (nomark _)) (pss_one ps_never) pss_nil)))
    (pss_cons (ps_if (pt_cmpR u_gt (pe_callB u_len rfl T.b_len (by decide +kernel) (pa_cons (pe_fld (pv 0) rfl) pa_nil)) (pe_constI rfl T.c_MOST_PRODUCTS) (nomark _)) (pss_one ps_never) pss_nil)
    (pss_one (ps_if (pt_cmpR u_gt (pe_callB (cr_maxT rfl (un65 hr)) rfl T.b_max (by decide +kernel) (pa_cons (pe_fld (pv 0) rfl) pa_nil)) (pe_constI rfl T.c_MOST_SIZE) (nomark _)) (pss_one ps_never) pss_nil)))))))
theorem ok_m_LeftRight_sizes (T : Txt K mg) {fd : FuncData} (F : FunD K "sizes" "LeftRight.sizes" (defArgs s_m_LeftRight_sizes) (defBody s_m_LeftRight_sizes) (defScope s_m_LeftRight_sizes) [] [] (He.fAd K ("LeftRight", some "sizes")) fd)  : OkM P w K mg base 1 "LeftRight" "sizes" ["self"] (sp_LeftRight_sizes K) [] := by
  refine ⟨⟨fd, [], (F.ok sc_m_LeftRight_sizes (fun vs H Q E h => ?_) (fun cdv A outer s H vs Q E hr h => ⟨t_m_LeftRight_sizes K, PSs.nox ?_, pure_sizes K T.lr vs H Q E h⟩)), .nil, (F.bindsN fun _ _ _ _ _ _ us hl => match us, hl with | [_], _ => rfl)⟩⟩
  · obtain ⟨_, _, _, _, _, _, _, _, _, rfl, _⟩ := h; rfl
  · exact (pss_one (ps_ret (pe_fld (pv 0) rfl)))
theorem ok_m_LeftRight_triples (T : Txt K mg) {fd : FuncData} (F : FunD K "triples" "LeftRight.triples" (defArgs s_m_LeftRight_triples) (defBody s_m_LeftRight_triples) (defScope s_m_LeftRight_triples) [] [] (He.fAd K ("LeftRight", some "triples")) fd)  : OkM P w K mg base 1 "LeftRight" "triples" ["self"] (sp_LeftRight_triples K) [] := by
  refine ⟨⟨fd, [], (F.ok sc_m_LeftRight_triples (fun vs H Q E h => ?_) (fun cdv A outer s H vs Q E hr h => ⟨t_m_LeftRight_triples K, PSs.nox ?_, pure_triples K T.lr vs H Q E h⟩)), .nil, (F.bindsN fun _ _ _ _ _ _ us hl => match us, hl with | [_], _ => rfl)⟩⟩
  · obtain ⟨_, _, _, _, _, _, _, _, _, _, rfl, _⟩ := h; rfl
  · exact (pss_one (ps_ret (pe_lc (own := [("u", 1), ("v", 2), ("w", 3)]) rfl sc_m_LeftRight_triples.nd (pi_seq (pe_fld (pv 0) rfl)) (blkOk_by (N := N_m_LeftRight_triples) (sc := defScope s_m_LeftRight_triples) (own := [("u", 1), ("v", 2), ("w", 3)]) (by decide +kernel)) (fun _ _ _ _ _ => (pg_tup rfl (pgs_cons (pg_name (i := 1) sc_m_LeftRight_triples.nd rfl (Or.inl rfl)) (pgs_cons (pg_name (i := 2) sc_m_LeftRight_triples.nd rfl (Or.inl rfl)) (pgs_cons (pg_name (i := 3) sc_m_LeftRight_triples.nd rfl (Or.inl rfl)) pgs_nil))))) (fun _ _ _ _ _ => pts_nil) (fun _ _ _ _ _ => (pe_tup (pa_cons (pe_callTy u_list rfl T.b_list (by decide +kernel) (pa_cons (pv 1) pa_nil)) (pa_cons (pe_callTy u_list rfl T.b_list (by decide +kernel) (pa_cons (pv 2) pa_nil)) (pa_cons (pe_callTy u_list rfl T.b_list (by decide +kernel) (pa_cons (pv 3) pa_nil)) pa_nil))))))))
theorem ok_m_LeftRight_tells (T : Txt K mg) {fd : FuncData} (F : FunD K "tells" "LeftRight.tells" (defArgs s_m_LeftRight_tells) (defBody s_m_LeftRight_tells) (defScope s_m_LeftRight_tells) [] [] (He.fAd K ("LeftRight", some "tells")) fd) (G_Ground_mul : OkM P w K mg base 3 "Ground" "mul" ["self", "x", "y"] (sp_Ground_mul K) []) (G_blend : OkF P w K mg base (L2N.CX P w) 3 ("blend", none) ["ground", "numbers", "rows", "places"] (sp_blend K)) (G_dot : OkF P w K mg base (L2N.CX P w) 2 ("dot", none) ["ground", "row", "other"] (sp_dot K)) : OkM P w K mg base 4 "LeftRight" "tells" ["self", "a", "b"] (sp_LeftRight_tells K) [] := by
  refine ⟨⟨fd, [], (F.ok sc_m_LeftRight_tells (fun vs H Q E h => ?_) (fun cdv A outer s H vs Q E hr h => ⟨t_m_LeftRight_tells K, PSs.nox ?_, pure_tells K T.lr vs H Q E h⟩)), .nil, (F.bindsN fun _ _ _ _ _ _ us hl => match us, hl with | [_, _, _], _ => rfl)⟩⟩
  · obtain ⟨_, _, _, _, _, _, _, _, _, _, _, _, _, _, _, _, rfl, _⟩ := h; rfl
  · exact (pss_cons (ps_set (i := 3) sc_m_LeftRight_tells.nd rfl (Or.inr rfl) (pe_fld (pv 0) rfl))
    (pss_cons (ps_setLc (i := 4) (own := [("u", 5), ("v", 6), ("w", 7)]) rfl sc_m_LeftRight_tells.nd rfl rfl (sw_true rfl rfl rfl (by decide +kernel)) (pi_seq (pe_fld (pv 0) rfl)) (blkOk_by (N := N_m_LeftRight_tells) (sc := defScope s_m_LeftRight_tells) (own := [("u", 5), ("v", 6), ("w", 7)]) (by decide +kernel)) (fun _ _ _ _ _ => (pg_tup rfl (pgs_cons (pg_name (i := 5) sc_m_LeftRight_tells.nd rfl (Or.inl rfl)) (pgs_cons (pg_name (i := 6) sc_m_LeftRight_tells.nd rfl (Or.inl rfl)) (pgs_cons (pg_name (i := 7) sc_m_LeftRight_tells.nd rfl (Or.inl rfl)) pgs_nil))))) (fun _ _ _ _ _ => pts_nil) (fun _ _ _ _ _ => (pe_omt G_Ground_mul T.cl_Ground T.m_Ground_mul (hr.mono (by omega)) passN (pv 3) (pa_cons (pe_own G_dot (hr.mono (by omega)) rfl T.g_dot passN (pa_cons (pv 3) (pa_cons (pv 5) (pa_cons (pv 1) pa_nil)))) (pa_cons (pe_own G_dot (hr.mono (by omega)) rfl T.g_dot passN (pa_cons (pv 3) (pa_cons (pv 6) (pa_cons (pv 2) pa_nil)))) pa_nil)))))
    (pss_one (ps_ret (pe_own G_blend (hr.mono (by omega)) rfl T.g_blend passN (pa_cons (pv 3) (pa_cons (pv 4) (pa_cons (pe_lc (own := [("u", 5), ("v", 6), ("w", 7)]) rfl sc_m_LeftRight_tells.nd (pi_seq (pe_fld (pv 0) rfl)) (blkOk_by (N := N_m_LeftRight_tells) (sc := defScope s_m_LeftRight_tells) (own := [("u", 5), ("v", 6), ("w", 7)]) (by decide +kernel)) (fun _ _ _ _ _ => (pg_tup rfl (pgs_cons (pg_name (i := 5) sc_m_LeftRight_tells.nd rfl (Or.inl rfl)) (pgs_cons (pg_name (i := 6) sc_m_LeftRight_tells.nd rfl (Or.inl rfl)) (pgs_cons (pg_name (i := 7) sc_m_LeftRight_tells.nd rfl (Or.inl rfl)) pgs_nil))))) (fun _ _ _ _ _ => pts_nil) (fun _ _ _ _ _ => (pv 7))) (pa_cons (pe_ix u_ix (pe_fld (pv 0) rfl) pe_int (fun _ _ => rfl)) pa_nil)))))))))
theorem ok_f_value_rows (T : Txt K mg) {fd : FuncData} (F : FunD K "value_rows" "value_rows" (defArgs s_f_value_rows) (defBody s_f_value_rows) (defScope s_f_value_rows) [] [] (He.fAd K ("value_rows", none)) fd) (G_Ground_div : OkM P w K mg base 3 "Ground" "div" ["self", "x", "y"] (sp_Ground_div K) []) (G_Ground_mul : OkM P w K mg base 3 "Ground" "mul" ["self", "x", "y"] (sp_Ground_mul K) []) (G_Ground_sub : OkM P w K mg base 3 "Ground" "sub" ["self", "x", "y"] (sp_Ground_sub K) []) (G_one_of : OkF P w K mg base (L2N.CX P w) 1 ("one_of", none) ["ground"] (sp_one_of K)) (G_scaled : OkF P w K mg base (L2N.CX P w) 2 ("scaled", none) ["ground", "x", "row"] (sp_scaled K)) (G_zero_of : OkF P w K mg base (L2N.CX P w) 1 ("zero_of", none) ["ground"] (sp_zero_of K)) : OkF P w K mg base (L2N.CX P w) 4 ("value_rows", none) ["ground", "many", "points"] (sp_value_rows K) := by
  refine FunD.okF F (F.ok sc_f_value_rows (fun vs H Q E h => ?_) (fun cdv A outer s H vs Q E hr h => ⟨t_f_value_rows K, PSs.nox ?_, pure_value_rows K vs H Q E h⟩)) fun _ _ _ _ _ _ us hl => match us, hl with | [_, _, _], _ => rfl
  · obtain ⟨_, _, _, _, rfl, _⟩ := h; rfl
  · exact (pss_cons (ps_par (i := 3) (j := 4) rfl sc_f_value_rows.nd rfl rfl (by decide) rfl rfl (pa_cons (pe_own G_zero_of (hr.mono (by omega)) rfl T.g_zero_of passN (pa_cons (pv 0) pa_nil)) (pa_cons (pe_own G_one_of (hr.mono (by omega)) rfl T.g_one_of passN (pa_cons (pv 0) pa_nil)) pa_nil)) (by rfl))
    (pss_cons (ps_set (i := 5) sc_f_value_rows.nd rfl (Or.inl rfl) (pe_lst pa_nil))
    (pss_cons (ps_for PassesOwn.never rfl (pi_seq (pv 2)) (pg_name (i := 6) sc_f_value_rows.nd rfl (Or.inr rfl)) (pss_cons (ps_setLc (i := 8) (own := [("other", 7)]) rfl sc_f_value_rows.nd rfl rfl (sw_true rfl rfl rfl (by decide +kernel)) (pi_seq (pv 2)) (blkOk_by (N := N_f_value_rows) (sc := defScope s_f_value_rows) (own := [("other", 7)]) (by decide +kernel)) (fun _ _ _ _ _ => (pg_name (i := 7) sc_f_value_rows.nd rfl (Or.inl rfl))) (fun _ _ _ _ _ => (pts_one (PW.pt (pw_and (pt_cmpR (u_ne (un64 hr)) (pv 7) (pv 6) (nomark _)) (pw_and1 (pt_cmpR (u_ne (un64 hr)) (pv 7) (pe_constS rfl T.c_FAR) (nomark _))))))) (fun _ _ _ _ _ => (pv 7)))
    (pss_cons (ps_par (i := 9) (j := 10) rfl sc_f_value_rows.nd rfl rfl (by decide) rfl rfl (pa_cons (pe_lst (pa_cons (pv 4) pa_nil)) (pa_cons (pv 4) pa_nil)) (by rfl))
    (pss_cons (ps_for PassesOwn.never rfl (pi_seq (pv 8)) (pg_name (i := 7) sc_f_value_rows.nd rfl (Or.inr rfl)) (pss_cons (ps_par (i := 11) (j := 12) rfl sc_f_value_rows.nd rfl rfl (by decide) rfl rfl (pa_cons (pe_op u_add (pe_lst (pa_cons (pv 3) pa_nil)) (pv 9)) (pa_cons (pe_op u_add (pv 9) (pe_lst (pa_cons (pv 3) pa_nil))) pa_nil)) (by rfl))
    (pss_cons (ps_setLc (i := 9) (own := [("x", 13), ("y", 14)]) rfl sc_f_value_rows.nd rfl rfl (sw_true rfl rfl rfl (by decide +kernel)) (pi_zipA rfl T.b_zip (pa_cons (pv 11) (pa_cons (pv 12) pa_nil))) (blkOk_by (N := N_f_value_rows) (sc := defScope s_f_value_rows) (own := [("x", 13), ("y", 14)]) (by decide +kernel)) (fun _ _ _ _ _ => (pg_tup rfl (pgs_cons (pg_name (i := 13) sc_f_value_rows.nd rfl (Or.inl rfl)) (pgs_cons (pg_name (i := 14) sc_f_value_rows.nd rfl (Or.inl rfl)) pgs_nil)))) (fun _ _ _ _ _ => pts_nil) (fun _ _ _ _ _ => (pe_omt G_Ground_sub T.cl_Ground T.m_Ground_sub (hr.mono (by omega)) passN (pv 0) (pa_cons (pv 13) (pa_cons (pe_omt G_Ground_mul T.cl_Ground T.m_Ground_mul (hr.mono (by omega)) passN (pv 0) (pa_cons (pv 7) (pa_cons (pv 14) pa_nil))) pa_nil)))))
    (pss_one (ps_if (pt_cmpR (u_ne (un64 hr)) (pv 6) (pe_constS rfl T.c_FAR) (nomark _)) (pss_one (ps_set (i := 10) sc_f_value_rows.nd rfl (Or.inl rfl) (pe_omt G_Ground_mul T.cl_Ground T.m_Ground_mul (hr.mono (by omega)) passN (pv 0) (pa_cons (pv 10) (pa_cons (pe_omt G_Ground_sub T.cl_Ground T.m_Ground_sub (hr.mono (by omega)) passN (pv 0) (pa_cons (pv 6) (pa_cons (pv 7) pa_nil))) pa_nil))))) pss_nil)))))
    (pss_cons (ps_set (i := 9) sc_f_value_rows.nd rfl (Or.inl rfl) (pe_own G_scaled (hr.mono (by omega)) rfl T.g_scaled passN (pa_cons (pv 0) (pa_cons (pe_omt G_Ground_div T.cl_Ground T.m_Ground_div (hr.mono (by omega)) passN (pv 0) (pa_cons (pv 4) (pa_cons (pv 10) pa_nil))) (pa_cons (pv 9) pa_nil)))))
    (pss_one (ps_expr (pe_bm PySem.F.plainAttrs_list PySem.F.slot_list_append PySem.F.type_list_append mt_append (pv 5) (pa_cons (pe_op u_add (pv 9) (pe_op u_mul (pe_lst (pa_cons (pv 3) pa_nil)) (pe_op op_sub (pv 1) (pe_callB u_len rfl T.b_len (by decide +kernel) (pa_cons (pv 9) pa_nil))))) pa_nil)))))))))
    (pss_one (ps_ret (pv 5))))))
theorem ok_m_TooMany_init (T : Txt K mg) {fd : FuncData} (F : FunD K "__init__" "TooMany.__init__" (defArgs s_m_TooMany_init) (defBody s_m_TooMany_init) (defScope s_m_TooMany_init) [] [] (He.fAd K ("TooMany", some "__init__")) fd)  : OkI P w K mg base 1 "TooMany" ["self", "what", "count"] (sp_TooMany_init K) := by
  refine ⟨⟨fd, (F.ok sc_m_TooMany_init (fun vs H Q E h => ?_) (fun cdv A outer s H vs Q E hr h => ⟨t_m_TooMany_init K, PSs.nox ?_, pure_tminit K T.tm vs H Q E h⟩)), (F.bindsN fun _ _ _ _ _ _ us hl => match us, hl with | [_, _, _], _ => rfl)⟩⟩
  · obtain ⟨_, _, _, rfl, _⟩ := h; rfl
  · exact (pss_cons (ps_ost (pv 0) pe_str rfl)
    (pss_cons (ps_ost (pv 0) (pv 1) rfl)
    (pss_one (ps_ost (pv 0) (pv 2) rfl))))
theorem ok_m_BadPoints_init (T : Txt K mg) {fd : FuncData} (F : FunD K "__init__" "BadPoints.__init__" (defArgs s_m_BadPoints_init) (defBody s_m_BadPoints_init) (defScope s_m_BadPoints_init) [] [] (He.fAd K ("BadPoints", some "__init__")) fd)  : OkI P w K mg base 1 "BadPoints" ["self", "why"] (sp_BadPoints_init K) := by
  refine ⟨⟨fd, (F.ok sc_m_BadPoints_init (fun vs H Q E h => ?_) (fun cdv A outer s H vs Q E hr h => ⟨t_m_BadPoints_init K, PSs.nox ?_, pure_bpinit K T.bp vs H Q E h⟩)), (F.bindsN fun _ _ _ _ _ _ us hl => match us, hl with | [_, _], _ => rfl)⟩⟩
  · obtain ⟨_, _, rfl, _⟩ := h; rfl
  · exact (pss_cons (ps_ost (pv 0) pe_str rfl)
    (pss_one (ps_ost (pv 0) (pv 1) rfl)))
theorem ok_m_Unlike_init (T : Txt K mg) {fd : FuncData} (F : FunD K "__init__" "Unlike.__init__" (defArgs s_m_Unlike_init) (defBody s_m_Unlike_init) (defScope s_m_Unlike_init) [] [] (He.fAd K ("Unlike", some "__init__")) fd)  : OkI P w K mg base 1 "Unlike" ["self", "what"] (sp_Unlike_init K) := by
  refine ⟨⟨fd, (F.ok sc_m_Unlike_init (fun vs H Q E h => ?_) (fun cdv A outer s H vs Q E hr h => ⟨t_m_Unlike_init K, PSs.nox ?_, pure_ulinit K T.ul vs H Q E h⟩)), (F.bindsN fun _ _ _ _ _ _ us hl => match us, hl with | [_, _], _ => rfl)⟩⟩
  · obtain ⟨_, _, rfl, _⟩ := h; rfl
  · exact (pss_cons (ps_ost (pv 0) pe_str rfl)
    (pss_one (ps_ost (pv 0) (pv 1) rfl)))
theorem ok_f_check_lengths (T : Txt K mg) {fd : FuncData} (F : FunD K "check_lengths" "check_lengths" (defArgs s_f_check_lengths) (defBody s_f_check_lengths) (defScope s_f_check_lengths) [] [] (He.fAd K ("check_lengths", none)) fd) (G_TooMany_init : OkI P w K mg base 1 "TooMany" ["self", "what", "count"] (sp_TooMany_init K)) : OkF P w K mg base (L2N.CX P w) 3 ("check_lengths", none) ["first", "second"] (sp_check_lengths K) := by
  refine FunD.okF F (F.ok sc_f_check_lengths (fun vs H Q E h => ?_) (fun cdv A outer s H vs Q E hr h => ⟨t_f_check_lengths K E, ?_, pure_check K vs H Q E h⟩)) fun _ _ _ _ _ _ us hl => match us, hl with | [_, _], _ => rfl
  · obtain ⟨_, _, rfl, _⟩ := h; rfl
  · have tk := L2N.takes_of (X := cxOf (L2N.CX P w) P w K mg base N_f_check_lengths "check_lengths" (defScope s_f_check_lengths) (He.fAd K ("check_lengths", none)) cdv A outer s H E) (E := E) rfl rfl rfl rfl
    exact (pss_cons (ps_if (pt_cmpR u_gt (pv 0) pe_int (nomark _)) (pss_one (ps_rz tk rfl T.ex_TooMany G_TooMany_init (hr.mono (by omega)) (pa_cons pe_str (pa_cons (pv 0) pa_nil)))) pss_nil)
    (pss_one (ps_if (pt_cmpR u_gt (pv 1) pe_int (nomark _)) (pss_one (ps_rz tk rfl T.ex_TooMany G_TooMany_init (hr.mono (by omega)) (pa_cons pe_str (pa_cons (pv 1) pa_nil)))) pss_nil)))
theorem ok_f_default_points (T : Txt K mg) {fd : FuncData} (F : FunD K "default_points" "default_points" (defArgs s_f_default_points) (defBody s_f_default_points) (defScope s_f_default_points) [] [] (He.fAd K ("default_points", none)) fd) (G_BadPoints_init : OkI P w K mg base 1 "BadPoints" ["self", "why"] (sp_BadPoints_init K)) (G_Ground_number1 : OkM P w K mg base 2 "Ground" "number" ["self", "top", "bottom"] (sp_Ground_number K) [.int 1]) : OkF P w K mg base (L2N.CX P w) 3 ("default_points", none) ["ground", "many"] (sp_default_points K) := by
  refine FunD.okF F (F.ok sc_f_default_points (fun vs H Q E h => ?_) (fun cdv A outer s H vs Q E hr h => ⟨t_f_default_points K E, ?_, pure_default_points K T.gr vs H Q E h⟩)) fun _ _ _ _ _ _ us hl => match us, hl with | [_, _], _ => rfl
  · obtain ⟨_, _, _, rfl, _⟩ := h; rfl
  · have tk := L2N.takes_of (X := cxOf (L2N.CX P w) P w K mg base N_f_default_points "default_points" (defScope s_f_default_points) (He.fAd K ("default_points", none)) cdv A outer s H E) (E := E) rfl rfl rfl rfl
    exact (pss_cons (ps_if (pt_cmpR op_notN (pe_fld (pv 0) rfl) pe_non (nomark _)) (pss_cons (ps_if (pt_cmpR u_gt (pv 1) (pe_op u_add (pe_fld (pv 0) rfl) pe_int) (nomark _)) (pss_one (ps_rz tk rfl T.ex_BadPoints G_BadPoints_init (hr.mono (by omega)) (pa_cons pe_str pa_nil))) pss_nil)
    (pss_one (ps_ret (pe_op u_add (pe_lc (own := [("k", 2)]) rfl sc_f_default_points.nd (pi_range1 rfl T.b_range (pa_cons (pe_op op_sub (pv 1) pe_int) pa_nil)) (blkOk_by (N := N_f_default_points) (sc := defScope s_f_default_points) (own := [("k", 2)]) (by decide +kernel)) (fun _ _ _ _ _ => (pg_name (i := 2) sc_f_default_points.nd rfl (Or.inl rfl))) (fun _ _ _ _ _ => pts_nil) (fun _ _ _ _ _ => (pe_omt G_Ground_number1 T.cl_Ground T.m_Ground_number (hr.mono (by omega)) passN (pv 0) (pa_cons (pv 2) pa_nil)))) (pe_lst (pa_cons (pe_constS rfl T.c_FAR) pa_nil)))))) pss_nil)
    (pss_one (ps_ret (pe_op u_add (pe_lc (own := [("k", 2)]) rfl sc_f_default_points.nd (pi_range1 rfl T.b_range (pa_cons (pe_op op_sub (pv 1) pe_int) pa_nil)) (blkOk_by (N := N_f_default_points) (sc := defScope s_f_default_points) (own := [("k", 2)]) (by decide +kernel)) (fun _ _ _ _ _ => (pg_name (i := 2) sc_f_default_points.nd rfl (Or.inl rfl))) (fun _ _ _ _ _ => pts_nil) (fun _ _ _ _ _ => (pe_omt G_Ground_number1 T.cl_Ground T.m_Ground_number (hr.mono (by omega)) passN (pv 0) (pa_cons (pe_ifExp (pt_cmpR (u_eq (un64 hr)) (pe_op u_mod (pv 2) pe_int) pe_int (nomark _)) (pe_op u_fdiv (pe_op u_add (pv 2) pe_int) pe_int) (pe_un un_neg (pe_op u_fdiv (pv 2) pe_int))) pa_nil)))) (pe_lst (pa_cons (pe_constS rfl T.c_FAR) pa_nil))))))
theorem ok_f_checked_points (T : Txt K mg) {fd : FuncData} (F : FunD K "checked_points" "checked_points" (defArgs s_f_checked_points) (defBody s_f_checked_points) (defScope s_f_checked_points) [] [] (He.fAd K ("checked_points", none)) fd) (G_BadPoints_init : OkI P w K mg base 1 "BadPoints" ["self", "why"] (sp_BadPoints_init K)) : OkF P w K mg base (L2N.CX P w) 3 ("checked_points", none) ["points", "many"] (sp_checked_points K) := by
  refine FunD.okF F (F.ok sc_f_checked_points (fun vs H Q E h => ?_) (fun cdv A outer s H vs Q E hr h => ⟨t_f_checked_points K E, ?_, pure_checked_points K vs H Q E h⟩)) fun _ _ _ _ _ _ us hl => match us, hl with | [_, _], _ => rfl
  · obtain ⟨_, _, _, _, rfl, _⟩ := h; rfl
  · have tk := L2N.takes_of (X := cxOf (L2N.CX P w) P w K mg base N_f_checked_points "checked_points" (defScope s_f_checked_points) (He.fAd K ("checked_points", none)) cdv A outer s H E) (E := E) rfl rfl rfl rfl
    exact (pss_cons (ps_set (i := 2) sc_f_checked_points.nd rfl (Or.inr rfl) (pe_callTy u_list rfl T.b_list (by decide +kernel) (pa_cons (pv 0) pa_nil)))
    (pss_cons (ps_if (pt_cmpR (u_ne (un64 hr)) (pe_callB u_len rfl T.b_len (by decide +kernel) (pa_cons (pv 2) pa_nil)) (pv 1) (nomark _)) (pss_one (ps_rz tk rfl T.ex_BadPoints G_BadPoints_init (hr.mono (by omega)) (pa_cons pe_str pa_nil))) pss_nil)
    (pss_cons (ps_if (pt_val (pe_callB (cr_any rfl) rfl T.b_any (by decide +kernel) (pa_cons (pe_lc (own := [("k", 3)]) rfl sc_f_checked_points.nd (pi_range1 rfl T.b_range (pa_cons (pv 1) pa_nil)) (blkOk_by (N := N_f_checked_points) (sc := defScope s_f_checked_points) (own := [("k", 3)]) (by decide +kernel)) (fun _ _ _ _ _ => (pg_name (i := 3) sc_f_checked_points.nd rfl (Or.inl rfl))) (fun _ _ _ _ _ => pts_nil) (fun _ _ _ _ _ => (pe_cmpR (u_inD (un65 hr)) (pe_ix u_ix (pv 2) (pv 3) (fun _ _ => rfl)) (pe_slice u_sl (pv 2) po_none (po_some (pv 3))) rfl))) pa_nil))) (pss_one (ps_rz tk rfl T.ex_BadPoints G_BadPoints_init (hr.mono (by omega)) (pa_cons pe_str pa_nil))) pss_nil)
    (pss_one (ps_ret (pv 2))))))
theorem ok_f_powers_at (T : Txt K mg) {fd : FuncData} (F : FunD K "powers_at" "powers_at" (defArgs s_f_powers_at) (defBody s_f_powers_at) (defScope s_f_powers_at) [] [] (He.fAd K ("powers_at", none)) fd) (G_Ground_mul : OkM P w K mg base 3 "Ground" "mul" ["self", "x", "y"] (sp_Ground_mul K) []) (G_Ground_number1 : OkM P w K mg base 2 "Ground" "number" ["self", "top", "bottom"] (sp_Ground_number K) [.int 1]) : OkF P w K mg base (L2N.CX P w) 4 ("powers_at", none) ["ground", "places", "point"] (sp_powers_at K) := by
  refine FunD.okF F (F.ok sc_f_powers_at (fun vs H Q E h => ?_) (fun cdv A outer s H vs Q E hr h => ⟨t_f_powers_at K, PSs.nox ?_, pure_powers_at K vs H Q E h⟩)) fun _ _ _ _ _ _ us hl => match us, hl with | [_, _, _], _ => rfl
  · obtain ⟨_, _, _, _, _, _, rfl, _⟩ := h; rfl
  · exact (pss_cons (ps_if (pt_cmpR (u_eq (un64 hr)) (pv 2) (pe_constS rfl T.c_FAR) (nomark _)) (pss_one (ps_ret (pe_op u_add (pe_lc (own := [("k", 5)]) rfl sc_f_powers_at.nd (pi_range1 rfl T.b_range (pa_cons (pe_op op_sub (pv 1) pe_int) pa_nil)) (blkOk_by (N := N_f_powers_at) (sc := defScope s_f_powers_at) (own := [("k", 5)]) (by decide +kernel)) (fun _ _ _ _ _ => (pg_name (i := 5) sc_f_powers_at.nd rfl (Or.inl rfl))) (fun _ _ _ _ _ => pts_nil) (fun _ _ _ _ _ => (pe_omt G_Ground_number1 T.cl_Ground T.m_Ground_number (hr.mono (by omega)) passN (pv 0) (pa_cons pe_int pa_nil)))) (pe_lst (pa_cons (pe_omt G_Ground_number1 T.cl_Ground T.m_Ground_number (hr.mono (by omega)) passN (pv 0) (pa_cons pe_int pa_nil)) pa_nil))))) pss_nil)
    (pss_cons (ps_set (i := 3) sc_f_powers_at.nd rfl (Or.inl rfl) (pe_lst (pa_cons (pe_omt G_Ground_number1 T.cl_Ground T.m_Ground_number (hr.mono (by omega)) passN (pv 0) (pa_cons pe_int pa_nil)) pa_nil)))
    (pss_cons (ps_for PassesOwn.never rfl (pi_range1 rfl T.b_range (pa_cons (pe_op op_sub (pv 1) pe_int) pa_nil)) (pg_name (i := 4) sc_f_powers_at.nd rfl (Or.inl rfl)) (pss_one (ps_expr (pe_bm PySem.F.plainAttrs_list PySem.F.slot_list_append PySem.F.type_list_append mt_append (pv 3) (pa_cons (pe_omt G_Ground_mul T.cl_Ground T.m_Ground_mul (hr.mono (by omega)) passN (pv 0) (pa_cons (pe_ix u_ix (pv 3) (pe_un un_neg pe_int) (fun _ _ => rfl)) (pa_cons (pv 2) pa_nil))) pa_nil)))))
    (pss_one (ps_ret (pv 3))))))
theorem fn_f_rectangle (T : Txt K mg) {fd : FuncData} (F : FunD K "rectangle" "rectangle" (defArgs s_f_rectangle) (defBody s_f_rectangle) (defScope s_f_rectangle) [] [("points", .non)] (He.fAd K ("rectangle", none)) fd) (G_LeftRight_init : OkI P w K mg base 1 "LeftRight" ["self", "ground", "sizes", "triples"] (sp_LeftRight_init K)) (G_check_lengths : OkF P w K mg base (L2N.CX P w) 3 ("check_lengths", none) ["first", "second"] (sp_check_lengths K)) (G_checked_points : OkF P w K mg base (L2N.CX P w) 3 ("checked_points", none) ["points", "many"] (sp_checked_points K)) (G_default_points : OkF P w K mg base (L2N.CX P w) 3 ("default_points", none) ["ground", "many"] (sp_default_points K)) (G_powers_at : OkF P w K mg base (L2N.CX P w) 4 ("powers_at", none) ["ground", "places", "point"] (sp_powers_at K)) (G_value_rows : OkF P w K mg base (L2N.CX P w) 4 ("value_rows", none) ["ground", "many", "points"] (sp_value_rows K)) : FnOk P w K mg base (L2N.CX P w) 5 (He.fAd K ("rectangle", none)) fd ["ground", "m", "r", "points"] (sp_rectangle K) := by
  refine (F.ok sc_f_rectangle (fun vs H Q E h => ?_) (fun cdv A outer s H vs Q E hr h => ⟨t_f_rectangle K E, ?_, pure_rectangle K T.lr vs H Q E h⟩))
  · obtain ⟨_, _, _, _, _, _, rfl, _⟩ := h; rfl
  · have tk := L2N.takes_of (X := cxOf (L2N.CX P w) P w K mg base N_f_rectangle "rectangle" (defScope s_f_rectangle) (He.fAd K ("rectangle", none)) cdv A outer s H E) (E := E) rfl rfl rfl rfl
    exact (pss_cons (ps_expr (pe_own G_check_lengths (hr.mono (by omega)) rfl T.g_check_lengths (passE tk) (pa_cons (pv 1) (pa_cons (pv 2) pa_nil))))
    (pss_cons (ps_set (i := 4) sc_f_rectangle.nd rfl (Or.inl rfl) (pe_op op_sub (pe_op u_add (pv 1) (pv 2)) pe_int))
    (pss_cons (ps_set (i := 5) sc_f_rectangle.nd rfl (Or.inl rfl) (pe_ifExp (pt_cmpR op_isN (pv 3) pe_non (nomark _)) (pe_own G_default_points (hr.mono (by omega)) rfl T.g_default_points (passE tk) (pa_cons (pv 0) (pa_cons (pv 4) pa_nil))) (pe_own G_checked_points (hr.mono (by omega)) rfl T.g_checked_points (passE tk) (pa_cons (pv 3) (pa_cons (pv 4) pa_nil)))))
    (pss_cons (ps_set (i := 6) sc_f_rectangle.nd rfl (Or.inl rfl) (pe_lst pa_nil))
    (pss_cons (ps_for (passes_of rfl) rfl (pi_zipA rfl T.b_zip (pa_cons (pv 5) (pa_cons (pe_own G_value_rows (hr.mono (by omega)) rfl T.g_value_rows passN (pa_cons (pv 0) (pa_cons (pv 4) (pa_cons (pv 5) pa_nil)))) pa_nil))) (pg_tup rfl (pgs_cons (pg_name (i := 7) sc_f_rectangle.nd rfl (Or.inl rfl)) (pgs_cons (pg_name (i := 8) sc_f_rectangle.nd rfl (Or.inl rfl)) pgs_nil))) (pss_one (ps_expr (pe_bm PySem.F.plainAttrs_list PySem.F.slot_list_append PySem.F.type_list_append mt_append (pv 6) (pa_cons (pe_tup (pa_cons (pe_own G_powers_at (hr.mono (by omega)) rfl T.g_powers_at passN (pa_cons (pv 0) (pa_cons (pv 1) (pa_cons (pv 7) pa_nil)))) (pa_cons (pe_own G_powers_at (hr.mono (by omega)) rfl T.g_powers_at passN (pa_cons (pv 0) (pa_cons (pv 2) (pa_cons (pv 7) pa_nil)))) (pa_cons (pv 8) pa_nil)))) pa_nil)))))
    (pss_one (ps_ret (pe_mk G_LeftRight_init T.mk_LeftRight (hr.mono (by omega)) rfl T.g_LeftRight passN (pa_cons (pv 0) (pa_cons (pe_lst (pa_cons (pv 1) (pa_cons (pv 2) (pa_cons (pv 4) pa_nil)))) (pa_cons (pv 6) pa_nil)))))))))))
theorem okw_f_rectangle {fd : FuncData} (F : FunD K "rectangle" "rectangle" (defArgs s_f_rectangle) (defBody s_f_rectangle) (defScope s_f_rectangle) [] [("points", .non)] (He.fAd K ("rectangle", none)) fd) (fo : FnOk P w K mg base (L2N.CX P w) 5 (He.fAd K ("rectangle", none)) fd ["ground", "m", "r", "points"] (sp_rectangle K)) : OkKw P w K mg base 5 "rectangle" fd ["ground", "m", "r", "points"] ["points"] (sp_rectangle K) := ⟨fo, kbinds_of2 (n := 3) F (by decide) (fun _ _ _ _ _ _ us ws hl hw => match us, ws, hl, hw with | [_, _, _], [_], _, _ => rfl), F.kp⟩
theorem ok_f_turn (T : Txt K mg) {fd : FuncData} (F : FunD K "turn" "turn" (defArgs s_f_turn) (defBody s_f_turn) (defScope s_f_turn) [] [] (He.fAd K ("turn", none)) fd) (G_LeftRight_init : OkI P w K mg base 1 "LeftRight" ["self", "ground", "sizes", "triples"] (sp_LeftRight_init K)) (G_LeftRight_sizes : OkM P w K mg base 1 "LeftRight" "sizes" ["self"] (sp_LeftRight_sizes K) []) (G_LeftRight_triples : OkM P w K mg base 1 "LeftRight" "triples" ["self"] (sp_LeftRight_triples K) []) : OkF P w K mg base (L2N.CX P w) 3 ("turn", none) ["program", "way"] (sp_turn K) := by
  refine FunD.okF F (F.ok sc_f_turn (fun vs H Q E h => ?_) (fun cdv A outer s H vs Q E hr h => ⟨t_f_turn K, PSs.nox ?_, pure_turn K T.lr vs H Q E h⟩)) fun _ _ _ _ _ _ us hl => match us, hl with | [_, _], _ => rfl
  · obtain ⟨_, _, _, _, _, _, _, _, rfl, _⟩ := h; rfl
  · exact (pss_cons (ps_asg (pe_omt0 G_LeftRight_sizes T.cl_LeftRight T.m_LeftRight_sizes (hr.mono (by omega)) passN (pv 0)) (pg_tup rfl (pgs_cons (pg_name (i := 2) sc_f_turn.nd rfl (Or.inl rfl)) (pgs_cons (pg_name (i := 3) sc_f_turn.nd rfl (Or.inl rfl)) (pgs_cons (pg_name (i := 4) sc_f_turn.nd rfl (Or.inl rfl)) pgs_nil)))))
    (pss_cons (ps_if (pt_cmpR (u_eq (un64 hr)) (pv 1) pe_str (nomark _)) (pss_one (ps_ret (pe_mk G_LeftRight_init T.mk_LeftRight (hr.mono (by omega)) rfl T.g_LeftRight passN (pa_cons (pe_fld (pv 0) rfl) (pa_cons (pe_lst (pa_cons (pv 4) (pa_cons (pv 3) (pa_cons (pv 2) pa_nil)))) (pa_cons (pe_lc (own := [("u", 5), ("v", 6), ("w", 7)]) rfl sc_f_turn.nd (pi_seq (pe_omt0 G_LeftRight_triples T.cl_LeftRight T.m_LeftRight_triples (hr.mono (by omega)) passN (pv 0))) (blkOk_by (N := N_f_turn) (sc := defScope s_f_turn) (own := [("u", 5), ("v", 6), ("w", 7)]) (by decide +kernel)) (fun _ _ _ _ _ => (pg_tup rfl (pgs_cons (pg_name (i := 5) sc_f_turn.nd rfl (Or.inl rfl)) (pgs_cons (pg_name (i := 6) sc_f_turn.nd rfl (Or.inl rfl)) (pgs_cons (pg_name (i := 7) sc_f_turn.nd rfl (Or.inl rfl)) pgs_nil))))) (fun _ _ _ _ _ => pts_nil) (fun _ _ _ _ _ => (pe_tup (pa_cons (pv 7) (pa_cons (pv 6) (pa_cons (pv 5) pa_nil)))))) pa_nil)))))) pss_nil)
    (pss_one (ps_ret (pe_mk G_LeftRight_init T.mk_LeftRight (hr.mono (by omega)) rfl T.g_LeftRight passN (pa_cons (pe_fld (pv 0) rfl) (pa_cons (pe_lst (pa_cons (pv 2) (pa_cons (pv 4) (pa_cons (pv 3) pa_nil)))) (pa_cons (pe_lc (own := [("u", 5), ("v", 6), ("w", 7)]) rfl sc_f_turn.nd (pi_seq (pe_omt0 G_LeftRight_triples T.cl_LeftRight T.m_LeftRight_triples (hr.mono (by omega)) passN (pv 0))) (blkOk_by (N := N_f_turn) (sc := defScope s_f_turn) (own := [("u", 5), ("v", 6), ("w", 7)]) (by decide +kernel)) (fun _ _ _ _ _ => (pg_tup rfl (pgs_cons (pg_name (i := 5) sc_f_turn.nd rfl (Or.inl rfl)) (pgs_cons (pg_name (i := 6) sc_f_turn.nd rfl (Or.inl rfl)) (pgs_cons (pg_name (i := 7) sc_f_turn.nd rfl (Or.inl rfl)) pgs_nil))))) (fun _ _ _ _ _ => pts_nil) (fun _ _ _ _ _ => (pe_tup (pa_cons (pv 5) (pa_cons (pv 7) (pa_cons (pv 6) pa_nil)))))) pa_nil))))))))
theorem fn_f_window (T : Txt K mg) {fd : FuncData} (F : FunD K "window" "window" (defArgs s_f_window) (defBody s_f_window) (defScope s_f_window) [] [("points", .non)] (He.fAd K ("window", none)) fd) {fdWrectangle : FuncData} (G_rectangle : OkKw P w K mg base 5 "rectangle" fdWrectangle ["ground", "m", "r", "points"] ["points"] (sp_rectangle K)) (G_turn : OkF P w K mg base (L2N.CX P w) 3 ("turn", none) ["program", "way"] (sp_turn K)) : FnOk P w K mg base (L2N.CX P w) 6 (He.fAd K ("window", none)) fd ["ground", "answers", "taps", "points"] (sp_window K) := by
  refine (F.ok sc_f_window (fun vs H Q E h => ?_) (fun cdv A outer s H vs Q E hr h => ⟨t_f_window K E, ?_, pure_window K vs H Q E h⟩))
  · obtain ⟨_, _, _, _, _, _, rfl, _⟩ := h; rfl
  · have tk := L2N.takes_of (X := cxOf (L2N.CX P w) P w K mg base N_f_window "window" (defScope s_f_window) (He.fAd K ("window", none)) cdv A outer s H E) (E := E) rfl rfl rfl rfl
    exact (pss_one (ps_ret (pe_own G_turn (hr.mono (by omega)) rfl T.g_turn passN (pa_cons (pe_callK G_rectangle.fn (hr.mono (by omega)) rfl T.g_rectangle G_rectangle.kp G_rectangle.kb (passE tk) (pa_cons (pv 0) (pa_cons (pv 1) (pa_cons (pv 2) pa_nil))) (pk_cons (pv 3) pk_nil)) (pa_cons pe_str pa_nil)))))
theorem okw_f_window {fd : FuncData} (F : FunD K "window" "window" (defArgs s_f_window) (defBody s_f_window) (defScope s_f_window) [] [("points", .non)] (He.fAd K ("window", none)) fd) (fo : FnOk P w K mg base (L2N.CX P w) 6 (He.fAd K ("window", none)) fd ["ground", "answers", "taps", "points"] (sp_window K)) : OkKw P w K mg base 6 "window" fd ["ground", "answers", "taps", "points"] ["points"] (sp_window K) := ⟨fo, kbinds_of2 (n := 3) F (by decide) (fun _ _ _ _ _ _ us ws hl hw => match us, ws, hl, hw with | [_, _, _], [_], _, _ => rfl), F.kp⟩
theorem okk_f_window {fd : FuncData} (F : FunD K "window" "window" (defArgs s_f_window) (defBody s_f_window) (defScope s_f_window) [] [("points", .non)] (He.fAd K ("window", none)) fd) (fo : FnOk P w K mg base (L2N.CX P w) 6 (He.fAd K ("window", none)) fd ["ground", "answers", "taps", "points"] (sp_window K)) : ∃ ds, OkK0 P w K mg base 6 "window" fd ["ground", "answers", "taps", "points"] ["ground", "answers", "taps"] ds [.non] (sp_window K) := by
  obtain ⟨ds, kb⟩ := kbinds0 (ps := ["ground", "answers", "taps", "points"]) (ks := ["ground", "answers", "taps"]) F (by decide) (by decide) fun D doc pm an cdv ct ws kz h1 h2 => match ws, kz, h1, h2 with | [_, _, _], [_], _, _ => ⟨_, _, _, _, _, _, rfl, rfl, rfl⟩
  exact ⟨ds, fo, kb, F.kp⟩
theorem ok_f_errs_window (T : Txt K mg) {fd : FuncData} (F : FunD K "errs_window" "errs_window" (defArgs s_f_errs_window) (defBody s_f_errs_window) (defScope s_f_errs_window) [] [] (He.fAd K ("errs_window", none)) fd) {fdu : FuncData} (Fu : FunD K "_first_unlike" "_first_unlike" (defArgs s_f_first_unlike) (defBody s_f_first_unlike) (defScope s_f_first_unlike) [] [] (He.fAd K ("_first_unlike", none)) fdu) (TB0 : LamX.TabB base mg (He.cT K ("errs_window", none)).1 (He.cT K ("errs_window", none)).2) (G_Ground_mul : OkM P w K mg base 3 "Ground" "mul" ["self", "x", "y"] (sp_Ground_mul K) []) (G_LeftRight_sizes : OkM P w K mg base 1 "LeftRight" "sizes" ["self"] (sp_LeftRight_sizes K) []) (G_LeftRight_triples : OkM P w K mg base 1 "LeftRight" "triples" ["self"] (sp_LeftRight_triples K) []) (G_blend : OkF P w K mg base (L2N.CX P w) 3 ("blend", none) ["ground", "numbers", "rows", "places"] (sp_blend K)) (G_zero_of : OkF P w K mg base (L2N.CX P w) 1 ("zero_of", none) ["ground"] (sp_zero_of K)) (G_Unlike_init : OkI P w K mg base 1 "Unlike" ["self", "what"] (sp_Unlike_init K)) (G_unit_row : OkF P w K mg base (L2N.CX P w) 2 ("unit_row", none) ["ground", "places", "at"] (sp_unit_row K)) : OkS P w K mg base 5 "errs_window" fd [] ["program", "answers", "taps"] (sp_errs_window K) [] := by
  have bd : Binds K fd ["program", "answers", "taps"] [] := F.bindsN fun _ _ _ _ _ _ us hl => match us, hl with | [_, _, _], _ => rfl
  have kp := F.kp
  have b2 : Binds K fdu ["program", "due"] [] := Fu.bindsN fun _ _ _ _ _ _ us hl => match us, hl with | [_, _], _ => rfl
  have kpu := Fu.kp
  obtain ⟨oc, od, dV, kV, doc, pm, an, cdv, ct, osl, rfl, lk, hcd, _, _⟩ := (F.ex)
  obtain ⟨oc2, od2, dV2, kV2, doc2, pm2, an2, cdv2, ct2, osl2, rfl, lk2, hcd2, _, _⟩ := Fu.ex
  obtain ⟨c, rfl⟩ := He.codeIn_ref hcd
  have ec : He.codeOf K ("errs_window", none) = c := He.codeOf_eq lk rfl
  have TB : LamX.TabB base mg c (tabW K) := by rw [← ec]; exact TB0
  refine ⟨fn_of (k := 4) lk hcd sc_f_errs_window (fun vs H Q E h => ?_) (fun A outer s H vs Q E hr h => ⟨t_f_errs_window K (tbs K) qLamW (t_lamW K) E, ?_, pure_errsW K T.lr (tbs K) vs H Q E h⟩), bd, .nil, kp⟩
  · obtain ⟨_, _, _, _, _, _, _, _, _, _, _, rfl, _⟩ := h; rfl
  · have tk := L2N.takes_of (X := cxOf (L2N.CX P w) P w K mg base N_f_errs_window "errs_window" (defScope s_f_errs_window) (He.fAd K ("errs_window", none)) (.ref c) A outer s H E) (E := E) rfl rfl rfl rfl
    exact (pss_cons (ps_if (pt_cmpR (u_ne (un64 hr)) (pe_omt0 G_LeftRight_sizes T.cl_LeftRight T.m_LeftRight_sizes (hr.mono (by omega)) passN (pv 0)) (pe_tup (pa_cons (pe_op op_sub (pe_op u_add (pv 1) (pv 2)) pe_int) (pa_cons (pv 2) (pa_cons (pv 1) pa_nil)))) (nomark _)) (pss_one (ps_rz tk rfl T.ex_Unlike G_Unlike_init (hr.mono (by omega)) (pa_cons pe_str pa_nil))) pss_nil)
    (pss_cons (ps_set (i := 3) sc_f_errs_window.nd rfl (Or.inr rfl) (pe_fld (pv 0) rfl))
    (pss_one (ps_ret (pe_giveQ (k := 3) (fr := ["ground", "answers"]) (js := [3, 1]) (q := qLamW) (by kernel_rfl) rfl T.g__first_unlike kpu lk2 hcd2 b2 sc_f_first_unlike TB rfl (List.mem_singleton.mpr rfl) (fun p hp _ => by rw [List.mem_singleton.mp hp]) (hr.mono (by omega)) rfl (by kernel_rfl) (by decide +kernel) rfl passN (pv 0) (fun f c' pm' ctv s H v ws Q hr C hf hfn hfs hT => ⟨t_f_first_unlike K f c' qLamW ws NLamW (t_lamW K), PSs.nox ((pss_cons (ps_set (i := 2) sc_f_first_unlike.nd rfl (Or.inr rfl) (pe_fld (pv 0) rfl))
    (pss_cons (ps_asg (pe_omt0 G_LeftRight_sizes T.cl_LeftRight T.m_LeftRight_sizes (hr.mono (by omega)) passN (pv 0)) (pg_tup rfl (pgs_cons (pg_name (i := 3) sc_f_first_unlike.nd rfl (Or.inl rfl)) (pgs_cons (pg_name (i := 4) sc_f_first_unlike.nd rfl (Or.inl rfl)) (pgs_cons (pg_name (i := 5) sc_f_first_unlike.nd rfl (Or.inl rfl)) pgs_nil)))))
    (pss_cons (ps_set (i := 6) sc_f_first_unlike.nd rfl (Or.inr rfl) (pe_own G_zero_of (hr.mono (by omega)) rfl T.g_zero_of passN (pa_cons (pv 2) pa_nil)))
    (pss_cons (ps_set (i := 7) sc_f_first_unlike.nd rfl (Or.inl rfl) (pe_omt0 G_LeftRight_triples T.cl_LeftRight T.m_LeftRight_triples (hr.mono (by omega)) passN (pv 0)))
    (pss_cons (ps_for PassesOwn.never rfl (pi_range1 rfl T.b_range (pa_cons (pv 3) pa_nil)) (pg_name (i := 8) sc_f_first_unlike.nd rfl (Or.inr rfl)) (pss_cons (ps_setLc (i := 9) (own := [("u", 12), ("v", 13), ("w", 14)]) rfl sc_f_first_unlike.nd rfl rfl (sw_true rfl rfl rfl (by decide +kernel)) (pi_seq (pv 7)) (blkOk_by (N := N_f_first_unlike) (sc := defScope s_f_first_unlike) (own := [("u", 12), ("v", 13), ("w", 14)]) (by decide +kernel)) (fun _ _ _ _ _ => (pg_tup rfl (pgs_cons (pg_name (i := 12) sc_f_first_unlike.nd rfl (Or.inl rfl)) (pgs_cons (pg_name (i := 13) sc_f_first_unlike.nd rfl (Or.inl rfl)) (pgs_cons (pg_name (i := 14) sc_f_first_unlike.nd rfl (Or.inl rfl)) pgs_nil))))) (fun _ _ _ _ _ => (pts_one (pt_cmpR (u_ne (un64 hr)) (pe_ix u_ix (pv 12) (pv 8) (fun _ _ => rfl)) (pv 6) (nomark _)))) (fun _ _ _ _ _ => (pe_tup (pa_cons (pe_ix u_ix (pv 12) (pv 8) (fun _ _ => rfl)) (pa_cons (pv 13) (pa_cons (pv 14) pa_nil))))))
    (pss_one (ps_for PassesOwn.never rfl (pi_range1 rfl T.b_range (pa_cons (pv 4) pa_nil)) (pg_name (i := 10) sc_f_first_unlike.nd rfl (Or.inr rfl)) (pss_cons (ps_setLc (i := 11) (own := [("v", 13), ("w", 14), ("x", 15)]) rfl sc_f_first_unlike.nd rfl rfl (sw_true rfl rfl rfl (by decide +kernel)) (pi_seq (pv 9)) (blkOk_by (N := N_f_first_unlike) (sc := defScope s_f_first_unlike) (own := [("v", 13), ("w", 14), ("x", 15)]) (by decide +kernel)) (fun _ _ _ _ _ => (pg_tup rfl (pgs_cons (pg_name (i := 15) sc_f_first_unlike.nd rfl (Or.inl rfl)) (pgs_cons (pg_name (i := 13) sc_f_first_unlike.nd rfl (Or.inl rfl)) (pgs_cons (pg_name (i := 14) sc_f_first_unlike.nd rfl (Or.inl rfl)) pgs_nil))))) (fun _ _ _ _ _ => pts_nil) (fun _ _ _ _ _ => (pe_omt G_Ground_mul T.cl_Ground T.m_Ground_mul (hr.mono (by omega)) passN (pv 2) (pa_cons (pv 15) (pa_cons (pe_ix u_ix (pv 13) (pv 10) (fun _ _ => rfl)) pa_nil)))))
    (pss_one (ps_if (pt_cmpR (u_ne (un64 hr)) (pe_own G_blend (hr.mono (by omega)) rfl T.g_blend passN (pa_cons (pv 2) (pa_cons (pv 11) (pa_cons (pe_lc (own := [("v", 13), ("w", 14), ("x", 15)]) rfl sc_f_first_unlike.nd (pi_seq (pv 9)) (blkOk_by (N := N_f_first_unlike) (sc := defScope s_f_first_unlike) (own := [("v", 13), ("w", 14), ("x", 15)]) (by decide +kernel)) (fun _ _ _ _ _ => (pg_tup rfl (pgs_cons (pg_name (i := 15) sc_f_first_unlike.nd rfl (Or.inl rfl)) (pgs_cons (pg_name (i := 13) sc_f_first_unlike.nd rfl (Or.inl rfl)) (pgs_cons (pg_name (i := 14) sc_f_first_unlike.nd rfl (Or.inl rfl)) pgs_nil))))) (fun _ _ _ _ _ => pts_nil) (fun _ _ _ _ _ => (pv 14))) (pa_cons (pv 5) pa_nil))))) (pe_due (k := 2) (ps := ["i", "j"]) C hf hfn hfs rfl (NdefX.nscope_by (by decide +kernel)) (fun us hl => match us, hl with | [_, _], _ => rfl) (hr.mono (by omega)) passN (fun A outer s H hr => (pe_own G_unit_row (hr.mono (by omega)) rfl T.g_unit_row passN (pa_cons (pv 2) (pa_cons (pv 3) (pa_cons (pe_op op_sub (pv 0) (pv 1)) pa_nil))))) rfl (Or.inl rfl) (pa_cons (pv 8) (pa_cons (pv 10) pa_nil))) (nomark _)) (pss_one (ps_ret (pe_tup (pa_cons (pv 8) (pa_cons (pv 10) pa_nil))))) pss_nil)))))))
    (pss_one (ps_ret pe_non)))))))), hT⟩))))))
theorem fn_f_unsigned (T : Txt K mg) {fd : FuncData} (F : FunD K "unsigned" "unsigned" (defArgs s_f_unsigned) (defBody s_f_unsigned) (defScope s_f_unsigned) [.int 60] [] (He.fAd K ("unsigned", none)) fd)  : FnOk P w K mg base (L2N.CX P w) 1 (He.fAd K ("unsigned", none)) fd ["word", "most"] sp_unsigned := by
  refine (F.ok sc_f_unsigned (fun vs H Q E h => ?_) (fun cdv A outer s H vs Q E hr h => ⟨t_f_unsigned K, PSs.nox ?_, pure_unsigned K vs H Q E h⟩))
  · obtain ⟨_, rfl, _⟩ := h; rfl
  · exact (pss_cons (ps_if (PW.pt (pw_or (pt_cmpR u_gt (pe_callB u_len rfl T.b_len (by decide +kernel) (pa_cons (pv 0) pa_nil)) (pv 1) (nomark _)) (pw_or (pt_not (pt_val (pe_m0 PySem.F.slot_str_isascii PySem.F.type_str_isascii mt_isascii (pv 0)))) (pw_or1 (pt_not (pt_val (pe_m0 PySem.F.slot_str_isdigit PySem.F.type_str_isdigit mt_isdigit (pv 0)))))))) (pss_one (ps_ret pe_non)) pss_nil)
    (pss_cons (ps_if (PW.pt (pw_and (pt_val (pe_m1 PySem.F.slot_str_startswith PySem.F.type_str_startswith mt_startswith (pv 0) pe_str)) (pw_and1 (pt_cmpR u_gt (pe_callB u_len rfl T.b_len (by decide +kernel) (pa_cons (pv 0) pa_nil)) pe_int (nomark _))))) (pss_one (ps_ret pe_non)) pss_nil)
    (pss_one (ps_ret (pe_callTy u_int rfl T.b_int (by decide +kernel) (pa_cons (pv 0) pa_nil))))))
theorem ok_f_unsigned {fd : FuncData} (F : FunD K "unsigned" "unsigned" (defArgs s_f_unsigned) (defBody s_f_unsigned) (defScope s_f_unsigned) [.int 60] [] (He.fAd K ("unsigned", none)) fd) (fo : FnOk P w K mg base (L2N.CX P w) 1 (He.fAd K ("unsigned", none)) fd ["word", "most"] sp_unsigned) : OkD P w K mg base 1 "unsigned" ["word", "most"] sp_unsigned [.int 60] := by
  obtain ⟨ds, hv, hb⟩ := F.binds1 (ps := ["word", "most"]) 1 0 (by decide) rfl fun T kV doc pm an cdv ct us its h1 h2 => match us, its, h1, h2 with | [_], [_], _, _ => ⟨_, rfl, rfl⟩
  exact ⟨⟨fd, ds, fo, hv, hb⟩, F.kp⟩
theorem ok_f_is_odd_prime (T : Txt K mg) {fd : FuncData} (F : FunD K "is_odd_prime" "is_odd_prime" (defArgs s_f_is_odd_prime) (defBody s_f_is_odd_prime) (defScope s_f_is_odd_prime) [] [] (He.fAd K ("is_odd_prime", none)) fd)  : OkF P w K mg base (L2N.CX P w) 1 ("is_odd_prime", none) ["number"] sp_is_odd_prime := by
  refine FunD.okF F (F.ok sc_f_is_odd_prime (fun vs H Q E h => ?_) (fun cdv A outer s H vs Q E hr h => ⟨t_f_is_odd_prime K, PSs.nox ?_, pure_is_odd_prime K vs H Q E h⟩)) fun _ _ _ _ _ _ us hl => match us, hl with | [_], _ => rfl
  · obtain ⟨_, rfl, _⟩ := h; rfl
  · exact (pss_cons (ps_if (PW.pt (pw_or (pt_cmpR (u_lt (un64 hr)) (pv 0) pe_int (nomark _)) (pw_or1 (pt_cmpR (u_eq (un64 hr)) (pe_op u_mod (pv 0) pe_int) pe_int (nomark _))))) (pss_one (ps_ret pe_bl)) pss_nil)
    (pss_cons (ps_set (i := 1) sc_f_is_odd_prime.nd rfl (Or.inl rfl) pe_int)
    (pss_cons (ps_while PassesOwn.never (pt_cmpR u_le (pe_op u_mul (pv 1) (pv 1)) (pv 0) (nomark _)) (pss_cons (ps_if (pt_cmpR (u_eq (un64 hr)) (pe_op u_mod (pv 0) (pv 1)) pe_int (nomark _)) (pss_one (ps_ret pe_bl)) pss_nil)
    (pss_one (ps_aug (i := 1) sc_f_is_odd_prime.nd rfl (Or.inl rfl) pe_int ip_add))))
    (pss_one (ps_ret pe_bl)))))
theorem ok_f_prime_of_line (T : Txt K mg) {fd : FuncData} (F : FunD K "prime_of_line" "prime_of_line" (defArgs s_f_prime_of_line) (defBody s_f_prime_of_line) (defScope s_f_prime_of_line) [] [] (He.fAd K ("prime_of_line", none)) fd) (G_is_odd_prime : OkF P w K mg base (L2N.CX P w) 1 ("is_odd_prime", none) ["number"] sp_is_odd_prime) (G_unsigned : OkD P w K mg base 1 "unsigned" ["word", "most"] sp_unsigned [.int 60]) : OkF P w K mg base (L2N.CX P w) 2 ("prime_of_line", none) ["line"] sp_prime_of_line := by
  refine FunD.okF F (F.ok sc_f_prime_of_line (fun vs H Q E h => ?_) (fun cdv A outer s H vs Q E hr h => ⟨t_f_prime_of_line K, PSs.nox ?_, pure_prime_of_line K vs H Q E h⟩)) fun _ _ _ _ _ _ us hl => match us, hl with | [_], _ => rfl
  · obtain ⟨_, rfl, _⟩ := h; rfl
  · exact (pss_cons (ps_if (pt_cmpR (u_eq (un64 hr)) (pv 0) pe_str (nomark _)) (pss_one (ps_ret pe_non)) pss_nil)
    (pss_cons (ps_if (pt_not (pt_val (pe_m1 PySem.F.slot_str_startswith PySem.F.type_str_startswith mt_startswith (pv 0) pe_str))) (pss_one ps_never) pss_nil)
    (pss_cons (ps_set (i := 1) sc_f_prime_of_line.nd rfl (Or.inl rfl) (pe_ownD G_unsigned (hr.mono (by omega)) rfl T.g_unsigned passN (pa_cons (pe_slice u_sl (pv 0) (po_some pe_int) po_none) pa_nil)))
    (pss_cons (ps_if (PW.pt (pw_or (pt_cmpR op_isN (pv 1) pe_non (nomark _)) (pw_or (pt_cmpR u_gt (pv 1) (pe_constI rfl T.c_GREATEST_PRIME) (nomark _)) (pw_or1 (pt_not (pt_val (pe_own G_is_odd_prime (hr.mono (by omega)) rfl T.g_is_odd_prime passN (pa_cons (pv 1) pa_nil)))))))) (pss_one ps_never) pss_nil)
    (pss_one (ps_ret (pv 1)))))))
theorem ok_m_Ground_init (T : Txt K mg) {fd : FuncData} (F : FunD K "__init__" "Ground.__init__" (defArgs s_m_Ground_init) (defBody s_m_Ground_init) (defScope s_m_Ground_init) [] [] (He.fAd K ("Ground", some "__init__")) fd) (G_prime_of_line : OkF P w K mg base (L2N.CX P w) 2 ("prime_of_line", none) ["line"] sp_prime_of_line) : OkI P w K mg base 3 "Ground" ["self", "line"] (sp_Ground_init K) := by
  refine ⟨⟨fd, (F.ok sc_m_Ground_init (fun vs H Q E h => ?_) (fun cdv A outer s H vs Q E hr h => ⟨t_m_Ground_init K, PSs.nox ?_, pure_ginit K T.gr vs H Q E h⟩)), (F.bindsN fun _ _ _ _ _ _ us hl => match us, hl with | [_, _], _ => rfl)⟩⟩
  · obtain ⟨_, _, _, rfl, _⟩ := h; rfl
  · exact (pss_cons (ps_fld (pv 0) (pv 1) rfl)
    (pss_one (ps_fld (pv 0) (pe_own G_prime_of_line (hr.mono (by omega)) rfl T.g_prime_of_line passN (pa_cons (pv 1) pa_nil)) rfl)))
theorem ok_f_law_fault (T : Txt K mg) {fd : FuncData} (F : FunD K "_law_fault" "_law_fault" (defArgs s_f_law_fault) (defBody s_f_law_fault) (defScope s_f_law_fault) [] [] (He.fAd K ("_law_fault", none)) fd) : OkH P w K mg base 1 "_law_fault" fd ["e", "base"] (sp__law_fault K) := by
  refine okH_of F sc_f_law_fault (fun a c d vs H Q E h => ?_) (F.bindsN fun _ _ _ _ _ _ us hl => match us, hl with | [_, _], _ => rfl) (fun cdv A outer s H vs Q E p c d hh hr h => ?_)
  · obtain ⟨_, _, _, _, rfl, _⟩ := h; rfl
  · obtain ⟨C, hC, hw⟩ := pure_fault K T.ft p.1 c d vs H Q E h
    exact ⟨t_f_law_fault K C p.1 c d, (pss_cons (ps_set (i := 2) sc_f_law_fault.nd rfl (Or.inl rfl) (pe_lst (pa_cons (pe_tup (pa_cons pe_str (pa_cons (pe_callB (call_isP hh) rfl T.b_isinstance (by decide +kernel) (pa_cons (pv 0) (pa_cons (pe_glob rfl T.g_BadGround rfl) pa_nil))) pa_nil))) (pa_cons (pe_tup (pa_cons pe_str (pa_cons (pe_callB (call_isP hh) rfl T.b_isinstance (by decide +kernel) (pa_cons (pv 0) (pa_cons (pe_glob rfl T.g_BadNumber rfl) pa_nil))) pa_nil))) (pa_cons (pe_tup (pa_cons pe_str (pa_cons (pe_callB (call_isP hh) rfl T.b_isinstance (by decide +kernel) (pa_cons (pv 0) (pa_cons (pe_glob rfl T.g_BadTable rfl) pa_nil))) pa_nil))) (pa_cons (pe_tup (pa_cons pe_str (pa_cons (pe_callB (call_isP hh) rfl T.b_isinstance (by decide +kernel) (pa_cons (pv 0) (pa_cons (pe_glob rfl T.g_BadName rfl) pa_nil))) pa_nil))) pa_nil))))))
    (pss_cons (ps_set (i := 2) sc_f_law_fault.nd rfl (Or.inl rfl) (pe_op u_add (pv 2) (pe_lst (pa_cons (pe_tup (pa_cons pe_str (pa_cons (pe_callB (call_isP hh) rfl T.b_isinstance (by decide +kernel) (pa_cons (pv 0) (pa_cons (pe_glob rfl T.g_BadProgram rfl) pa_nil))) pa_nil))) (pa_cons (pe_tup (pa_cons pe_str (pa_cons (pe_callB (call_isP hh) rfl T.b_isinstance (by decide +kernel) (pa_cons (pv 0) (pa_cons (pe_glob rfl T.g_BadFormula rfl) pa_nil))) pa_nil))) (pa_cons (pe_tup (pa_cons pe_str (pa_cons (pe_callB (call_isP hh) rfl T.b_isinstance (by decide +kernel) (pa_cons (pv 0) (pa_cons (pe_glob rfl T.g_BadScript rfl) pa_nil))) pa_nil))) (pa_cons (pe_tup (pa_cons pe_str (pa_cons (pe_callB (call_isP hh) rfl T.b_isinstance (by decide +kernel) (pa_cons (pv 0) (pa_cons (pe_glob rfl T.g_Broken rfl) pa_nil))) pa_nil))) pa_nil)))))))
    (pss_cons (ps_set (i := 2) sc_f_law_fault.nd rfl (Or.inl rfl) (pe_op u_add (pv 2) (pe_lst (pa_cons (pe_tup (pa_cons pe_str (pa_cons (pe_callB (call_isP hh) rfl T.b_isinstance (by decide +kernel) (pa_cons (pv 0) (pa_cons (pe_glob rfl T.g_Unlike rfl) pa_nil))) pa_nil))) (pa_cons (pe_tup (pa_cons pe_str (pa_cons (pe_callB (call_isP hh) rfl T.b_isinstance (by decide +kernel) (pa_cons (pv 0) (pa_cons (pe_glob rfl T.g_NotRight rfl) pa_nil))) pa_nil))) (pa_cons (pe_tup (pa_cons pe_str (pa_cons (pe_callB (call_isP hh) rfl T.b_isinstance (by decide +kernel) (pa_cons (pv 0) (pa_cons (pe_glob rfl T.g_NotLeast rfl) pa_nil))) pa_nil))) (pa_cons (pe_tup (pa_cons pe_str (pa_cons (pe_callB (call_isP hh) rfl T.b_isinstance (by decide +kernel) (pa_cons (pv 0) (pa_cons (pe_glob rfl T.g_NotLow rfl) pa_nil))) pa_nil))) pa_nil)))))))
    (pss_cons (ps_set (i := 2) sc_f_law_fault.nd rfl (Or.inl rfl) (pe_op u_add (pv 2) (pe_lst (pa_cons (pe_tup (pa_cons pe_str (pa_cons (pe_callB (call_isP hh) rfl T.b_isinstance (by decide +kernel) (pa_cons (pv 0) (pa_cons (pe_glob rfl T.g_BadPoints rfl) pa_nil))) pa_nil))) (pa_cons (pe_tup (pa_cons pe_str (pa_cons (pe_callB (call_isP hh) rfl T.b_isinstance (by decide +kernel) (pa_cons (pv 0) (pa_cons (pe_glob rfl T.g_TooMany rfl) pa_nil))) pa_nil))) (pa_cons (pe_tup (pa_cons pe_str (pa_cons (pe_callB (call_isP hh) rfl T.b_isinstance (by decide +kernel) (pa_cons (pv 0) (pa_cons (pe_glob rfl T.g_NoSuch rfl) pa_nil))) pa_nil))) (pa_cons (pe_tup (pa_cons pe_str (pa_cons (pe_callB (call_isP hh) rfl T.b_isinstance (by decide +kernel) (pa_cons (pv 0) (pa_cons (pe_glob rfl T.g_Stops rfl) pa_nil))) pa_nil))) pa_nil)))))))
    (pss_cons (ps_set (i := 2) sc_f_law_fault.nd rfl (Or.inl rfl) (pe_op u_add (pv 2) (pe_lst (pa_cons (pe_tup (pa_cons pe_str (pa_cons (pe_callB (call_isP hh) rfl T.b_isinstance (by decide +kernel) (pa_cons (pv 0) (pa_cons (pe_glob rfl T.g_Enough rfl) pa_nil))) pa_nil))) (pa_cons (pe_tup (pa_cons pe_str (pa_cons (pe_callB (call_isP hh) rfl T.b_isinstance (by decide +kernel) (pa_cons (pv 0) (pa_cons (pe_glob rfl T.g_Endless rfl) pa_nil))) pa_nil))) (pa_cons (pe_tup (pa_cons pe_str (pa_cons (pe_callB (call_isP hh) rfl T.b_isinstance (by decide +kernel) (pa_cons (pv 0) (pa_cons (pe_glob rfl T.g_NothingLeft rfl) pa_nil))) pa_nil))) pa_nil))))))
    (pss_cons (ps_setLcH (i := 3) (ow := [("one", 6)]) hh.hot hh.mem sc_f_law_fault.nd rfl rfl (sw_true rfl rfl rfl (by decide +kernel)) (pi_listH (pv 2)) (blkOk_by (N := N_f_law_fault) (sc := defScope s_f_law_fault) (own := [("one", 6)]) (by decide +kernel)) (fun _ _ _ _ _ => (pg_name (i := 6) sc_f_law_fault.nd rfl (Or.inl rfl))) (fun _ _ _ _ _ => (pts_one (pt_truth (pe_ix u_ix (pv 6) pe_int (fun _ _ => rfl)) (by intro _; rfl)))) (fun _ _ _ _ _ => (pe_ix u_ix (pv 6) pe_int (fun _ _ => rfl))))
    (pss_cons (ps_if (pt_cmpR (u_ne (un64H hr)) (pe_callB u_len rfl T.b_len (by decide +kernel) (pa_cons (pv 3) pa_nil)) pe_int (nomark _)) (pss_one (ps_ret (pe_lst (pa_cons pe_str (pa_cons (pv 1) (pa_cons (pv 3) (pa_cons (pe_lst pa_nil) (pa_cons pe_str pa_nil)))))))) pss_nil)
    (pss_cons (ps_set (i := 4) sc_f_law_fault.nd rfl (Or.inl rfl) (pe_ix u_ix (pv 3) pe_int (fun _ _ => rfl)))
    (pss_cons (ps_set (i := 5) sc_f_law_fault.nd rfl (Or.inl rfl) (pe_ifExp (pt_cmpR (u_eq (un64H hr)) (pv 4) pe_str (nomark _)) (pe_lst (pa_cons (pe_xfP hh (T.xf C hC) (T.no_what C hC) (pv 0) rfl) (pa_cons (pe_xfP hh (T.xf C hC) (T.no_count C hC) (pv 0) rfl) pa_nil))) (pe_ifExp (pt_cmpR (u_eq (un64H hr)) (pv 4) pe_str (nomark _)) (pe_lst (pa_cons (pe_xfP hh (T.xf C hC) (T.no_what C hC) (pv 0) rfl) pa_nil)) (pe_ifExp (pt_cmpR (u_eq (un64H hr)) (pv 4) pe_str (nomark _)) (pe_lst (pa_cons (pe_xfP hh (T.xf C hC) (T.no_name C hC) (pv 0) rfl) pa_nil)) (pe_ifExp (pt_cmpR (u_eq (un64H hr)) (pv 4) pe_str (nomark _)) (pe_lst (pa_cons (pe_xfP hh (T.xf C hC) (T.no_line C hC) (pv 0) rfl) pa_nil)) (pe_lst pa_nil))))))
    (pss_cons (ps_set (i := 5) sc_f_law_fault.nd rfl (Or.inl rfl) (pe_ifExp (pt_cmpR u_in (pv 4) (pe_lst (pa_cons pe_str (pa_cons pe_str (pa_cons pe_str pa_nil)))) rfl) (pe_lst (pa_cons (pe_xfP hh (T.xf C hC) (T.no_at C hC) (pv 0) rfl) pa_nil)) (pe_ifExp (pt_cmpR u_in (pv 4) (pe_lst (pa_cons pe_str (pa_cons pe_str (pa_cons pe_str (pa_cons pe_str pa_nil))))) rfl) (pe_lst (pa_cons (pe_xfP hh (T.xf C hC) (T.no_line C hC) (pv 0) rfl) pa_nil)) (pv 5))))
    (pss_cons (ps_set (i := 5) sc_f_law_fault.nd rfl (Or.inl rfl) (pe_ifExp (pt_cmpR u_in (pv 4) (pe_lst (pa_cons pe_str (pa_cons pe_str pa_nil))) rfl) (pe_lst (pa_cons (pe_xfP hh (T.xf C hC) (T.no_why C hC) (pv 0) rfl) pa_nil)) (pe_ifExp (pt_cmpR (u_eq (un64H hr)) (pv 4) pe_str (nomark _)) (pe_lst (pa_cons (pe_xfP hh (T.xf C hC) (T.no_place C hC) (pv 0) rfl) pa_nil)) (pe_ifExp (pt_cmpR (u_eq (un64H hr)) (pv 4) pe_str (nomark _)) (pe_lst (pa_cons (pe_xfP hh (T.xf C hC) (T.no_cost C hC) (pv 0) rfl) pa_nil)) (pv 5)))))
    (pss_cons (ps_set (i := 5) sc_f_law_fault.nd rfl (Or.inl rfl) (pe_ifExp (pt_cmpR (u_eq (un64H hr)) (pv 4) pe_str (nomark _)) (pe_lst (pa_cons (pe_xfP hh (T.xf C hC) (T.no_condition C hC) (pv 0) rfl) (pa_cons (pe_xfP hh (T.xf C hC) (T.no_where C hC) (pv 0) rfl) pa_nil))) (pv 5)))
    (pss_cut (ps_if (pt_cmpR u_in (pv 4) (pe_lst (pa_cons pe_str (pa_cons pe_str (pa_cons pe_str (pa_cons pe_str (pa_cons pe_str (pa_cons pe_str (pa_cons pe_str pa_nil)))))))) rfl) (pss_one (ps_expr (pe_bm PySem.F.plainAttrs_list PySem.F.slot_list_append PySem.F.type_list_append mt_append (pv 5) (pa_cons (pe_and (pe_callB u_isi rfl T.b_isinstance (by decide +kernel) (pa_cons (pe_xfP hh (T.xf C hC) (T.no_why C hC) (pv 0) rfl) (pa_cons (pe_bltn rfl T.b_str (by decide +kernel) rfl) pa_nil))) (pe_one (pe_cmpR (u_ne (un64H hr)) (pe_xfP hh (T.xf C hC) (T.no_why C hC) (pv 0) rfl) pe_str (nomark _)))) pa_nil)))) pss_nil)
    (pss_one (ps_ret (pe_lst (pa_cons pe_str (pa_cons (pv 1) (pa_cons (pv 3) (pa_cons (pv 5) (pa_cons (pe_xfP hh (T.xf C hC) (T.no_code C hC) (pv 0) rfl) pa_nil))))))))))))))))))))), hw⟩
theorem ok_f_law_asked (T : Txt K mg) {fd : FuncData} (F : FunD K "_law_asked" "_law_asked" (defArgs s_f_law_asked) (defBody s_f_law_asked) (defScope s_f_law_asked) [] [] (He.fAd K ("_law_asked", none)) fd) (G_Ground_init : OkI P w K mg base 3 "Ground" ["self", "line"] (sp_Ground_init K)) (G__law_copied : OkF P w K mg base (L2N.CX P w) 6 ("_law_copied", none) ["thing"] sp__law_copied) {fdH : FuncData} (G__law_fault : OkH P w K mg base 1 "_law_fault" fdH ["e", "base"] (sp__law_fault K)) (G__law_line : OkF P w K mg base (L2N.CX P w) 1 ("_law_line", none) ["p"] sp__law_line) (G__law_same : OkF P w K mg base (L2N.CX P w) 6 ("_law_same", none) ["told", "due"] sp__law_same) {fderrs_window : FuncData} {dserrs_window : List Value} (G_errs_window : OkS P w K mg base 5 "errs_window" fderrs_window dserrs_window ["program", "answers", "taps"] (sp_errs_window K) []) {fdWwindow : FuncData} (G_window : OkKw P w K mg base 6 "window" fdWwindow ["ground", "answers", "taps", "points"] ["points"] (sp_window K)) {fdKwindow : FuncData} {dsKwindow : List Value} (K_window : OkK0 P w K mg base 6 "window" fdKwindow ["ground", "answers", "taps", "points"] ["ground", "answers", "taps"] dsKwindow [.non] (sp_window K)) : OkF P w K mg base (L2N.CX P w) 7 ("_law_asked", none) ["what", "p", "one", "two", "spread"] (sp__law_asked K) := by
  refine FunD.okF F (F.ok sc_f_law_asked (fun vs H Q E h => ?_) (fun cdv A outer s H vs Q E hr h => ⟨t_f_law_asked K, PSs.nox ?_, pure_asked K T.ask vs H Q E h⟩)) fun _ _ _ _ _ _ us hl => match us, hl with | [_, _, _, _, _], _ => rfl
  · rcases h with ⟨_, _, _, _, _, _, _, _, _, _, _, rfl, _⟩ | ⟨_, _, _, _, _, rfl, _⟩ | ⟨_, _, _, _, _, _, rfl, _⟩ <;> rfl
  · exact (pss_one (ps_tryN (i := 7) rfl rfl sc_f_law_asked.nd rfl rfl ⟨rfl, by decide, .inl T.g_Refused⟩ (fun W pn xe tk own => (pss_cons (ps_if (pt_cmpR (u_eq (un64 hr)) (pv 0) pe_str (nomark _)) (pss_one (ps_ret (pe_lst (pa_cons pe_str (pa_cons (pe_callS G_errs_window.fn (hr.mono (by omega)) rfl T.g_errs_window G_errs_window.kp G_errs_window.bd G_errs_window.vd (fun σ => L2N.passAt tk σ) (pa_cons (pv 4) (pa_cons (pv 2) (pa_cons (pv 3) pa_nil)))) pa_nil))))) pss_nil)
    (pss_cons (ps_if (pt_cmpR (u_eq (un64 hr)) (pv 0) pe_str (nomark _)) (pss_one (ps_ret (pe_lst (pa_cons pe_str (pa_cons (pe_callKS G_window.fn (hr.mono (by omega)) rfl T.g_window G_window.kp G_window.kb (fun σ => L2N.passAt tk σ) (pa_cons (pe_mk G_Ground_init T.mk_Ground (hr.mono (by omega)) rfl T.g_Ground passN (pa_cons (pe_own G__law_line (hr.mono (by omega)) rfl T.g__law_line passN (pa_cons (pv 1) pa_nil)) pa_nil)) (pa_cons (pv 2) (pa_cons (pv 3) pa_nil))) (pk_cons pe_non pk_nil)) pa_nil))))) pss_nil)
    (pss_cons (ps_if (pt_cmpR op_isN (pv 4) pe_non (nomark _)) (pss_one (ps_ret (pe_lst (pa_cons pe_str (pa_cons (pe_callKS0 K_window.fn (hr.mono (by omega)) rfl T.g_window K_window.kp K_window.kb (fun σ => L2N.passAt tk σ) (pk_cons (pe_mk G_Ground_init T.mk_Ground (hr.mono (by omega)) rfl T.g_Ground passN (pa_cons (pe_own G__law_line (hr.mono (by omega)) rfl T.g__law_line passN (pa_cons (pv 1) pa_nil)) pa_nil)) (pk_cons (pv 2) (pk_cons (pv 3) pk_nil)))) pa_nil))))) pss_nil)
    (pss_cons (ps_set (i := 5) sc_f_law_asked.nd rfl (Or.inl rfl) (pe_own G__law_copied (hr.mono (by omega)) rfl T.g__law_copied passN (pa_cons (pv 4) pa_nil)))
    (pss_cons (ps_set (i := 6) sc_f_law_asked.nd rfl (Or.inl rfl) (pe_callKS G_window.fn (hr.mono (by omega)) rfl T.g_window G_window.kp G_window.kb (fun σ => L2N.passAt tk σ) (pa_cons (pe_mk G_Ground_init T.mk_Ground (hr.mono (by omega)) rfl T.g_Ground passN (pa_cons (pe_own G__law_line (hr.mono (by omega)) rfl T.g__law_line passN (pa_cons (pv 1) pa_nil)) pa_nil)) (pa_cons (pv 2) (pa_cons (pv 3) pa_nil))) (pk_cons (pv 4) pk_nil)))
    (pss_one (ps_ret (pe_ifExp (pt_val (pe_own G__law_same (hr.mono (by omega)) rfl T.g__law_same passN (pa_cons (pv 4) (pa_cons (pv 5) pa_nil)))) (pe_lst (pa_cons pe_str (pa_cons (pv 6) pa_nil))) (pe_lst (pa_cons pe_str pa_nil))))))))))) (fun a oe cls d pn hz hf => pss_one (ps_ret (pe_callP G__law_fault.fn (roomH_mark (hr.mono (by omega)) _) (hotE_suite hz hf) rfl T.g__law_fault G__law_fault.kp G__law_fault.bd (pa_cons (pv 7) (pa_cons pe_str pa_nil)))))))
theorem ok_f_law_judged (T : Txt K mg) {fd : FuncData} (F : FunD K "_law_judged" "_law_judged" (defArgs s_f_law_judged) (defBody s_f_law_judged) (defScope s_f_law_judged) [] [] (He.fAd K ("_law_judged", none)) fd) (G_Ground_init : OkI P w K mg base 3 "Ground" ["self", "line"] (sp_Ground_init K)) (G_LeftRight_init : OkI P w K mg base 1 "LeftRight" ["self", "ground", "sizes", "triples"] (sp_LeftRight_init K)) (G__law_asked : OkF P w K mg base (L2N.CX P w) 7 ("_law_asked", none) ["what", "p", "one", "two", "spread"] (sp__law_asked K)) (G__law_bent : OkF P w K mg base (L2N.CX P w) 7 ("_law_bent", none) ["bag", "p", "triples"] sp__law_bent) (G__law_copied : OkF P w K mg base (L2N.CX P w) 6 ("_law_copied", none) ["thing"] sp__law_copied) (G__law_due : OkF P w K mg base (L2N.CX P w) 1 ("_law_due", none) ["name", "fields"] sp__law_due) (G__law_first : OkF P w K mg base (L2N.CX P w) 5 ("_law_first", none) ["p", "triples", "many", "wide"] sp__law_first) (G__law_line : OkF P w K mg base (L2N.CX P w) 1 ("_law_line", none) ["p"] sp__law_line) (G__law_pick : OkF P w K mg base (L2N.CX P w) 2 ("_law_pick", none) ["bag", "menu"] sp__law_pick) (G__law_same : OkF P w K mg base (L2N.CX P w) 6 ("_law_same", none) ["told", "due"] sp__law_same) : OkF P w K mg base (L2N.CX P w) 8 ("_law_judged", none) ["bag", "p", "many", "wide", "triples"] (sp__law_judged K) := by
  refine FunD.okF F (F.ok sc_f_law_judged (fun vs H Q E h => ?_) (fun cdv A outer s H vs Q E hr h => ⟨t_f_law_judged K, PSs.nox ?_, pure_judged K vs H Q E h⟩)) fun _ _ _ _ _ _ us hl => match us, hl with | [_, _, _, _, _], _ => rfl
  · obtain ⟨_, _, _, _, _, _, _, _, _, _, _, rfl, _⟩ := h; rfl
  · exact (pss_cons (ps_for PassesOwn.never rfl (pi_range1 rfl T.b_range (pa_cons pe_int pa_nil)) (pg_name (i := 5) sc_f_law_judged.nd rfl (Or.inl rfl)) (pss_cons (ps_set (i := 6) sc_f_law_judged.nd rfl (Or.inl rfl) (pe_mk G_LeftRight_init T.mk_LeftRight (hr.mono (by omega)) rfl T.g_LeftRight passN (pa_cons (pe_mk G_Ground_init T.mk_Ground (hr.mono (by omega)) rfl T.g_Ground passN (pa_cons (pe_own G__law_line (hr.mono (by omega)) rfl T.g__law_line passN (pa_cons (pv 1) pa_nil)) pa_nil)) (pa_cons (pe_lst (pa_cons (pe_op op_sub (pe_op u_add (pv 2) (pv 3)) pe_int) (pa_cons (pv 3) (pa_cons (pv 2) pa_nil)))) (pa_cons (pe_own G__law_copied (hr.mono (by omega)) rfl T.g__law_copied passN (pa_cons (pv 4) pa_nil)) pa_nil)))))
    (pss_cons (ps_if (pt_not (pt_val (pe_own G__law_same (hr.mono (by omega)) rfl T.g__law_same passN (pa_cons (pe_own G__law_asked (hr.mono (by omega)) rfl T.g__law_asked passN (pa_cons pe_str (pa_cons (pv 1) (pa_cons (pv 2) (pa_cons (pv 3) (pa_cons (pv 6) pa_nil)))))) (pa_cons (pe_lst (pa_cons pe_str (pa_cons (pe_own G__law_first (hr.mono (by omega)) rfl T.g__law_first passN (pa_cons (pv 1) (pa_cons (pv 4) (pa_cons (pv 2) (pa_cons (pv 3) pa_nil))))) pa_nil))) pa_nil))))) (pss_one (ps_ret pe_bl)) pss_nil)
    (pss_cons (ps_set (i := 7) sc_f_law_judged.nd rfl (Or.inl rfl) (pe_own G__law_pick (hr.mono (by omega)) rfl T.g__law_pick passN (pa_cons (pv 0) (pa_cons (pe_lst (pa_cons (pe_tup (pa_cons (pe_op u_add (pv 2) pe_int) (pa_cons (pv 3) pa_nil))) (pa_cons (pe_tup (pa_cons (pv 2) (pa_cons (pe_op u_add (pv 3) pe_int) pa_nil))) (pa_cons (pe_ifExp (pt_cmpR u_gt (pv 3) pe_int (nomark _)) (pe_tup (pa_cons (pe_op u_add (pv 2) pe_int) (pa_cons (pe_op op_sub (pv 3) pe_int) pa_nil))) (pe_tup (pa_cons (pe_op u_add (pv 2) pe_int) (pa_cons (pv 3) pa_nil)))) pa_nil)))) pa_nil))))
    (pss_cons (ps_if (pt_not (pt_val (pe_own G__law_same (hr.mono (by omega)) rfl T.g__law_same passN (pa_cons (pe_own G__law_asked (hr.mono (by omega)) rfl T.g__law_asked passN (pa_cons pe_str (pa_cons (pv 1) (pa_cons (pe_ix u_ix (pv 7) pe_int (fun _ _ => rfl)) (pa_cons (pe_ix u_ix (pv 7) pe_int (fun _ _ => rfl)) (pa_cons (pv 6) pa_nil)))))) (pa_cons (pe_own G__law_due (hr.mono (by omega)) rfl T.g__law_due passN (pa_cons pe_str (pa_cons (pe_lst (pa_cons pe_str pa_nil)) pa_nil))) pa_nil))))) (pss_one (ps_ret pe_bl)) pss_nil)
    (pss_cons (ps_if (pt_cmpR (u_eq (un64 hr)) (pv 4) (pe_lst pa_nil) (nomark _)) (pss_one ps_break) pss_nil)
    (pss_one (ps_set (i := 4) sc_f_law_judged.nd rfl (Or.inl rfl) (pe_own G__law_bent (hr.mono (by omega)) rfl T.g__law_bent passN (pa_cons (pv 0) (pa_cons (pv 1) (pa_cons (pv 4) pa_nil))))))))))))
    (pss_one (ps_ret pe_bl)))
theorem ok_f_law_refused (T : Txt K mg) {fd : FuncData} (F : FunD K "_law_refused" "_law_refused" (defArgs s_f_law_refused) (defBody s_f_law_refused) (defScope s_f_law_refused) [] [] (He.fAd K ("_law_refused", none)) fd) (G__law_asked : OkF P w K mg base (L2N.CX P w) 7 ("_law_asked", none) ["what", "p", "one", "two", "spread"] (sp__law_asked K)) (G__law_draw : OkF P w K mg base (L2N.CX P w) 1 ("_law_draw", none) ["bag", "size"] sp__law_draw) (G__law_due : OkF P w K mg base (L2N.CX P w) 1 ("_law_due", none) ["name", "fields"] sp__law_due) (G__law_pick : OkF P w K mg base (L2N.CX P w) 2 ("_law_pick", none) ["bag", "menu"] sp__law_pick) (G__law_points : OkF P w K mg base (L2N.CX P w) 3 ("_law_points", none) ["bag", "p", "size"] sp__law_points) (G__law_same : OkF P w K mg base (L2N.CX P w) 6 ("_law_same", none) ["told", "due"] sp__law_same) : OkF P w K mg base (L2N.CX P w) 8 ("_law_refused", none) ["bag", "p", "many", "wide"] (sp__law_refused K) := by
  refine FunD.okF F (F.ok sc_f_law_refused (fun vs H Q E h => ?_) (fun cdv A outer s H vs Q E hr h => ⟨t_f_law_refused K, PSs.nox ?_, pure_refused K vs H Q E h⟩)) fun _ _ _ _ _ _ us hl => match us, hl with | [_, _, _, _], _ => rfl
  · obtain ⟨_, _, _, _, _, _, rfl, _⟩ := h; rfl
  · exact (pss_cons (ps_par (i := 4) (j := 5) rfl sc_f_law_refused.nd rfl rfl (by decide) rfl rfl (pa_cons (pe_op op_sub (pe_op u_add (pv 2) (pv 3)) pe_int) (pa_cons (pe_op u_add pe_int (pe_own G__law_draw (hr.mono (by omega)) rfl T.g__law_draw passN (pa_cons (pv 0) (pa_cons pe_int pa_nil)))) pa_nil)) (by rfl))
    (pss_cons (ps_set (i := 6) sc_f_law_refused.nd rfl (Or.inl rfl) (pe_ifExp (PW.pt (pw_or (pt_cmpR (u_eq (un64 hr)) (pv 1) pe_int (nomark _)) (pw_or1 (pt_cmpR u_le (pv 4) (pe_op u_add (pv 1) pe_int) (nomark _))))) (pe_own G__law_points (hr.mono (by omega)) rfl T.g__law_points passN (pa_cons (pv 0) (pa_cons (pv 1) (pa_cons (pv 4) pa_nil)))) (pe_op u_mul (pe_lst (pa_cons pe_str pa_nil)) (pv 4))))
    (pss_cons (ps_set (i := 7) sc_f_law_refused.nd rfl (Or.inl rfl) (pe_lst (pa_cons (pe_tup (pa_cons (pv 5) (pa_cons (pv 3) (pa_cons pe_non (pa_cons (pe_own G__law_due (hr.mono (by omega)) rfl T.g__law_due passN (pa_cons pe_str (pa_cons (pe_lst (pa_cons pe_str (pa_cons (pv 5) pa_nil))) pa_nil))) pa_nil))))) (pa_cons (pe_tup (pa_cons (pv 2) (pa_cons (pv 5) (pa_cons (pe_callTy u_list rfl T.b_list (by decide +kernel) (pa_cons (pv 6) pa_nil)) (pa_cons (pe_own G__law_due (hr.mono (by omega)) rfl T.g__law_due passN (pa_cons pe_str (pa_cons (pe_lst (pa_cons pe_str (pa_cons (pv 5) pa_nil))) pa_nil))) pa_nil))))) pa_nil))))
    (pss_cons (ps_expr (pe_bm PySem.F.plainAttrs_list PySem.F.slot_list_append PySem.F.type_list_append mt_append (pv 7) (pa_cons (pe_tup (pa_cons (pv 5) (pa_cons (pe_op u_add (pv 5) pe_int) (pa_cons (pe_lst pa_nil) (pa_cons (pe_own G__law_due (hr.mono (by omega)) rfl T.g__law_due passN (pa_cons pe_str (pa_cons (pe_lst (pa_cons pe_str (pa_cons (pv 5) pa_nil))) pa_nil))) pa_nil))))) pa_nil)))
    (pss_cons (ps_expr (pe_bm PySem.F.plainAttrs_list PySem.F.slot_list_append PySem.F.type_list_append mt_append (pv 7) (pa_cons (pe_tup (pa_cons (pv 2) (pa_cons (pv 3) (pa_cons (pe_slice u_sl (pv 6) (po_some pe_int) po_none) (pa_cons (pe_own G__law_due (hr.mono (by omega)) rfl T.g__law_due passN (pa_cons pe_str (pa_cons (pe_lst (pa_cons pe_str pa_nil)) pa_nil))) pa_nil))))) pa_nil)))
    (pss_cons (ps_expr (pe_bm PySem.F.plainAttrs_list PySem.F.slot_list_append PySem.F.type_list_append mt_append (pv 7) (pa_cons (pe_tup (pa_cons (pv 2) (pa_cons (pv 3) (pa_cons (pe_op u_add (pv 6) (pe_lst (pa_cons (pe_own G__law_pick (hr.mono (by omega)) rfl T.g__law_pick passN (pa_cons (pv 0) (pa_cons (pv 6) pa_nil))) pa_nil))) (pa_cons (pe_own G__law_due (hr.mono (by omega)) rfl T.g__law_due passN (pa_cons pe_str (pa_cons (pe_lst (pa_cons pe_str pa_nil)) pa_nil))) pa_nil))))) pa_nil)))
    (pss_cut (ps_if (pt_cmpR u_gt (pv 4) pe_int (nomark _)) (pss_cons (ps_set (i := 8) sc_f_law_refused.nd rfl (Or.inl rfl) (pe_own G__law_draw (hr.mono (by omega)) rfl T.g__law_draw passN (pa_cons (pv 0) (pa_cons (pv 4) pa_nil))))
    (pss_cons (ps_set (i := 9) sc_f_law_refused.nd rfl (Or.inl rfl) (pe_op u_mod (pe_callTy u_int rfl T.b_int (by decide +kernel) (pa_cons (pe_op u_add (pe_op u_add (pv 8) pe_int) (pe_own G__law_draw (hr.mono (by omega)) rfl T.g__law_draw passN (pa_cons (pv 0) (pa_cons (pe_op op_sub (pv 4) pe_int) pa_nil)))) pa_nil)) (pv 4)))
    (pss_cons (ps_set (i := 10) sc_f_law_refused.nd rfl (Or.inl rfl) (pe_callTy u_list rfl T.b_list (by decide +kernel) (pa_cons (pv 6) pa_nil)))
    (pss_cons (ps_asg (pe_ix u_ix (pv 10) (pv 9) (fun _ _ => rfl)) (pg_sub (pv 10) (pv 8) set_list))
    (pss_one (ps_expr (pe_bm PySem.F.plainAttrs_list PySem.F.slot_list_append PySem.F.type_list_append mt_append (pv 7) (pa_cons (pe_tup (pa_cons (pv 2) (pa_cons (pv 3) (pa_cons (pv 10) (pa_cons (pe_own G__law_due (hr.mono (by omega)) rfl T.g__law_due passN (pa_cons pe_str (pa_cons (pe_lst (pa_cons pe_str pa_nil)) pa_nil))) pa_nil))))) pa_nil)))))))) pss_nil)
    (pss_cons (ps_for PassesOwn.never rfl (pi_seq (pv 7)) (pg_name (i := 11) sc_f_law_refused.nd rfl (Or.inl rfl)) (pss_one (ps_if (pt_not (pt_val (pe_own G__law_same (hr.mono (by omega)) rfl T.g__law_same passN (pa_cons (pe_own G__law_asked (hr.mono (by omega)) rfl T.g__law_asked passN (pa_cons pe_str (pa_cons (pv 1) (pa_cons (pe_ix u_ix (pv 11) pe_int (fun _ _ => rfl)) (pa_cons (pe_ix u_ix (pv 11) pe_int (fun _ _ => rfl)) (pa_cons (pe_ix u_ix (pv 11) pe_int (fun _ _ => rfl)) pa_nil)))))) (pa_cons (pe_ix u_ix (pv 11) pe_int (fun _ _ => rfl)) pa_nil))))) (pss_one (ps_ret pe_bl)) pss_nil)))
    (pss_one (ps_ret pe_bl))))))))))
theorem ok_f_law_made (T : Txt K mg) {fd : FuncData} (F : FunD K "_law_made" "_law_made" (defArgs s_f_law_made) (defBody s_f_law_made) (defScope s_f_law_made) [] [] (He.fAd K ("_law_made", none)) fd) (G_LeftRight_sizes : OkM P w K mg base 1 "LeftRight" "sizes" ["self"] (sp_LeftRight_sizes K) []) (G_LeftRight_tells : OkM P w K mg base 4 "LeftRight" "tells" ["self", "a", "b"] (sp_LeftRight_tells K) []) (G_LeftRight_triples : OkM P w K mg base 1 "LeftRight" "triples" ["self"] (sp_LeftRight_triples K) []) (G__law_asked : OkF P w K mg base (L2N.CX P w) 7 ("_law_asked", none) ["what", "p", "one", "two", "spread"] (sp__law_asked K)) (G__law_dot : OkF P w K mg base (L2N.CX P w) 3 ("_law_dot", none) ["p", "one", "two"] sp__law_dot) (G__law_judged : OkF P w K mg base (L2N.CX P w) 8 ("_law_judged", none) ["bag", "p", "many", "wide", "triples"] (sp__law_judged K)) (G__law_lagrange : OkF P w K mg base (L2N.CX P w) 5 ("_law_lagrange", none) ["p", "spread"] sp__law_lagrange) (G__law_line : OkF P w K mg base (L2N.CX P w) 1 ("_law_line", none) ["p"] sp__law_line) (G__law_powers : OkF P w K mg base (L2N.CX P w) 4 ("_law_powers", none) ["p", "point", "size"] sp__law_powers) (G__law_row : OkF P w K mg base (L2N.CX P w) 4 ("_law_row", none) ["bag", "p", "size"] sp__law_row) (G__law_same : OkF P w K mg base (L2N.CX P w) 6 ("_law_same", none) ["told", "due"] sp__law_same) : OkF P w K mg base (L2N.CX P w) 9 ("_law_made", none) ["bag", "p", "many", "wide", "asked", "spread"] (sp__law_made K) := by
  refine FunD.okF F (F.ok sc_f_law_made (fun vs H Q E h => ?_) (fun cdv A outer s H vs Q E hr h => ⟨t_f_law_made K, PSs.nox ?_, pure_made K T.gr T.lr T.law vs H Q E h⟩)) fun _ _ _ _ _ _ us hl => match us, hl with | [_, _, _, _, _, _], _ => rfl
  · obtain ⟨_, _, _, _, _, _, _, _, _, _, _, rfl, _⟩ := h; rfl
  · exact (pss_cons (ps_set (i := 6) sc_f_law_made.nd rfl (Or.inl rfl) (pe_op op_sub (pe_op u_add (pv 2) (pv 3)) pe_int))
    (pss_cons (ps_if (PW.pt (pw_or (pt_cmpR (u_ne (un64 hr)) (pe_ix u_ix (pv 4) pe_int (fun _ _ => rfl)) pe_str (nomark _)) (pw_or1 (pt_not (pt_val (pe_callB u_isi rfl T.b_isinstance (by decide +kernel) (pa_cons (pe_ix u_ix (pv 4) pe_int (fun _ _ => rfl)) (pa_cons (pe_glob rfl T.g_LeftRight rfl) pa_nil)))))))) (pss_one (ps_ret pe_bl)) pss_nil)
    (pss_cons (ps_set (i := 7) sc_f_law_made.nd rfl (Or.inl rfl) (pe_ix u_ix (pv 4) pe_int (fun _ _ => rfl)))
    (pss_cons (ps_set (i := 8) sc_f_law_made.nd rfl (Or.inr rfl) (pe_own G__law_lagrange (hr.mono (by omega)) rfl T.g__law_lagrange passN (pa_cons (pv 1) (pa_cons (pv 5) pa_nil))))
    (pss_cons (ps_setLc (i := 9) (own := [("k", 13)]) rfl sc_f_law_made.nd rfl rfl (sw_true rfl rfl rfl (by decide +kernel)) (pi_range1 rfl T.b_range (pa_cons (pv 6) pa_nil)) (blkOk_by (N := N_f_law_made) (sc := defScope s_f_law_made) (own := [("k", 13)]) (by decide +kernel)) (fun _ _ _ _ _ => (pg_name (i := 13) sc_f_law_made.nd rfl (Or.inl rfl))) (fun _ _ _ _ _ => pts_nil) (fun _ _ _ _ _ => (pe_tup (pa_cons (pe_ix u_ix (pv 8) (pv 13) (fun _ _ => rfl)) (pa_cons (pe_own G__law_powers (hr.mono (by omega)) rfl T.g__law_powers passN (pa_cons (pv 1) (pa_cons (pe_ix u_ix (pv 5) (pv 13) (fun _ _ => rfl)) (pa_cons (pv 3) pa_nil)))) (pa_cons (pe_own G__law_powers (hr.mono (by omega)) rfl T.g__law_powers passN (pa_cons (pv 1) (pa_cons (pe_ix u_ix (pv 5) (pv 13) (fun _ _ => rfl)) (pa_cons (pv 2) pa_nil)))) pa_nil))))))
    (pss_cons (ps_if (PW.pt (pw_or (pt_not (pt_val (pe_own G__law_same (hr.mono (by omega)) rfl T.g__law_same passN (pa_cons (pe_omt0 G_LeftRight_sizes T.cl_LeftRight T.m_LeftRight_sizes (hr.mono (by omega)) passN (pv 7)) (pa_cons (pe_tup (pa_cons (pv 6) (pa_cons (pv 3) (pa_cons (pv 2) pa_nil)))) pa_nil))))) (pw_or (pt_not (pt_val (pe_own G__law_same (hr.mono (by omega)) rfl T.g__law_same passN (pa_cons (pe_omt0 G_LeftRight_triples T.cl_LeftRight T.m_LeftRight_triples (hr.mono (by omega)) passN (pv 7)) (pa_cons (pv 9) pa_nil))))) (pw_or1 (pt_not (pt_val (pe_own G__law_same (hr.mono (by omega)) rfl T.g__law_same passN (pa_cons (pe_fld (pe_fld (pv 7) rfl) rfl) (pa_cons (pe_own G__law_line (hr.mono (by omega)) rfl T.g__law_line passN (pa_cons (pv 1) pa_nil)) pa_nil))))))))) (pss_one (ps_ret pe_bl)) pss_nil)
    (pss_cons (ps_asg (pe_tup (pa_cons (pe_own G__law_row (hr.mono (by omega)) rfl T.g__law_row passN (pa_cons (pv 0) (pa_cons (pv 1) (pa_cons (pv 6) pa_nil)))) (pa_cons (pe_own G__law_row (hr.mono (by omega)) rfl T.g__law_row passN (pa_cons (pv 0) (pa_cons (pv 1) (pa_cons (pv 3) pa_nil)))) pa_nil))) (pg_tup rfl (pgs_cons (pg_name (i := 10) sc_f_law_made.nd rfl (Or.inr rfl)) (pgs_cons (pg_name (i := 11) sc_f_law_made.nd rfl (Or.inr rfl)) pgs_nil))))
    (pss_cons (ps_setLc (i := 12) (own := [("i", 14)]) rfl sc_f_law_made.nd rfl rfl (sw_true rfl rfl rfl (by decide +kernel)) (pi_range1 rfl T.b_range (pa_cons (pv 2) pa_nil)) (blkOk_by (N := N_f_law_made) (sc := defScope s_f_law_made) (own := [("i", 14)]) (by decide +kernel)) (fun _ _ _ _ _ => (pg_name (i := 14) sc_f_law_made.nd rfl (Or.inl rfl))) (fun _ _ _ _ _ => pts_nil) (fun _ _ _ _ _ => (pe_own G__law_dot (hr.mono (by omega)) rfl T.g__law_dot passN (pa_cons (pv 1) (pa_cons (pe_slice u_sl (pv 10) (po_some (pv 14)) (po_some (pe_op u_add (pv 14) (pv 3)))) (pa_cons (pv 11) pa_nil))))))
    (pss_cons (ps_if (PW.pt (pw_or (pt_not (pt_val (pe_own G__law_same (hr.mono (by omega)) rfl T.g__law_same passN (pa_cons (pe_omt G_LeftRight_tells T.cl_LeftRight T.m_LeftRight_tells (hr.mono (by omega)) passN (pv 7) (pa_cons (pe_callTy u_list rfl T.b_list (by decide +kernel) (pa_cons (pv 10) pa_nil)) (pa_cons (pe_callTy u_list rfl T.b_list (by decide +kernel) (pa_cons (pv 11) pa_nil)) pa_nil))) (pa_cons (pv 12) pa_nil))))) (pw_or1 (pt_not (pt_val (pe_own G__law_same (hr.mono (by omega)) rfl T.g__law_same passN (pa_cons (pe_own G__law_asked (hr.mono (by omega)) rfl T.g__law_asked passN (pa_cons pe_str (pa_cons (pv 1) (pa_cons (pv 2) (pa_cons (pv 3) (pa_cons (pv 7) pa_nil)))))) (pa_cons (pe_lst (pa_cons pe_str (pa_cons pe_non pa_nil))) pa_nil)))))))) (pss_one (ps_ret pe_bl)) pss_nil)
    (pss_one (ps_ret (pe_own G__law_judged (hr.mono (by omega)) rfl T.g__law_judged passN (pa_cons (pv 0) (pa_cons (pv 1) (pa_cons (pv 2) (pa_cons (pv 3) (pa_cons (pv 9) pa_nil)))))))))))))))))
theorem ok_f_law (T : Txt K mg) {fd : FuncData} (F : FunD K "law" "law" (defArgs s_f_law) (defBody s_f_law) (defScope s_f_law) [] [] (He.fAd K ("law", none)) fd) (G__law_asked : OkF P w K mg base (L2N.CX P w) 7 ("_law_asked", none) ["what", "p", "one", "two", "spread"] (sp__law_asked K)) (G__law_bag : OkF P w K mg base (L2N.CX P w) 1 ("_law_bag", none) ["script"] (sp__law_bag K)) (G__law_base : OkF P w K mg base (L2N.CX P w) 2 ("_law_base", none) ["p", "size", "k"] sp__law_base) (G__law_default : OkF P w K mg base (L2N.CX P w) 1 ("_law_default", none) ["p", "many"] sp__law_default) (G__law_draw : OkF P w K mg base (L2N.CX P w) 1 ("_law_draw", none) ["bag", "size"] sp__law_draw) (G__law_dressed : OkF P w K mg base (L2N.CX P w) 5 ("_law_dressed", none) ["bag", "p", "triples"] sp__law_dressed) (G__law_due : OkF P w K mg base (L2N.CX P w) 1 ("_law_due", none) ["name", "fields"] sp__law_due) (G__law_judged : OkF P w K mg base (L2N.CX P w) 8 ("_law_judged", none) ["bag", "p", "many", "wide", "triples"] (sp__law_judged K)) (G__law_made : OkF P w K mg base (L2N.CX P w) 9 ("_law_made", none) ["bag", "p", "many", "wide", "asked", "spread"] (sp__law_made K)) (G__law_pick : OkF P w K mg base (L2N.CX P w) 2 ("_law_pick", none) ["bag", "menu"] sp__law_pick) (G__law_points : OkF P w K mg base (L2N.CX P w) 3 ("_law_points", none) ["bag", "p", "size"] sp__law_points) (G__law_refused : OkF P w K mg base (L2N.CX P w) 8 ("_law_refused", none) ["bag", "p", "many", "wide"] (sp__law_refused K)) (G__law_same : OkF P w K mg base (L2N.CX P w) 6 ("_law_same", none) ["told", "due"] sp__law_same) : FnOk P w K mg base CX0 10 (He.fAd K ("law", none)) fd ["script"] (sp_law K) := by
  refine (F.ok sc_f_law (fun vs H Q E h => ?_) (fun cdv A outer s H vs Q E hr h => ⟨t_f_law K, PSs.nox ?_, pure_law K vs H Q E h⟩))
  · obtain ⟨_, _, rfl, _⟩ := h; rfl
  · exact (pss_cons (ps_set (i := 1) sc_f_law.nd rfl (Or.inl rfl) (pe_own G__law_bag (hr.mono (by omega)) rfl T.g__law_bag passN (pa_cons (pv 0) pa_nil)))
    (pss_cons (ps_set (i := 2) sc_f_law.nd rfl (Or.inr rfl) (pe_own G__law_pick (hr.mono (by omega)) rfl T.g__law_pick passN (pa_cons (pv 1) (pa_cons (pe_lst (pa_cons pe_int (pa_cons pe_int (pa_cons pe_int (pa_cons pe_int (pa_cons pe_int (pa_cons pe_int (pa_cons pe_int (pa_cons pe_int (pa_cons pe_int pa_nil)))))))))) pa_nil))))
    (pss_cons (ps_asg (pe_tup (pa_cons (pe_op u_add pe_int (pe_own G__law_draw (hr.mono (by omega)) rfl T.g__law_draw passN (pa_cons (pv 1) (pa_cons (pe_own G__law_pick (hr.mono (by omega)) rfl T.g__law_pick passN (pa_cons (pv 1) (pa_cons (pe_lst (pa_cons pe_int (pa_cons pe_int (pa_cons pe_int (pa_cons pe_int pa_nil))))) pa_nil))) pa_nil)))) (pa_cons (pe_op u_add pe_int (pe_own G__law_draw (hr.mono (by omega)) rfl T.g__law_draw passN (pa_cons (pv 1) (pa_cons (pe_own G__law_pick (hr.mono (by omega)) rfl T.g__law_pick passN (pa_cons (pv 1) (pa_cons (pe_lst (pa_cons pe_int (pa_cons pe_int (pa_cons pe_int (pa_cons pe_int pa_nil))))) pa_nil))) pa_nil)))) pa_nil))) (pg_tup rfl (pgs_cons (pg_name (i := 3) sc_f_law.nd rfl (Or.inr rfl)) (pgs_cons (pg_name (i := 4) sc_f_law.nd rfl (Or.inr rfl)) pgs_nil))))
    (pss_cons (ps_set (i := 5) sc_f_law.nd rfl (Or.inr rfl) (pe_op op_sub (pe_op u_add (pv 3) (pv 4)) pe_int))
    (pss_cons (ps_set (i := 6) sc_f_law.nd rfl (Or.inl rfl) (pe_own G__law_default (hr.mono (by omega)) rfl T.g__law_default passN (pa_cons (pv 2) (pa_cons (pv 5) pa_nil))))
    (pss_cons (ps_if (pt_not (pt_val (pe_own G__law_refused (hr.mono (by omega)) rfl T.g__law_refused passN (pa_cons (pv 1) (pa_cons (pv 2) (pa_cons (pv 3) (pa_cons (pv 4) pa_nil))))))) (pss_one (ps_ret pe_bl)) pss_nil)
    (pss_cons (ps_set (i := 7) sc_f_law.nd rfl (Or.inl rfl) (pe_own G__law_pick (hr.mono (by omega)) rfl T.g__law_pick passN (pa_cons (pv 1) (pa_cons (pe_lst (pa_cons pe_str (pa_cons pe_str pa_nil))) pa_nil))))
    (pss_cons (ps_set (i := 8) sc_f_law.nd rfl (Or.inl rfl) (pe_own G__law_asked (hr.mono (by omega)) rfl T.g__law_asked passN (pa_cons (pv 7) (pa_cons (pv 2) (pa_cons (pv 3) (pa_cons (pv 4) (pa_cons pe_non pa_nil)))))))
    (pss_cut (ps_if (pt_cmpR op_isN (pv 6) pe_non (nomark _)) (pss_one (ps_if (pt_not (pt_val (pe_own G__law_same (hr.mono (by omega)) rfl T.g__law_same passN (pa_cons (pv 8) (pa_cons (pe_own G__law_due (hr.mono (by omega)) rfl T.g__law_due passN (pa_cons pe_str (pa_cons (pe_lst (pa_cons pe_str pa_nil)) pa_nil))) pa_nil))))) (pss_one (ps_ret pe_bl)) pss_nil)) (pss_one (ps_if (PW.pt (pw_or (pt_cmpR (u_eq (un64 hr)) (pe_own G__law_draw (hr.mono (by omega)) rfl T.g__law_draw passN (pa_cons (pv 1) (pa_cons pe_int pa_nil))) pe_int (nomark _)) (pw_or1 (PW.pt (pw_and (pt_cmpR u_gt (pv 2) pe_int (nomark _)) (pw_and1 (pt_cmpR u_gt (pv 5) (pe_op u_add (pv 2) pe_int) (nomark _)))))))) (pss_one (ps_if (pt_not (pt_val (pe_own G__law_made (hr.mono (by omega)) rfl T.g__law_made passN (pa_cons (pv 1) (pa_cons (pv 2) (pa_cons (pv 3) (pa_cons (pv 4) (pa_cons (pv 8) (pa_cons (pv 6) pa_nil))))))))) (pss_one (ps_ret pe_bl)) pss_nil)) (pss_cons (ps_set (i := 9) sc_f_law.nd rfl (Or.inl rfl) (pe_own G__law_points (hr.mono (by omega)) rfl T.g__law_points passN (pa_cons (pv 1) (pa_cons (pv 2) (pa_cons (pv 5) pa_nil)))))
    (pss_one (ps_if (pt_not (pt_val (pe_own G__law_made (hr.mono (by omega)) rfl T.g__law_made passN (pa_cons (pv 1) (pa_cons (pv 2) (pa_cons (pv 3) (pa_cons (pv 4) (pa_cons (pe_own G__law_asked (hr.mono (by omega)) rfl T.g__law_asked passN (pa_cons pe_str (pa_cons (pv 2) (pa_cons (pv 3) (pa_cons (pv 4) (pa_cons (pe_callTy u_list rfl T.b_list (by decide +kernel) (pa_cons (pv 9) pa_nil)) pa_nil)))))) (pa_cons (pv 9) pa_nil))))))))) (pss_one (ps_ret pe_bl)) pss_nil))))))
    (pss_cons (ps_set (i := 10) sc_f_law.nd rfl (Or.inl rfl) (pe_lst pa_nil))
    (pss_cons (ps_for PassesOwn.never rfl (pi_range1 rfl T.b_range (pa_cons (pv 3) pa_nil)) (pg_name (i := 11) sc_f_law.nd rfl (Or.inr rfl)) (pss_one (ps_set (i := 10) sc_f_law.nd rfl (Or.inl rfl) (pe_op u_add (pv 10) (pe_lc (own := [("j", 12)]) rfl sc_f_law.nd (pi_range1 rfl T.b_range (pa_cons (pv 4) pa_nil)) (blkOk_by (N := N_f_law) (sc := defScope s_f_law) (own := [("j", 12)]) (by decide +kernel)) (fun _ _ _ _ _ => (pg_name (i := 12) sc_f_law.nd rfl (Or.inl rfl))) (fun _ _ _ _ _ => pts_nil) (fun _ _ _ _ _ => (pe_tup (pa_cons (pe_own G__law_base (hr.mono (by omega)) rfl T.g__law_base passN (pa_cons (pv 2) (pa_cons (pv 5) (pa_cons (pe_op u_add (pv 11) (pv 12)) pa_nil)))) (pa_cons (pe_own G__law_base (hr.mono (by omega)) rfl T.g__law_base passN (pa_cons (pv 2) (pa_cons (pv 4) (pa_cons (pv 12) pa_nil)))) (pa_cons (pe_own G__law_base (hr.mono (by omega)) rfl T.g__law_base passN (pa_cons (pv 2) (pa_cons (pv 3) (pa_cons (pv 11) pa_nil)))) pa_nil))))))))))
    (pss_cons (ps_set (i := 10) sc_f_law.nd rfl (Or.inl rfl) (pe_ifExp (pt_cmpR (u_lt (un64 hr)) (pe_op u_mul (pv 3) (pv 4)) pe_int (nomark _)) (pe_own G__law_dressed (hr.mono (by omega)) rfl T.g__law_dressed passN (pa_cons (pv 1) (pa_cons (pv 2) (pa_cons (pv 10) pa_nil)))) (pv 10)))
    (pss_one (ps_ret (pe_and (pe_own G__law_judged (hr.mono (by omega)) rfl T.g__law_judged passN (pa_cons (pv 1) (pa_cons (pv 2) (pa_cons (pv 3) (pa_cons (pv 4) (pa_cons (pv 10) pa_nil)))))) (pe_one (pe_own G__law_judged (hr.mono (by omega)) rfl T.g__law_judged passN (pa_cons (pv 1) (pa_cons (pv 2) (pa_cons (pv 3) (pa_cons (pv 4) (pa_cons (pe_lst pa_nil) pa_nil))))))))))))))))))))))
end
end TwW
set_option maxHeartbeats 0
namespace TwW
open Tw PySem PySem.Spec PyProof.Rows L2 Evl RZ L2H
theorem factsL {P : Program} {w : World} {K : PySem.W.Frag} {h : Heap} {mg : Str → Option Value} {f : Addr} (X : K.In h) (G : h.Ns mainGlobals mg) (hfa : mg ("law" : Str) = some (.ref f)) (cx : He.SaysX faL fnL [] [("errs_window", none)] exL w h K) :
    ∃ fd : FuncData, (∀ (s : Shared) (v : Value), BindsTo s fd ⟨[v], []⟩ [("script", v)]) ∧ ∀ base : Heap, K.In base → base.Ns mainGlobals mg → LamX.TabB base mg (He.cT K ("errs_window", none)).1 (He.cT K ("errs_window", none)).2 → FnOk P w K mg base CX0 10 f fd ["script"] (sp_law K) := by
  have c := cx.t.d
  have y0 : exL K = true := cx.more
  unfold exL at y0
  obtain ⟨x0, y1⟩ := He.ba y0
  obtain ⟨x1, y2⟩ := He.ba y1
  obtain ⟨x2, y3⟩ := He.ba y2
  obtain ⟨x3, y4⟩ := He.ba y3
  obtain ⟨x4, y5⟩ := He.ba y4
  obtain ⟨x5, y6⟩ := He.ba y5
  obtain ⟨x6, y7⟩ := He.ba y6
  obtain ⟨x7, y8⟩ := He.ba y7
  obtain ⟨x8, y9⟩ := He.ba y8
  obtain ⟨x9, y10⟩ := He.ba y9
  obtain ⟨x10, y11⟩ := He.ba y10
  obtain ⟨x11, y12⟩ := He.ba y11
  obtain ⟨x12, y13⟩ := He.ba y12
  obtain ⟨x13, y14⟩ := He.ba y13
  obtain ⟨x14, y15⟩ := He.ba y14
  obtain ⟨x15, y16⟩ := He.ba y15
  obtain ⟨x16, y17⟩ := He.ba y16
  obtain ⟨x17, y18⟩ := He.ba y17
  obtain ⟨x18, y19⟩ := He.ba y18
  obtain ⟨x19, x20⟩ := He.ba y19
  have T : Txt K mg := {
    b_abs := He.free_ok X G (c.fact 0 (f := .free "abs") rfl),
    b_any := He.free_ok X G (c.fact 1 (f := .free "any") rfl),
    b_bool := He.free_ok X G (c.fact 2 (f := .free "bool") rfl),
    b_int := He.free_ok X G (c.fact 3 (f := .free "int") rfl),
    b_isinstance := He.free_ok X G (c.fact 4 (f := .free "isinstance") rfl),
    b_len := He.free_ok X G (c.fact 5 (f := .free "len") rfl),
    b_list := He.free_ok X G (c.fact 6 (f := .free "list") rfl),
    b_max := He.free_ok X G (c.fact 7 (f := .free "max") rfl),
    b_min := He.free_ok X G (c.fact 8 (f := .free "min") rfl),
    b_range := He.free_ok X G (c.fact 9 (f := .free "range") rfl),
    b_str := He.free_ok X G (c.fact 10 (f := .free "str") rfl),
    b_sum := He.free_ok X G (c.fact 11 (f := .free "sum") rfl),
    b_tuple := He.free_ok X G (c.fact 12 (f := .free "tuple") rfl),
    b_zip := He.free_ok X G (c.fact 13 (f := .free "zip") rfl),
    c_FAR := He.str_ok X G (c.fact 14 (f := .str "FAR" "far") rfl),
    c_GREATEST_PRIME := He.int_ok X G (c.fact 15 (f := .int "GREATEST_PRIME" 10007) rfl),
    c_MOST_PRODUCTS := He.int_ok X G (c.fact 16 (f := .int "MOST_PRODUCTS" 60) rfl),
    c_MOST_SIZE := He.int_ok X G (c.fact 17 (f := .int "MOST_SIZE" 12) rfl),
    cl_Ground := He.cls_ok (c.fact 18 (f := .cls "Ground") rfl),
    cl_LeftRight := He.cls_ok (c.fact 19 (f := .cls "LeftRight") rfl),
    ex_BadPoints := ⟨oexB_ok x0, He.eqO_ok x1, of_decide_eq_true x2, He.glo_ok X G (c.fact 20 (f := .glo "BadPoints") rfl)⟩,
    ex_TooMany := ⟨oexB_ok x3, He.eqO_ok x4, of_decide_eq_true x5, He.glo_ok X G (c.fact 21 (f := .glo "TooMany") rfl)⟩,
    ex_Unlike := ⟨oexB_ok x6, He.eqO_ok x7, of_decide_eq_true x8, He.glo_ok X G (c.fact 22 (f := .glo "Unlike") rfl)⟩,
    g_BadFormula := He.glo_ok X G (c.fact 23 (f := .glo "BadFormula") rfl),
    g_BadGround := He.glo_ok X G (c.fact 24 (f := .glo "BadGround") rfl),
    g_BadName := He.glo_ok X G (c.fact 25 (f := .glo "BadName") rfl),
    g_BadNumber := He.glo_ok X G (c.fact 26 (f := .glo "BadNumber") rfl),
    g_BadPoints := He.glo_ok X G (c.fact 20 (f := .glo "BadPoints") rfl),
    g_BadProgram := He.glo_ok X G (c.fact 27 (f := .glo "BadProgram") rfl),
    g_BadScript := He.glo_ok X G (c.fact 28 (f := .glo "BadScript") rfl),
    g_BadTable := He.glo_ok X G (c.fact 29 (f := .glo "BadTable") rfl),
    g_Broken := He.glo_ok X G (c.fact 30 (f := .glo "Broken") rfl),
    g_Endless := He.glo_ok X G (c.fact 31 (f := .glo "Endless") rfl),
    g_Enough := He.glo_ok X G (c.fact 32 (f := .glo "Enough") rfl),
    g_Ground := He.glo_ok X G (c.fact 33 (f := .glo "Ground") rfl),
    g_LeftRight := He.glo_ok X G (c.fact 34 (f := .glo "LeftRight") rfl),
    g_NoSuch := He.glo_ok X G (c.fact 35 (f := .glo "NoSuch") rfl),
    g_NotLeast := He.glo_ok X G (c.fact 36 (f := .glo "NotLeast") rfl),
    g_NotLow := He.glo_ok X G (c.fact 37 (f := .glo "NotLow") rfl),
    g_NotRight := He.glo_ok X G (c.fact 38 (f := .glo "NotRight") rfl),
    g_NothingLeft := He.glo_ok X G (c.fact 39 (f := .glo "NothingLeft") rfl),
    g_Refused := He.glo_ok X G (c.fact 40 (f := .glo "Refused") rfl),
    g_Stops := He.glo_ok X G (c.fact 41 (f := .glo "Stops") rfl),
    g_TooMany := He.glo_ok X G (c.fact 21 (f := .glo "TooMany") rfl),
    g_Unlike := He.glo_ok X G (c.fact 22 (f := .glo "Unlike") rfl),
    g__first_unlike := He.glo_ok X G (c.fact 42 (f := .glo "_first_unlike") rfl),
    g__law_add := He.glo_ok X G (c.fact 43 (f := .glo "_law_add") rfl),
    g__law_asked := He.glo_ok X G (c.fact 44 (f := .glo "_law_asked") rfl),
    g__law_bag := He.glo_ok X G (c.fact 45 (f := .glo "_law_bag") rfl),
    g__law_base := He.glo_ok X G (c.fact 46 (f := .glo "_law_base") rfl),
    g__law_bent := He.glo_ok X G (c.fact 47 (f := .glo "_law_bent") rfl),
    g__law_combined := He.glo_ok X G (c.fact 48 (f := .glo "_law_combined") rfl),
    g__law_copied := He.glo_ok X G (c.fact 49 (f := .glo "_law_copied") rfl),
    g__law_default := He.glo_ok X G (c.fact 50 (f := .glo "_law_default") rfl),
    g__law_dot := He.glo_ok X G (c.fact 51 (f := .glo "_law_dot") rfl),
    g__law_draw := He.glo_ok X G (c.fact 52 (f := .glo "_law_draw") rfl),
    g__law_dressed := He.glo_ok X G (c.fact 53 (f := .glo "_law_dressed") rfl),
    g__law_due := He.glo_ok X G (c.fact 54 (f := .glo "_law_due") rfl),
    g__law_fault := He.glo_ok X G (c.fact 55 (f := .glo "_law_fault") rfl),
    g__law_first := He.glo_ok X G (c.fact 56 (f := .glo "_law_first") rfl),
    g__law_gcd := He.glo_ok X G (c.fact 57 (f := .glo "_law_gcd") rfl),
    g__law_int := He.glo_ok X G (c.fact 58 (f := .glo "_law_int") rfl),
    g__law_inv := He.glo_ok X G (c.fact 59 (f := .glo "_law_inv") rfl),
    g__law_judged := He.glo_ok X G (c.fact 60 (f := .glo "_law_judged") rfl),
    g__law_lagrange := He.glo_ok X G (c.fact 61 (f := .glo "_law_lagrange") rfl),
    g__law_line := He.glo_ok X G (c.fact 62 (f := .glo "_law_line") rfl),
    g__law_made := He.glo_ok X G (c.fact 63 (f := .glo "_law_made") rfl),
    g__law_mixed := He.glo_ok X G (c.fact 64 (f := .glo "_law_mixed") rfl),
    g__law_mul := He.glo_ok X G (c.fact 65 (f := .glo "_law_mul") rfl),
    g__law_neg := He.glo_ok X G (c.fact 66 (f := .glo "_law_neg") rfl),
    g__law_num := He.glo_ok X G (c.fact 67 (f := .glo "_law_num") rfl),
    g__law_pick := He.glo_ok X G (c.fact 68 (f := .glo "_law_pick") rfl),
    g__law_points := He.glo_ok X G (c.fact 69 (f := .glo "_law_points") rfl),
    g__law_powers := He.glo_ok X G (c.fact 70 (f := .glo "_law_powers") rfl),
    g__law_refused := He.glo_ok X G (c.fact 71 (f := .glo "_law_refused") rfl),
    g__law_row := He.glo_ok X G (c.fact 72 (f := .glo "_law_row") rfl),
    g__law_same := He.glo_ok X G (c.fact 73 (f := .glo "_law_same") rfl),
    g__law_small := He.glo_ok X G (c.fact 74 (f := .glo "_law_small") rfl),
    g__law_times := He.glo_ok X G (c.fact 75 (f := .glo "_law_times") rfl),
    g__law_unit := He.glo_ok X G (c.fact 76 (f := .glo "_law_unit") rfl),
    g__law_zeros := He.glo_ok X G (c.fact 77 (f := .glo "_law_zeros") rfl),
    g_blend := He.glo_ok X G (c.fact 78 (f := .glo "blend") rfl),
    g_check_lengths := He.glo_ok X G (c.fact 79 (f := .glo "check_lengths") rfl),
    g_checked_points := He.glo_ok X G (c.fact 80 (f := .glo "checked_points") rfl),
    g_default_points := He.glo_ok X G (c.fact 81 (f := .glo "default_points") rfl),
    g_dot := He.glo_ok X G (c.fact 82 (f := .glo "dot") rfl),
    g_errs_window := He.glo_ok X G (c.fact 83 (f := .glo "errs_window") rfl),
    g_inverse_modulo := He.glo_ok X G (c.fact 84 (f := .glo "inverse_modulo") rfl),
    g_is_odd_prime := He.glo_ok X G (c.fact 85 (f := .glo "is_odd_prime") rfl),
    g_lowest := He.glo_ok X G (c.fact 86 (f := .glo "lowest") rfl),
    g_one_of := He.glo_ok X G (c.fact 87 (f := .glo "one_of") rfl),
    g_powers_at := He.glo_ok X G (c.fact 88 (f := .glo "powers_at") rfl),
    g_prime_of_line := He.glo_ok X G (c.fact 89 (f := .glo "prime_of_line") rfl),
    g_rectangle := He.glo_ok X G (c.fact 90 (f := .glo "rectangle") rfl),
    g_scaled := He.glo_ok X G (c.fact 91 (f := .glo "scaled") rfl),
    g_turn := He.glo_ok X G (c.fact 92 (f := .glo "turn") rfl),
    g_unit_row := He.glo_ok X G (c.fact 93 (f := .glo "unit_row") rfl),
    g_unsigned := He.glo_ok X G (c.fact 94 (f := .glo "unsigned") rfl),
    g_value_rows := He.glo_ok X G (c.fact 95 (f := .glo "value_rows") rfl),
    g_window := He.glo_ok X G (c.fact 96 (f := .glo "window") rfl),
    g_zero_of := He.glo_ok X G (c.fact 97 (f := .glo "zero_of") rfl),
    i_gcd := PySem.W.mg_of X G (He.eqO_ok x9),
    m_Ground_div := He.meth_ok (c.fact 98 (f := .meth "Ground" "div") rfl),
    m_Ground_mul := He.meth_ok (c.fact 99 (f := .meth "Ground" "mul") rfl),
    m_Ground_number := He.meth_ok (c.fact 100 (f := .meth "Ground" "number") rfl),
    m_Ground_sub := He.meth_ok (c.fact 101 (f := .meth "Ground" "sub") rfl),
    m_LeftRight_sizes := He.meth_ok (c.fact 102 (f := .meth "LeftRight" "sizes") rfl),
    m_LeftRight_tells := He.meth_ok (c.fact 103 (f := .meth "LeftRight" "tells") rfl),
    m_LeftRight_triples := He.meth_ok (c.fact 104 (f := .meth "LeftRight" "triples") rfl),
    mk_Ground := He.mkr_ok (c.fact 105 (f := .mkr "Ground") rfl),
    mk_LeftRight := He.mkr_ok (c.fact 106 (f := .mkr "LeftRight") rfl),
    no_at := hot3 (He.noat_ok (c.fact 107 (f := .noat "TooMany" "at") rfl)) (He.noat_ok (c.fact 108 (f := .noat "BadPoints" "at") rfl)) (He.noat_ok (c.fact 109 (f := .noat "Unlike" "at") rfl)),
    no_code := hot3 (He.noat_ok (c.fact 110 (f := .noat "TooMany" "code") rfl)) (He.noat_ok (c.fact 111 (f := .noat "BadPoints" "code") rfl)) (He.noat_ok (c.fact 112 (f := .noat "Unlike" "code") rfl)),
    no_condition := hot3 (He.noat_ok (c.fact 113 (f := .noat "TooMany" "condition") rfl)) (He.noat_ok (c.fact 114 (f := .noat "BadPoints" "condition") rfl)) (He.noat_ok (c.fact 115 (f := .noat "Unlike" "condition") rfl)),
    no_cost := hot3 (He.noat_ok (c.fact 116 (f := .noat "TooMany" "cost") rfl)) (He.noat_ok (c.fact 117 (f := .noat "BadPoints" "cost") rfl)) (He.noat_ok (c.fact 118 (f := .noat "Unlike" "cost") rfl)),
    no_count := hot3 (He.noat_ok (c.fact 119 (f := .noat "TooMany" "count") rfl)) (He.noat_ok (c.fact 120 (f := .noat "BadPoints" "count") rfl)) (He.noat_ok (c.fact 121 (f := .noat "Unlike" "count") rfl)),
    no_line := hot3 (He.noat_ok (c.fact 122 (f := .noat "TooMany" "line") rfl)) (He.noat_ok (c.fact 123 (f := .noat "BadPoints" "line") rfl)) (He.noat_ok (c.fact 124 (f := .noat "Unlike" "line") rfl)),
    no_name := hot3 (He.noat_ok (c.fact 125 (f := .noat "TooMany" "name") rfl)) (He.noat_ok (c.fact 126 (f := .noat "BadPoints" "name") rfl)) (He.noat_ok (c.fact 127 (f := .noat "Unlike" "name") rfl)),
    no_place := hot3 (He.noat_ok (c.fact 128 (f := .noat "TooMany" "place") rfl)) (He.noat_ok (c.fact 129 (f := .noat "BadPoints" "place") rfl)) (He.noat_ok (c.fact 130 (f := .noat "Unlike" "place") rfl)),
    no_what := hot3 (He.noat_ok (c.fact 131 (f := .noat "TooMany" "what") rfl)) (He.noat_ok (c.fact 132 (f := .noat "BadPoints" "what") rfl)) (He.noat_ok (c.fact 133 (f := .noat "Unlike" "what") rfl)),
    no_where := hot3 (He.noat_ok (c.fact 134 (f := .noat "TooMany" "where") rfl)) (He.noat_ok (c.fact 135 (f := .noat "BadPoints" "where") rfl)) (He.noat_ok (c.fact 136 (f := .noat "Unlike" "where") rfl)),
    no_why := hot3 (He.noat_ok (c.fact 137 (f := .noat "TooMany" "why") rfl)) (He.noat_ok (c.fact 138 (f := .noat "BadPoints" "why") rfl)) (He.noat_ok (c.fact 139 (f := .noat "Unlike" "why") rfl)),
    xf := hot3 ((excB_ok x10).1) ((excB_ok x11).1) ((excB_ok x12).1),
    gr := ⟨He.cls_ok (c.fact 18 (f := .cls "Ground") rfl), He.noat_ok (c.fact 140 (f := .noat "Ground" "prime") rfl), He.noat_ok (c.fact 141 (f := .noat "Ground" "line") rfl)⟩,
    lr := ⟨He.cls_ok (c.fact 19 (f := .cls "LeftRight") rfl), He.noat_ok (c.fact 142 (f := .noat "LeftRight" "ground") rfl), He.noat_ok (c.fact 143 (f := .noat "LeftRight" "_sizes") rfl), He.noat_ok (c.fact 144 (f := .noat "LeftRight" "_triples") rfl)⟩,
    tm := ⟨oexB_ok x3, He.noat_ok (c.fact 110 (f := .noat "TooMany" "code") rfl), He.noat_ok (c.fact 131 (f := .noat "TooMany" "what") rfl), He.noat_ok (c.fact 119 (f := .noat "TooMany" "count") rfl)⟩,
    bp := ⟨oexB_ok x0, He.noat_ok (c.fact 111 (f := .noat "BadPoints" "code") rfl), He.noat_ok (c.fact 138 (f := .noat "BadPoints" "why") rfl)⟩,
    ul := ⟨oexB_ok x6, He.noat_ok (c.fact 112 (f := .noat "Unlike" "code") rfl), He.noat_ok (c.fact 133 (f := .noat "Unlike" "what") rfl)⟩,
    ft := hot3 (⟨(excB_ok x10).2, fun x hx => of_decide_eq_true (List.all_eq_true.mp x13 x hx), by decide +kernel⟩) (⟨(excB_ok x11).2, fun x hx => of_decide_eq_true (List.all_eq_true.mp x14 x hx), by decide +kernel⟩) (⟨(excB_ok x12).2, fun x hx => of_decide_eq_true (List.all_eq_true.mp x15 x hx), by decide +kernel⟩),
    ask := ⟨hot3 (He.exm_ok (c.fact 145 (f := .exm "TooMany" "Refused" true) rfl)) (He.exm_ok (c.fact 146 (f := .exm "BadPoints" "Refused" true) rfl)) (He.exm_ok (c.fact 147 (f := .exm "Unlike" "Refused" true) rfl))⟩,
    law := ⟨of_decide_eq_true x16, of_decide_eq_true x17, of_decide_eq_true x18, of_decide_eq_true x19, of_decide_eq_true x20⟩}
  obtain ⟨fd0, F0⟩ := c.def_ 0 (d := d_f_law_gcd) rfl
  obtain ⟨fd1, F1⟩ := c.def_ 1 (d := d_f_law_num) rfl
  obtain ⟨fd2, F2⟩ := c.def_ 2 (d := d_f_law_int) rfl
  obtain ⟨fd3, F3⟩ := c.def_ 3 (d := d_f_law_add) rfl
  obtain ⟨fd4, F4⟩ := c.def_ 4 (d := d_f_law_mul) rfl
  obtain ⟨fd5, F5⟩ := c.def_ 5 (d := d_f_law_neg) rfl
  obtain ⟨fd6, F6⟩ := c.def_ 6 (d := d_f_law_inv) rfl
  obtain ⟨fd7, F7⟩ := c.def_ 7 (d := d_f_law_draw) rfl
  obtain ⟨fd8, F8⟩ := c.def_ 8 (d := d_f_law_pick) rfl
  obtain ⟨fd9, F9⟩ := c.def_ 9 (d := d_f_law_small) rfl
  obtain ⟨fd10, F10⟩ := c.def_ 10 (d := d_f_law_row) rfl
  obtain ⟨fd11, F11⟩ := c.def_ 11 (d := d_f_law_bag) rfl
  obtain ⟨fd12, F12⟩ := c.def_ 12 (d := d_f_law_line) rfl
  obtain ⟨fd13, F13⟩ := c.def_ 13 (d := d_f_law_copied) rfl
  obtain ⟨fd14, F14⟩ := c.def_ 14 (d := d_f_law_same) rfl
  obtain ⟨fd15, F15⟩ := c.def_ 15 (d := d_f_law_due) rfl
  obtain ⟨fd16, F16⟩ := c.def_ 16 (d := d_f_law_zeros) rfl
  obtain ⟨fd17, F17⟩ := c.def_ 17 (d := d_f_law_base) rfl
  obtain ⟨fd18, F18⟩ := c.def_ 18 (d := d_f_law_times) rfl
  obtain ⟨fd19, F19⟩ := c.def_ 19 (d := d_f_law_dot) rfl
  obtain ⟨fd20, F20⟩ := c.def_ 20 (d := d_f_law_combined) rfl
  obtain ⟨fd21, F21⟩ := c.def_ 21 (d := d_f_law_powers) rfl
  obtain ⟨fd22, F22⟩ := c.def_ 22 (d := d_f_law_unit) rfl
  obtain ⟨fd23, F23⟩ := c.def_ 23 (d := d_f_law_mixed) rfl
  obtain ⟨fd24, F24⟩ := c.def_ 24 (d := d_f_law_points) rfl
  obtain ⟨fd25, F25⟩ := c.def_ 25 (d := d_f_law_lagrange) rfl
  obtain ⟨fd26, F26⟩ := c.def_ 26 (d := d_f_law_dressed) rfl
  obtain ⟨fd27, F27⟩ := c.def_ 27 (d := d_f_law_default) rfl
  obtain ⟨fd28, F28⟩ := c.def_ 28 (d := d_f_law_first) rfl
  obtain ⟨fd29, F29⟩ := c.def_ 29 (d := d_f_law_bent) rfl
  obtain ⟨fd30, F30⟩ := c.def_ 30 (d := d_f_inverse_modulo) rfl
  obtain ⟨fd31, F31⟩ := c.def_ 31 (d := d_m_Ground_number) rfl
  obtain ⟨fd32, F32⟩ := c.def_ 32 (d := d_f_lowest) rfl
  obtain ⟨fd33, F33⟩ := c.def_ 33 (d := d_m_Ground_sub) rfl
  obtain ⟨fd34, F34⟩ := c.def_ 34 (d := d_m_Ground_mul) rfl
  obtain ⟨fd35, F35⟩ := c.def_ 35 (d := d_m_Ground_div) rfl
  obtain ⟨fd36, F36⟩ := c.def_ 36 (d := d_f_zero_of) rfl
  obtain ⟨fd37, F37⟩ := c.def_ 37 (d := d_f_one_of) rfl
  obtain ⟨fd38, F38⟩ := c.def_ 38 (d := d_f_unit_row) rfl
  obtain ⟨fd39, F39⟩ := c.def_ 39 (d := d_f_dot) rfl
  obtain ⟨fd40, F40⟩ := c.def_ 40 (d := d_f_blend) rfl
  obtain ⟨fd41, F41⟩ := c.def_ 41 (d := d_f_scaled) rfl
  obtain ⟨fd42, F42⟩ := c.def_ 42 (d := d_m_LeftRight_init) rfl
  obtain ⟨fd43, F43⟩ := c.def_ 43 (d := d_m_LeftRight_sizes) rfl
  obtain ⟨fd44, F44⟩ := c.def_ 44 (d := d_m_LeftRight_triples) rfl
  obtain ⟨fd45, F45⟩ := c.def_ 45 (d := d_m_LeftRight_tells) rfl
  obtain ⟨fd46, F46⟩ := c.def_ 46 (d := d_f_value_rows) rfl
  obtain ⟨fd47, F47⟩ := c.def_ 47 (d := d_m_TooMany_init) rfl
  obtain ⟨fd48, F48⟩ := c.def_ 48 (d := d_m_BadPoints_init) rfl
  obtain ⟨fd49, F49⟩ := c.def_ 49 (d := d_m_Unlike_init) rfl
  obtain ⟨fd50, F50⟩ := c.def_ 50 (d := d_f_check_lengths) rfl
  obtain ⟨fd51, F51⟩ := c.def_ 51 (d := d_f_default_points) rfl
  obtain ⟨fd52, F52⟩ := c.def_ 52 (d := d_f_checked_points) rfl
  obtain ⟨fd53, F53⟩ := c.def_ 53 (d := d_f_powers_at) rfl
  obtain ⟨fd54, F54⟩ := c.def_ 54 (d := d_f_rectangle) rfl
  obtain ⟨fd55, F55⟩ := c.def_ 55 (d := d_f_turn) rfl
  obtain ⟨fd56, F56⟩ := c.def_ 56 (d := d_f_window) rfl
  obtain ⟨fd57, F57⟩ := c.def_ 57 (d := d_f_first_unlike) rfl
  obtain ⟨fd58, F58⟩ := c.def_ 58 (d := d_f_errs_window) rfl
  obtain ⟨fd59, F59⟩ := c.def_ 59 (d := d_f_unsigned) rfl
  obtain ⟨fd60, F60⟩ := c.def_ 60 (d := d_f_is_odd_prime) rfl
  obtain ⟨fd61, F61⟩ := c.def_ 61 (d := d_f_prime_of_line) rfl
  obtain ⟨fd62, F62⟩ := c.def_ 62 (d := d_m_Ground_init) rfl
  obtain ⟨fd63, F63⟩ := c.def_ 63 (d := d_f_law_fault) rfl
  obtain ⟨fd64, F64⟩ := c.def_ 64 (d := d_f_law_asked) rfl
  obtain ⟨fd65, F65⟩ := c.def_ 65 (d := d_f_law_judged) rfl
  obtain ⟨fd66, F66⟩ := c.def_ 66 (d := d_f_law_refused) rfl
  obtain ⟨fd67, F67⟩ := c.def_ 67 (d := d_f_law_made) rfl
  obtain ⟨fd68, F68⟩ := c.def_ 68 (d := d_f_law) rfl
  have e := hfa.symm.trans (He.glo_ok X G (c.fact 148 (f := .glo "law") rfl))
  cases e
  have b := FunD.bindsA (ps := ["script"]) F68 fun _ _ _ _ _ _ us hl => match us, hl with | [_], _ => rfl
  refine ⟨fd68, fun s v => b s [v] rfl, fun base _ _ TB0 => ?_⟩
  have G__law_gcd := ok_f_law_gcd (P := P) (w := w) (base := base) T F0 
  have G__law_num := ok_f_law_num (P := P) (w := w) (base := base) T F1 G__law_gcd
  have G__law_int := ok_f_law_int (P := P) (w := w) (base := base) T F2 
  have G__law_add := ok_f_law_add (P := P) (w := w) (base := base) T F3 G__law_num
  have G__law_mul := ok_f_law_mul (P := P) (w := w) (base := base) T F4 G__law_num
  have G__law_neg := ok_f_law_neg (P := P) (w := w) (base := base) T F5 
  have G__law_inv := ok_f_law_inv (P := P) (w := w) (base := base) T F6 G__law_num
  have G__law_draw := ok_f_law_draw (P := P) (w := w) (base := base) T F7 
  have G__law_pick := ok_f_law_pick (P := P) (w := w) (base := base) T F8 G__law_draw
  have G__law_pickT := ok_f_law_pickT (P := P) (w := w) (base := base) T F8 G__law_draw
  have G__law_small := ok_f_law_small (P := P) (w := w) (base := base) T F9 G__law_draw G__law_num G__law_pick
  have G__law_row := ok_f_law_row (P := P) (w := w) (base := base) T F10 G__law_small
  have G__law_bag := ok_f_law_bag (P := P) (w := w) (base := base) T F11 
  have G__law_line := ok_f_law_line (P := P) (w := w) (base := base) T F12 
  have G__law_copied := ok_f_law_copied (P := P) (w := w) (base := base) T F13  5
  have G__law_same := ok_f_law_same (P := P) (w := w) (base := base) T F14  5
  have G__law_due := ok_f_law_due (P := P) (w := w) (base := base) T F15 
  have G__law_zeros := ok_f_law_zeros (P := P) (w := w) (base := base) T F16 G__law_int
  have G__law_base := ok_f_law_base (P := P) (w := w) (base := base) T F17 G__law_int
  have G__law_times := ok_f_law_times (P := P) (w := w) (base := base) T F18 G__law_mul
  have G__law_dot := ok_f_law_dot (P := P) (w := w) (base := base) T F19 G__law_gcd G__law_num
  have G__law_combined := ok_f_law_combined (P := P) (w := w) (base := base) T F20 G__law_dot
  have G__law_powers := ok_f_law_powers (P := P) (w := w) (base := base) T F21 G__law_base G__law_int G__law_mul
  have G__law_unit := ok_f_law_unit (P := P) (w := w) (base := base) T F22 G__law_draw G__law_num G__law_pick
  have G__law_mixed := ok_f_law_mixed (P := P) (w := w) (base := base) T F23 G__law_draw
  have G__law_points := ok_f_law_points (P := P) (w := w) (base := base) T F24 G__law_draw G__law_mixed
  have G__law_lagrange := ok_f_law_lagrange (P := P) (w := w) (base := base) T F25 G__law_add G__law_int G__law_inv G__law_mul G__law_neg G__law_times G__law_zeros
  have G__law_dressed := ok_f_law_dressed (P := P) (w := w) (base := base) T F26 G__law_inv G__law_mixed G__law_mul G__law_times G__law_unit
  have G__law_default := ok_f_law_default (P := P) (w := w) (base := base) T F27 
  have G__law_first := ok_f_law_first (P := P) (w := w) (base := base) T F28 G__law_base G__law_combined G__law_mul G__law_zeros
  have G__law_bent := ok_f_law_bent (P := P) (w := w) (base := base) T F29 G__law_add G__law_copied G__law_draw G__law_pick G__law_pickT G__law_unit
  have G_inverse_modulo := ok_f_inverse_modulo (P := P) (w := w) (base := base) T F30 
  have f_m_Ground_number := fn_m_Ground_number (P := P) (w := w) (base := base) T F31 G_inverse_modulo
  have G_Ground_number := ok_m_Ground_number F31 f_m_Ground_number
  have G_Ground_number1 := ok_m_Ground_number1 F31 f_m_Ground_number
  have G_lowest := ok_f_lowest (P := P) (w := w) (base := base) T F32 
  have G_Ground_sub := ok_m_Ground_sub (P := P) (w := w) (base := base) T F33 G_Ground_number
  have G_Ground_mul := ok_m_Ground_mul (P := P) (w := w) (base := base) T F34 G_Ground_number
  have G_Ground_div := ok_m_Ground_div (P := P) (w := w) (base := base) T F35 G_Ground_number G_Ground_number1 G_inverse_modulo
  have G_zero_of := ok_f_zero_of (P := P) (w := w) (base := base) T F36 
  have G_one_of := ok_f_one_of (P := P) (w := w) (base := base) T F37 
  have G_unit_row := ok_f_unit_row (P := P) (w := w) (base := base) T F38 G_one_of G_zero_of
  have G_dot := ok_f_dot (P := P) (w := w) (base := base) T F39 G_lowest
  have G_blend := ok_f_blend (P := P) (w := w) (base := base) T F40 G_dot G_zero_of
  have G_scaled := ok_f_scaled (P := P) (w := w) (base := base) T F41 G_lowest
  have G_LeftRight_init := ok_m_LeftRight_init (P := P) (w := w) (base := base) T F42 
  have G_LeftRight_sizes := ok_m_LeftRight_sizes (P := P) (w := w) (base := base) T F43 
  have G_LeftRight_triples := ok_m_LeftRight_triples (P := P) (w := w) (base := base) T F44 
  have G_LeftRight_tells := ok_m_LeftRight_tells (P := P) (w := w) (base := base) T F45 G_Ground_mul G_blend G_dot
  have G_value_rows := ok_f_value_rows (P := P) (w := w) (base := base) T F46 G_Ground_div G_Ground_mul G_Ground_sub G_one_of G_scaled G_zero_of
  have G_TooMany_init := ok_m_TooMany_init (P := P) (w := w) (base := base) T F47 
  have G_BadPoints_init := ok_m_BadPoints_init (P := P) (w := w) (base := base) T F48 
  have G_Unlike_init := ok_m_Unlike_init (P := P) (w := w) (base := base) T F49 
  have G_check_lengths := ok_f_check_lengths (P := P) (w := w) (base := base) T F50 G_TooMany_init
  have G_default_points := ok_f_default_points (P := P) (w := w) (base := base) T F51 G_BadPoints_init G_Ground_number1
  have G_checked_points := ok_f_checked_points (P := P) (w := w) (base := base) T F52 G_BadPoints_init
  have G_powers_at := ok_f_powers_at (P := P) (w := w) (base := base) T F53 G_Ground_mul G_Ground_number1
  have f_f_rectangle := fn_f_rectangle (P := P) (w := w) (base := base) T F54 G_LeftRight_init G_check_lengths G_checked_points G_default_points G_powers_at G_value_rows
  have W_rectangle := okw_f_rectangle F54 f_f_rectangle
  have G_turn := ok_f_turn (P := P) (w := w) (base := base) T F55 G_LeftRight_init G_LeftRight_sizes G_LeftRight_triples
  have f_f_window := fn_f_window (P := P) (w := w) (base := base) T F56 W_rectangle G_turn
  have W_window := okw_f_window F56 f_f_window
  obtain ⟨dk56, K_window⟩ := okk_f_window F56 f_f_window
  have S_errs_window := ok_f_errs_window (P := P) (w := w) (base := base) T F58 F57 TB0 G_Ground_mul G_LeftRight_sizes G_LeftRight_triples G_blend G_zero_of G_Unlike_init G_unit_row
  have f_f_unsigned := fn_f_unsigned (P := P) (w := w) (base := base) T F59 
  have G_unsigned := ok_f_unsigned F59 f_f_unsigned
  have G_is_odd_prime := ok_f_is_odd_prime (P := P) (w := w) (base := base) T F60 
  have G_prime_of_line := ok_f_prime_of_line (P := P) (w := w) (base := base) T F61 G_is_odd_prime G_unsigned
  have G_Ground_init := ok_m_Ground_init (P := P) (w := w) (base := base) T F62 G_prime_of_line
  have G__law_fault := ok_f_law_fault (P := P) (w := w) (base := base) T F63 
  have G__law_asked := ok_f_law_asked (P := P) (w := w) (base := base) T F64 G_Ground_init G__law_copied G__law_fault G__law_line G__law_same S_errs_window W_window K_window
  have G__law_judged := ok_f_law_judged (P := P) (w := w) (base := base) T F65 G_Ground_init G_LeftRight_init G__law_asked G__law_bent G__law_copied G__law_due G__law_first G__law_line G__law_pick G__law_same
  have G__law_refused := ok_f_law_refused (P := P) (w := w) (base := base) T F66 G__law_asked G__law_draw G__law_due G__law_pick G__law_points G__law_same
  have G__law_made := ok_f_law_made (P := P) (w := w) (base := base) T F67 G_LeftRight_sizes G_LeftRight_tells G_LeftRight_triples G__law_asked G__law_dot G__law_judged G__law_lagrange G__law_line G__law_powers G__law_row G__law_same
  exact ok_f_law T F68 G__law_asked G__law_bag G__law_base G__law_default G__law_draw G__law_dressed G__law_due G__law_judged G__law_made G__law_pick G__law_points G__law_refused G__law_same
end TwW
open PySem PySem.Calls PySem.W PyProof.Rows
theorem PySem.Challenge.cw_twiceless_k82_windows_holds : PySem.Challenge.rw_twiceless_k82_windows.Holds := by
  w_on; o_law
  refine HandSHeadRun.head_imp (r := TwW.RL) (q := TwW.qL) (H := TwW.hkL) (ob := TwW.obL) (M := 20000) (loose := TwW.looseL) (d := HandSHeadRun.topDef TwW.RL.prog 111) (kwd := []) TwW.obL_eq
    TwW.runL (by kernel_rfl) (by kernel_rfl) (by kernel_rfl) (by rfl) (by first | assumption | decide +kernel) (by decide +kernel) ⟨rfl, rfl, rfl, rfl, rfl, by decide +kernel⟩ ?hw ?hc
  case hw => w_witness2
  case hc =>
    refine LamX.walk_ofTsE (l := PySem.Challenge.rw_twiceless_k82_windows) (n := 63) (k := 10) (x := "script") (CX := fun _ => L2.CX0) rfl (by decide) (by kernel_rfl) ⟨rfl, by decide, by decide⟩ ?F (fun _ _ _ _ _ z => z)
    intro w mg fa h Y G hmg0
    obtain ⟨K, KX, c⟩ := Y
    have hmg : mg ("law" : PySem.Str) = some (.ref fa) := by
      have e : (HandSHeadRun.topDef TwW.RL.prog 111).name = ("law" : PySem.Str) := by kernel_rfl
      rw [← e]
      exact hmg0
    obtain ⟨fd, hb, hF⟩ := TwW.factsL (P := PySem.Challenge.pw_twiceless_k82_windows) (w := w) KX G hmg c
    have one : ∀ {Pr : PySem.Addr × PySem.Addr → Prop}, Pr (He.cT K ("errs_window", none)) → ∀ p ∈ [He.cT K ("errs_window", none)], Pr p := fun h p hp => by rw [List.mem_singleton.mp hp]; exact h
    exact ⟨K, KX, fd, [He.cT K ("errs_window", none)], TwW.sp_law K, one (c.empty _ (List.mem_singleton.mpr rfl)), one (c.out _ (List.mem_singleton.mpr rfl)), one (PySem.W.codeHd_of_K KX (c.hd _ (List.mem_singleton.mpr rfl))), hb,
      fun H a ns hl _ hT hS => ⟨a, ns, rfl, hS, hl, fun pq hpq => by rw [List.mem_singleton.mp hpq]; exact LamX.TabS.nil (hT _ (List.mem_singleton.mpr rfl)), fun _ => rfl⟩, fun base i1 i2 TB => hF base i1 i2 (TB _ (List.mem_singleton.mpr rfl))⟩
