import PyProof.Rows.All
import Wide.All
import OpenK.AllK
import Wide.FinOn
import HandS.ForMost
import HandS.IsInst
import HandS.SortInts
import HandS.More
import HandS.Evl
import HandS.Defaults
import HandS.Head0
import HandS.Head1
import HandS.Head2
import HandS.HeadEnd
import HandS.HeadHook1
import HandS.HeadHook2
import KE.KStateDown
import Lean
import PySem.Challenge.RW_oathcoin_k68_carriers
set_option Elab.async false
set_option linter.all false
set_option maxRecDepth 100000
set_option maxHeartbeats 0
/-! Lay: my own layer over the hand layer: rules that look at the values, defs bundled with what a call asks. -/
namespace Y
open PySem PySem.Spec PyProof.Rows L2
section
variable {X : Cx}

/-! ### a subscript by values: list, tuple, dict, text -/
def rdIx (K : PySem.W.Frag) : R2 := fun x y H Q => match x with
  | .ref p => (∃ xs i v, y = .int i ∧ (SqL K H p xs ∨ SqT K H p xs) ∧ atI xs i = some v ∧ Q v H) ∨ (∃ v, DGet H p y (some v) ∧ Q v H)
  | .str z => ∃ i c, y = .int i ∧ z.length ≤ sizeLine ∧ atI z.cps.toList i = some c ∧ Q (.str ⟨#[c]⟩) H
  | _ => False
theorem ix_dict (hu : X.A.units + 1 < cLine) : IxR X (fun x y H Q => ∃ p v, x = .ref p ∧ DGet H p y (some v) ∧ Q v H) := by
  intro value slice pins s σ H x y v u Q I rx ry h hs
  obtain ⟨p, z, rfl, g, q⟩ := h
  obtain rfl : v = Value.ref p := rx
  have hT := dict_typeIs I g
  unfold subscriptTail
  refine wpAny_bind ?_
  rw [getitemInPython_of_ne hT.not_modules]
  refine wpAny_bind (wpAny_specialOf hT PySem.F.slot_dict_getitem.lookup ?_)
  have fin : wpAny (model X.prog X.w) X.A (subscripted slice false (Value.ref p) u) (fun r s₃ => wpAny (model X.prog X.w) X.A (letTemporaryGo value (Value.ref p) r >>= fun _ => pure r) (EP X pins σ Q) X.xe s₃) X.xe s := by
    rw [hs]
    exact wpAny_operating (d_getItem hu I g ry fun w' s3 I3 rw' => wpAny_bind (wpAny_letTemporaryGo (wpAny_pure ⟨z, H, I3, rw', q⟩)))
  exact wpAny_pure (wpAny_bind fin)
theorem y_ix (hu : X.A.units + 1 < cLine) : IxR X (rdIx X.K) := by
  intro value slice pins s σ H x y v u Q I rx ry h hs
  cases x with
  | ref p =>
    rcases h with ⟨xs, i, z, rfl, hq, ha, q⟩ | ⟨z, g, q⟩
    · rcases hq with hq | hq
      · exact ix_list value slice pins s σ H _ _ v u Q I rx ry ⟨p, xs, i, z, rfl, rfl, hq, ha, q⟩ hs
      · exact ix_tup value slice pins s σ H _ _ v u Q I rx ry ⟨p, xs, i, z, rfl, rfl, hq, ha, q⟩ hs
    · exact ix_dict hu value slice pins s σ H _ _ v u Q I rx ry ⟨p, z, rfl, g, q⟩ hs
  | str z =>
    obtain ⟨i, c, rfl, h1, h2, q⟩ := h
    exact ix_str value slice pins s σ H _ _ v u Q I rx ry ⟨z, i, c, rfl, rfl, h1, h2, q⟩ hs
  | _ => exact h.elim

/-! ### == and != -/
def rdEq (K : PySem.W.Frag) : R2 := fun x y H Q => (scal x y = true ∧ Q (.bl (decide (x = y))) H) ∨ rEqD K x y H Q
def rdNe (K : PySem.W.Frag) : R2 := fun x y H Q => (scal x y = true ∧ Q (.bl (!decide (x = y))) H) ∨ rNeD K x y H Q
theorem y_eq (hu : X.A.units + 64 < cLine) : OpR X (compareOp .Eq) (rdEq X.K) := OpR.or op_eq (op_eqD hu)
theorem y_ne (hu : X.A.units + 64 < cLine) : OpR X (compareOp .NotEq) (rdNe X.K) := OpR.or op_ne (op_neD hu)

/-! ### in, not in -/
theorem op_in_dict (hu : X.A.units + 1 < cLine) : OpR X (compareOp .In) (fun x y H Q => ∃ a o, y = .ref a ∧ DGet H a x o ∧ Q (.bl o.isSome) H) := by
  intro pins s σ H x y v u Q I rx ry h
  obtain ⟨a, o, rfl, g, q⟩ := h
  obtain rfl : u = Value.ref a := ry
  exact d_in hu I g rx fun s3 I3 => ⟨.bl o.isSome, H, I3, rfl, q⟩
theorem op_notIn_dict (hu : X.A.units + 1 < cLine) : OpR X (compareOp .NotIn) (fun x y H Q => ∃ a o, y = .ref a ∧ DGet H a x o ∧ Q (.bl (!o.isSome)) H) := by
  intro pins s σ H x y v u Q I rx ry h
  obtain ⟨a, o, rfl, g, q⟩ := h
  obtain rfl : u = Value.ref a := ry
  exact d_notIn hu I g rx fun s3 I3 => ⟨.bl (!o.isSome), H, I3, rfl, q⟩
def rdIn (K : PySem.W.Frag) : R2 := fun x y H Q => (∃ a o, y = .ref a ∧ DGet H a x o ∧ Q (.bl o.isSome) H) ∨ rIn K false x y H Q
def rdNotIn (K : PySem.W.Frag) : R2 := fun x y H Q => (∃ a o, y = .ref a ∧ DGet H a x o ∧ Q (.bl (!o.isSome)) H) ∨ rIn K true x y H Q
theorem y_in (hu : X.A.units + 1 < cLine) : OpR X (compareOp .In) (rdIn X.K) := OpR.or (op_in_dict hu) op_in_seq
theorem y_notin (hu : X.A.units + 1 < cLine) : OpR X (compareOp .NotIn) (rdNotIn X.K) := OpR.or (op_notIn_dict hu) op_notIn_seq

/-! ### len -/
def rdLen (K : PySem.W.Frag) : List V → Hp → VK → Prop := fun vs H Q => (∃ x n, vs = [x] ∧ LenV K x H n ∧ Q (.int n) H) ∨ (∃ a kvs, vs = [V.ref a] ∧ H a = some (.dK kvs) ∧ Q (.int kvs.length) H)
theorem y_len : CallR X (.builtin "len") (rdLen X.K) := CallR.or call_len call_lenD

/-! ### o[i] = v -/
def rdSet : V → V → V → Hp → (Hp → Prop) → Prop := fun o i v H Q => rSetL o i v H Q ∨ ∃ a H', o = .ref a ∧ DPut H a i v H' ∧ Q H'
theorem set_dict (hu : X.A.units + 1 < cLine) : PSet X (fun o i v H Q => ∃ a H', o = .ref a ∧ DPut H a i v H' ∧ Q H') := by
  intro pins s σ H o i v ov iv u Q I ro ri rv h
  obtain ⟨a, H', rfl, g, q⟩ := h
  obtain rfl : ov = Value.ref a := ro
  exact d_setItem hu I g ri rv fun s' I' => ⟨H', I', q⟩
theorem y_set (hu : X.A.units + 1 < cLine) : PSet X rdSet := by
  intro pins s σ H o i v ov iv u Q I ro ri rv h
  rcases h with h | h
  · exact set_list pins s σ H o i v ov iv u Q I ro ri rv h
  · exact set_dict hu pins s σ H o i v ov iv u Q I ro ri rv h

/-! ### for x in a list or a tuple -/
def rdIter (K : PySem.W.Frag) (tl : TE) : TI := fun σ H R => tl σ H fun x H1 => ∃ a, x = .ref a ∧ (((∃ xs, SqL K H1 a xs) ∧ R (Itl K a) H1) ∨ ((∃ xs, SqT K H1 a xs) ∧ R (Itt K a) H1))
theorem y_iter {tg l : Expr} {tl : TE} (hl : PE X l tl) : PI X tg l (rdIter X.K tl) := by
  refine ⟨fun pins s σ H R I h => ?_⟩
  refine thn (hl.run pins s σ H _ I h) fun v s1 ⟨x, H1, I1, r1, q1⟩ => ?_
  obtain ⟨a, e, q⟩ := q1
  subst e
  cases r1
  rcases q with ⟨⟨xs, hq⟩, q⟩ | ⟨⟨xs, hq⟩, q⟩
  · obtain ⟨its, rv, p, hz⟩ := I1.list hq
    refine wpAny_pyIter_list p.isList ?_
    refine ⟨s1.heap.objs.size, [s1.heap.objs.size], _, _, H1, rfl, I1.kept (t' := s1.toks) fun b o e => Heap.get?_push_of_some _ e, turn_list a _, ⟨_, Heap.get?_push_size _ rfl, rfl, rfl⟩, fun b hb => ?_, q⟩
    have e : b = s1.heap.objs.size := by simpa using hb
    subst e
    exact I1.fpOk (Nat.le_refl _) (I1.hok.fresh (Nat.le_refl _))
  · obtain ⟨its, rv, p, hz⟩ := I1.tuple hq
    refine wpAny_pyIter_tuple p ?_
    refine ⟨s1.heap.objs.size, [s1.heap.objs.size], _, _, H1, rfl, I1.kept (t' := s1.toks) fun b o e => Heap.get?_push_of_some _ e, turn_tuple a _, ⟨_, Heap.get?_push_size _ rfl, rfl, rfl⟩, fun b hb => ?_, q⟩
    have e : b = s1.heap.objs.size := by simpa using hb
    subst e
    exact I1.fpOk (Nat.le_refl _) (I1.hok.fresh (Nat.le_refl _))

/-! ### calls, the callee bundled -/
end
structure Hf (P : Program) (w : World) (K : PySem.W.Frag) (mg : Str → Option Value) (base : Heap) (k : Nat) (x : Str) (ps : List Str) (sp : Sp) : Prop where
  ex : ∃ f fd, mg x = some (.ref f) ∧ PySem.W.keepIn K (.ref f) = true ∧ Binds K fd ps [] ∧ FnOk P w K mg base CX0 k f fd ps sp
structure Hm (P : Program) (w : World) (K : PySem.W.Frag) (mg : Str → Option Value) (base : Heap) (k : Nat) (C : Addr) (m : Str) (ps : List Str) (sp : Sp) : Prop where
  cl : Cls K C
  ex : ∃ f fd, Meth K C m f ∧ Binds K fd ps [] ∧ FnOk P w K mg base CX0 k f fd ps sp
structure Hc (P : Program) (w : World) (K : PySem.W.Frag) (mg : Str → Option Value) (base : Heap) (k : Nat) (x : Str) (C : Addr) (ps : List Str) (sp : Sp) : Prop where
  at_ : mg x = some (.ref C)
  ex : ∃ f fd, Mk K C f ∧ Binds K fd ps [] ∧ FnOk P w K mg base CX0 k f fd ps sp
section
variable {X : Cx} {k kk : Nat} {C : Addr} {ps : List Str} {sp : Sp} {x m : Str} {p pos apos : Pos} {e o : Expr} {es : List Expr} {ta : TE} {t : TA}
theorem y_call (G : Hf X.prog X.w X.K X.mg X.base k x ps sp) (hr : Room kk X.A) (hg : Gl X x) (ha : PA X (e :: es) t) (hk : k ≤ kk := by decide)
    (hdb : (x == ("__debug__" : Str)) = false := by decide) (he : starEach (e :: es) X.env = (false, eval e X.env) :: starEach es X.env := by rfl) (hpl : (backTo pos (starEach es X.env)).any (·.1) = false := by rfl) :
    PE X (.Call (.Name x p) (e :: es) [] pos) (tCall sp [] E0 t) := by
  obtain ⟨f, fd, hm, hkp, hb, F⟩ := G.ex
  exact pe_call F (hr.mono hk) hg hm hkp hb .nil pass0 ha hdb he hpl
theorem y_call0 (G : Hf X.prog X.w X.K X.mg X.base k x ps sp) (hr : Room kk X.A) (hg : Gl X x) (hk : k ≤ kk := by decide)
    (hdb : (x == ("__debug__" : Str)) = false := by decide) : PE X (.Call (.Name x p) [] [] pos) (tCall sp [] E0 tNil) := by
  obtain ⟨f, fd, hm, hkp, hb, F⟩ := G.ex
  exact pe_call0 F (hr.mono hk) hg hm hkp hb .nil pass0 hdb
theorem y_meth {pl : Sem Bool} (G : Hm X.prog X.w X.K X.mg X.base k C m ps sp) (hr : Room kk X.A) (ho : PE X o ta) (ha : PA X (e :: es) t) (hk : k ≤ kk := by decide)
    (hst : starEach (e :: es) X.env = (false, eval e X.env) :: starEach es X.env := by rfl) (hpl : (backTo pos (starEach es X.env)).any (·.1) = false := by rfl)
    (ht : eval (.Call (.Attribute o m apos) (e :: es) [] pos) X.env = (do
      let ov ← eval o X.env
      standAt apos.atName
      let (f, first) ← holding [ov] (getMethod ov m pl)
      callWith pos f first (backTo pos (starEach (e :: es) X.env)) (backToKw pos (keywordEach [] X.env))) := by rfl) :
    PE X (.Call (.Attribute o m apos) (e :: es) [] pos) (tMeth C m sp [] E0 ta t) := by
  obtain ⟨f, fd, hm, hb, F⟩ := G.ex
  exact pe_meth ho G.cl hm F (hr.mono hk) hb .nil pass0 ha hst hpl ht
theorem y_meth0 {pl : Sem Bool} (G : Hm X.prog X.w X.K X.mg X.base k C m ps sp) (hr : Room kk X.A) (ho : PE X o ta) (hk : k ≤ kk := by decide)
    (ht : eval (.Call (.Attribute o m apos) [] [] pos) X.env = (do
      let ov ← eval o X.env
      standAt apos.atName
      let (f, first) ← holding [ov] (getMethod ov m pl)
      callWith pos f first (backTo pos (starEach [] X.env)) (backToKw pos (keywordEach [] X.env))) := by rfl) :
    PE X (.Call (.Attribute o m apos) [] [] pos) (tMeth C m sp [] E0 ta tNil) := by
  obtain ⟨f, fd, hm, hb, F⟩ := G.ex
  exact pe_meth0 ho G.cl hm F (hr.mono hk) hb .nil pass0 ht
theorem y_make (G : Hc X.prog X.w X.K X.mg X.base k x C ps sp) (hr : Room kk X.A) (hg : Gl X x) (ha : PA X (e :: es) t) (hk : k + 1 ≤ kk := by decide)
    (hdb : (x == ("__debug__" : Str)) = false := by decide) (he : starEach (e :: es) X.env = (false, eval e X.env) :: starEach es X.env := by rfl) (hpl : (backTo pos (starEach es X.env)).any (·.1) = false := by rfl) :
    PE X (.Call (.Name x p) (e :: es) [] pos) (tMake C sp [] E0 t) := by
  obtain ⟨f, fd, hm, hb, F⟩ := G.ex
  exact pe_make hm F (hr.mono hk) hg G.at_ hb .nil pass0 ha hdb he hpl
theorem y_make0 (G : Hc X.prog X.w X.K X.mg X.base k x C ps sp) (hr : Room kk X.A) (hg : Gl X x) (hk : k + 1 ≤ kk := by decide)
    (hdb : (x == ("__debug__" : Str)) = false := by decide) : PE X (.Call (.Name x p) [] [] pos) (tMake C sp [] E0 tNil) := by
  obtain ⟨f, fd, hm, hb, F⟩ := G.ex
  exact pe_make0 hm F (hr.mono hk) hg G.at_ hb .nil pass0 hdb
theorem fn_false {P : Program} {w : World} {K : PySem.W.Frag} {mg : Str → Option Value} {base : Heap} {CX : CXT} {k : Nat} {f : Addr} {fd : FuncData} {ps : List Str} {sp : Sp} (h : ∀ vs H Q E, ¬ sp vs H Q E) : FnOk P w K mg base CX k f fd ps sp :=
  ⟨fun _ _ _ _ x => (h _ _ _ _ x).elim, fun _ _ _ _ _ _ _ _ _ _ _ _ _ x => (h _ _ _ _ x).elim⟩
theorem hu1 {A : Around} {k : Nat} (hr : Room k A) : A.units + 1 < cLine := hu_of hr
theorem hu64 {A : Around} {k : Nat} (hr : Room k A) : A.units + 64 < cLine := hr.units
end
end Y
namespace Y
open PySem PySem.Spec PyProof.Rows L2
/-! ### readings by short names, as gen.py prints them -/
def r_add : R2 := fun x y H Q => match x, y with
  | .int i, .int j => Q (.int (i + j)) H
  | .str i, .str j => i.length + j.length ≤ sizeLine ∧ Q (.str (i ++ j)) H
  | _, _ => False
def r_sub : R2 := rI0 fun i j => .int (i - j)
def r_mul : R2 := rI CMul fun i j => .int (i * j)
def r_fdiv : R2 := rI CDiv fun i j => .int (i / j)
def r_mod : R2 := rI (fun _ j => 0 < j) fun i j => .int (i % j)
def r_pow : R2 := rI CPow fun i j => .int (i ^ j.toNat)
def r_lt : R2 := rI0 fun i j => .bl (decide (i < j))
def r_le : R2 := rI0 fun i j => .bl (decide (i ≤ j))
def r_gt : R2 := rI0 fun i j => .bl (decide (j < i))
def r_ge : R2 := rI0 fun i j => .bl (decide (j ≤ i))
def r_isN : R2 := fun x y H Q => y = .non ∧ Q (.bl (decide (x = .non))) H
def r_notN : R2 := fun x y H Q => y = .non ∧ Q (.bl (!decide (x = .non))) H
def r_neg : V → Hp → VK → Prop := rU fun i => .int (-i)
def r_abs : List V → Hp → VK → Prop := fun xs H Q => ∃ i, xs = [.int i] ∧ Q (.int (if i < 0 then -i else i)) H
def r_max2 : List V → Hp → VK → Prop := fun xs H Q => ∃ i j, xs = [.int i, .int j] ∧ Q (.int (if j > i then j else i)) H
def r_min2 : List V → Hp → VK → Prop := fun xs H Q => ∃ i j, xs = [.int i, .int j] ∧ Q (.int (if j < i then j else i)) H
def r_int1 : List V → Hp → VK → Prop := fun xs H Q => (∃ i, xs = [.int i] ∧ Q (.int i) H) ∨ ∃ k, xs = [.bl k] ∧ Q (.int (if k then 1 else 0)) H
def r_bool1 : List V → Hp → VK → Prop := fun xs H Q => (∃ i, xs = [.int i] ∧ Q (.bl (i != 0)) H) ∨ ∃ k, xs = [.bl k] ∧ Q (.bl k) H
def r_listof (K : PySem.W.Frag) : List V → Hp → VK → Prop := fun xs H Q => ∃ p ys, xs = [.ref p] ∧ (SqL K H p ys ∨ SqT K H p ys) ∧ ∀ l, H l = none → Q (.ref l) (upd H l (.lst ys))
def r_tupof (K : PySem.W.Frag) : List V → Hp → VK → Prop := fun xs H Q => ∃ p ys, xs = [.ref p] ∧ ((SqL K H p ys ∧ ∀ l, H l = none → Q (.ref l) (upd H l (.tup ys))) ∨ (SqT K H p ys ∧ Q (.ref p) H))
def r_insert : V → List V → Hp → VK → Prop := fun x vs H Q => ∃ (l : Addr) (xs : List V) (i : Int) (y : V), x = .ref l ∧ vs = [.int i, y] ∧ H l = some (.lst xs) ∧ xs.length < sizeLine ∧ 0 ≤ i ∧ i < 2 ^ 63 ∧ Q .non (upd H l (.lst (xs.take i.toNat ++ [y] ++ xs.drop i.toNat)))
def tTru (K : PySem.W.Frag) (ta : TE) : TT := fun σ H Q => ta σ H fun x H' => ∃ k, TruV K x H' k ∧ Q k H'
section
variable {X : Cx} {a : Expr} {ta : TE}
theorem o_add : OpR X (binaryOp .Add) r_add := by
  intro pins s σ H x y v u Q I rx ry h
  cases x with
  | int i => cases y with
    | int j => exact op_add pins s σ H _ _ v u Q I rx ry ⟨i, j, rfl, rfl, h⟩
    | _ => exact h.elim
  | str i => cases y with
    | str j => exact op_add_str pins s σ H _ _ v u Q I rx ry ⟨i, j, rfl, rfl, h⟩
    | _ => exact h.elim
  | _ => exact h.elim
theorem o_sub : OpR X (binaryOp .Sub) r_sub := op_sub
theorem o_mul : OpR X (binaryOp .Mult) r_mul := op_mul
theorem o_fdiv : OpR X (binaryOp .FloorDiv) r_fdiv := op_fdiv
theorem o_mod : OpR X (binaryOp .Mod) r_mod := op_mod
theorem o_pow : OpR X (binaryOp .Pow) r_pow := op_pow
theorem o_lt : OpR X (compareOp .Lt) r_lt := op_lt
theorem o_le : OpR X (compareOp .LtE) r_le := op_le
theorem o_gt : OpR X (compareOp .Gt) r_gt := op_gt
theorem o_ge : OpR X (compareOp .GtE) r_ge := op_ge
theorem o_isN : OpR X (compareOp .Is) r_isN := op_isN
theorem o_notN : OpR X (compareOp .IsNot) r_notN := op_notN
theorem y_truth (ha : PE X a ta) (he : ∀ whole, isTrue a X.env whole = (do let v ← whole; standAt a.pos; holding [v] (truthy v))) : PT X a (tTru X.K ta) := pt_truth ha he
end
end Y

/-! Steps: one lemma a combinator of the readings, for stepping with reducible unification. -/
namespace Y
open PySem PySem.Spec PyProof.Rows L2
section
variable {K : PySem.W.Frag} {σ : L2.St} {H : Hp} {D : Ends} {t u : TS} {te ta tb tc : TE} {tx : TA} {tt tu : TT} {g : TG} {gs : TGs} {Q : VK} {QA : List V → Hp → Prop} {QB : Bool → Hp → Prop} {QS : L2.St → Hp → Prop} {i : Nat} {v x y : V} {vs : List V} {r : R2}
theorem s_seq (h : t { D with nx := u D } σ H) : tSeq t u D σ H := h
theorem s_next (h : D.nx σ H) : tNext D σ H := h
theorem s_asg (h : te σ H fun x H1 => g x σ H1 D.nx) : tAsg te g D σ H := h
theorem s_gname (h : QS (σ.set i (some v)) H) : gName i v σ H QS := h
theorem s_drop (h : te σ H fun _ H1 => D.nx σ H1) : tDrop te D σ H := h
theorem s_ret (h : te σ H D.rt) : tRet te D σ H := h
theorem s_retN (h : D.rt .non H) : tRetN D σ H := h
theorem s_brk (h : D.bk σ H) : tBreak D σ H := h
theorem s_cont (h : D.ct σ H) : tCont D σ H := h
theorem s_if (h : tt σ H fun b H1 => if b = true then t D σ H1 else u D σ H1) : tIfS tt t u D σ H := h
theorem s_var (h : σ[i]? = some (some v)) (k : Q v H) : tVar i σ H Q := ⟨v, h, k⟩
theorem s_c (k : Q v H) : tC v σ H Q := k
theorem s_op (k : ta σ H fun x H1 => tb σ H1 fun y H2 => r x y H2 Q) : tOp r ta tb σ H Q := k
theorem s_un {r1 : V → Hp → VK → Prop} (k : ta σ H fun x H1 => r1 x H1 Q) : tUn r1 ta σ H Q := k
theorem s_nil (k : QA [] H) : tNil σ H QA := k
theorem s_cons (k : ta σ H fun x H1 => tx σ H1 fun xs H2 => QA (x :: xs) H2) : tCons ta tx σ H QA := k
theorem s_cb {rc : List V → Hp → VK → Prop} (k : tx σ H fun vs H1 => rc vs H1 Q) : tCB rc tx σ H Q := k
theorem s_test (k : te σ H fun x H' => ∃ c, x = .bl c ∧ QB c H') : tTest te σ H QB := k
theorem s_bl {b : Bool} {P : Bool → Prop} (k : P b) : ∃ c, V.bl b = V.bl c ∧ P c := ⟨b, rfl, k⟩
theorem s_tru (k : te σ H fun x H' => ∃ c, TruV K x H' c ∧ QB c H') : tTru K te σ H QB := k
theorem s_trubl {b : Bool} {P : Bool → Prop} (k : P b) : ∃ c, TruV K (V.bl b) H c ∧ P c := ⟨b, rfl, k⟩
theorem s_and (k : tt σ H fun c H1 => if c = true then tu σ H1 QB else QB false H1) : tAnd tt tu σ H QB := k
theorem s_or (k : tt σ H fun c H1 => if c = true then QB true H1 else tu σ H1 QB) : tOr tt tu σ H QB := k
theorem s_not (k : tt σ H fun c H1 => QB (!c) H1) : tNot tt σ H QB := k
theorem s_andV (k : ta σ H fun x H1 => ∃ c, x = .bl c ∧ if c = true then tb σ H1 Q else Q (.bl false) H1) : tAndV ta tb σ H Q := k
theorem s_orV (k : ta σ H fun x H1 => ∃ c, x = .bl c ∧ if c = true then Q (.bl true) H1 else tb σ H1 Q) : tOrV ta tb σ H Q := k
theorem s_notV (k : ta σ H fun x H1 => ∃ c, x = .bl c ∧ Q (.bl (!c)) H1) : tNotV ta σ H Q := k
theorem s_ifE (k : tt σ H fun c H1 => if c = true then ta σ H1 Q else tb σ H1 Q) : tIf tt ta tb σ H Q := k
theorem s_true {A B : Prop} (h : A) : if true = true then A else B := iteT h
theorem s_false {A B : Prop} (h : B) : if false = true then A else B := iteF h
theorem s_nfalse {A B : Prop} (h : A) : if (!false) = true then A else B := iteT h
theorem s_ntrue {A B : Prop} (h : B) : if (!true) = true then A else B := iteF h
theorem s_dec {p A B : Prop} [Decidable p] (h1 : p → A) (h2 : ¬ p → B) : if decide p = true then A else B := by
  by_cases h : p
  · rw [if_pos (decide_eq_true h)]; exact h1 h
  · rw [if_neg (by rw [decide_eq_false h]; decide)]; exact h2 h
theorem s_ndec {p A B : Prop} [Decidable p] (h1 : ¬ p → A) (h2 : p → B) : if (!decide p) = true then A else B := by
  by_cases h : p
  · rw [decide_eq_true h, if_neg (by decide)]; exact h2 h
  · rw [decide_eq_false h, if_pos (by decide)]; exact h1 h
theorem s_yes {p A B : Prop} [Decidable p] (hp : p) (h : A) : if decide p = true then A else B := s_dec (fun _ => h) (fun n => absurd hp n)
theorem s_no {p A B : Prop} [Decidable p] (hp : ¬ p) (h : B) : if decide p = true then A else B := s_dec (fun n => absurd n hp) (fun _ => h)
/-! operators -/
theorem s_add {i j : Int} (k : Q (.int (i + j)) H) : r_add (.int i) (.int j) H Q := k
theorem s_addS {i j : Str} (hl : i.length + j.length ≤ sizeLine) (k : Q (.str (i ++ j)) H) : r_add (.str i) (.str j) H Q := ⟨hl, k⟩
theorem s_sub {i j : Int} (k : Q (.int (i - j)) H) : r_sub (.int i) (.int j) H Q := ⟨i, j, rfl, rfl, k⟩
theorem s_mul {i j : Int} (c : CMul i j) (k : Q (.int (i * j)) H) : r_mul (.int i) (.int j) H Q := ⟨i, j, rfl, rfl, c, k⟩
theorem s_fdiv {i j : Int} (c : CDiv i j) (k : Q (.int (i / j)) H) : r_fdiv (.int i) (.int j) H Q := ⟨i, j, rfl, rfl, c, k⟩
theorem s_mod {i j : Int} (c : 0 < j) (k : Q (.int (i % j)) H) : r_mod (.int i) (.int j) H Q := ⟨i, j, rfl, rfl, c, k⟩
theorem s_pow {i j : Int} (c : CPow i j) (k : Q (.int (i ^ j.toNat)) H) : r_pow (.int i) (.int j) H Q := ⟨i, j, rfl, rfl, c, k⟩
theorem s_neg {i : Int} (k : Q (.int (-i)) H) : r_neg (.int i) H Q := ⟨i, rfl, k⟩
theorem s_lt {i j : Int} (k : Q (.bl (decide (i < j))) H) : r_lt (.int i) (.int j) H Q := ⟨i, j, rfl, rfl, k⟩
theorem s_le {i j : Int} (k : Q (.bl (decide (i ≤ j))) H) : r_le (.int i) (.int j) H Q := ⟨i, j, rfl, rfl, k⟩
theorem s_gt {i j : Int} (k : Q (.bl (decide (j < i))) H) : r_gt (.int i) (.int j) H Q := ⟨i, j, rfl, rfl, k⟩
theorem s_ge {i j : Int} (k : Q (.bl (decide (j ≤ i))) H) : r_ge (.int i) (.int j) H Q := ⟨i, j, rfl, rfl, k⟩
theorem s_isN_non (k : Q (.bl true) H) : r_isN .non .non H Q := ⟨rfl, by rw [decide_eq_true rfl]; exact k⟩
theorem s_isN_int {i : Int} (k : Q (.bl false) H) : r_isN (.int i) .non H Q := ⟨rfl, by rw [decide_eq_false (fun h => by cases h)]; exact k⟩
theorem s_isN_str {i : Str} (k : Q (.bl false) H) : r_isN (.str i) .non H Q := ⟨rfl, by rw [decide_eq_false (fun h => by cases h)]; exact k⟩
theorem s_isN_ref {i : Addr} (k : Q (.bl false) H) : r_isN (.ref i) .non H Q := ⟨rfl, by rw [decide_eq_false (fun h => by cases h)]; exact k⟩
theorem s_notN_non (k : Q (.bl false) H) : r_notN .non .non H Q := ⟨rfl, by rw [decide_eq_true rfl]; exact k⟩
theorem s_notN_int {i : Int} (k : Q (.bl true) H) : r_notN (.int i) .non H Q := ⟨rfl, by rw [decide_eq_false (fun h => by cases h)]; exact k⟩
theorem s_notN_str {i : Str} (k : Q (.bl true) H) : r_notN (.str i) .non H Q := ⟨rfl, by rw [decide_eq_false (fun h => by cases h)]; exact k⟩
theorem s_notN_ref {i : Addr} (k : Q (.bl true) H) : r_notN (.ref i) .non H Q := ⟨rfl, by rw [decide_eq_false (fun h => by cases h)]; exact k⟩
theorem s_abs {i : Int} (k : Q (.int (if i < 0 then -i else i)) H) : r_abs [.int i] H Q := ⟨i, rfl, k⟩
theorem s_max2 {i j : Int} (k : Q (.int (if j > i then j else i)) H) : r_max2 [.int i, .int j] H Q := ⟨i, j, rfl, k⟩
theorem s_min2 {i j : Int} (k : Q (.int (if j < i then j else i)) H) : r_min2 [.int i, .int j] H Q := ⟨i, j, rfl, k⟩
theorem s_int1 {i : Int} (k : Q (.int i) H) : r_int1 [.int i] H Q := .inl ⟨i, rfl, k⟩
/-! == of scalars -/
theorem s_eqI {i j : Int} (k : Q (.bl (decide (i = j))) H) : rdEq K (.int i) (.int j) H Q := .inl ⟨rfl, by
  have e : decide (V.int i = V.int j) = decide (i = j) := by simp only [V.int.injEq]
  rw [e]; exact k⟩
theorem s_eqNI {j : Int} (k : Q (.bl false) H) : rdEq K .non (.int j) H Q := .inl ⟨rfl, by rw [decide_eq_false (fun h => by cases h)]; exact k⟩
theorem s_neI {i j : Int} (k : Q (.bl (!decide (i = j))) H) : rdNe K (.int i) (.int j) H Q := .inl ⟨rfl, by
  have e : decide (V.int i = V.int j) = decide (i = j) := by simp only [V.int.injEq]
  rw [e]; exact k⟩
theorem s_eqS {i j : Str} (k : Q (.bl (decide (i = j))) H) : rdEq K (.str i) (.str j) H Q := .inl ⟨rfl, by
  have e : decide (V.str i = V.str j) = decide (i = j) := by simp only [V.str.injEq]
  rw [e]; exact k⟩
/-! heap -/
theorem s_lst (hl : vs.length ≤ sizeLine := by (show _ ≤ 16777216; simp)) (h : tx σ H fun xs H1 => xs = vs ∧ H1 = H) (k : ∀ p, H p = none → Q (.ref p) (upd H p (.lst vs)))
    (mono : ∀ (Q1 Q2 : List V → Hp → Prop), (∀ a b, Q1 a b → Q2 a b) → tx σ H Q1 → tx σ H Q2) : tLst tx σ H Q :=
  mono _ _ (fun a b e => by obtain ⟨rfl, rfl⟩ := e; exact ⟨hl, k⟩) h
theorem s_mklst (k : tx σ H fun xs H1 => xs.length ≤ sizeLine ∧ ∀ p, H1 p = none → Q (.ref p) (upd H1 p (.lst xs))) : tLst tx σ H Q := k
theorem s_mktup (k : tx σ H fun xs H1 => xs.length ≤ sizeLine ∧ ∀ p, H1 p = none → Q (.ref p) (upd H1 p (.tup xs))) : tTup tx σ H Q := k
theorem s_ixL {p : Addr} {xs : List V} {j : Int} (h : H p = some (.lst xs)) (ha : atI xs j = some v) (k : Q v H) : rdIx K (.ref p) (.int j) H Q := .inl ⟨xs, j, v, rfl, .inl (SqL.of h), ha, k⟩
theorem s_ixLs {p : Addr} {xs : List V} {j : Int} (h : SqL K H p xs) (ha : atI xs j = some v) (k : Q v H) : rdIx K (.ref p) (.int j) H Q := .inl ⟨xs, j, v, rfl, .inl h, ha, k⟩
theorem s_ixT {p : Addr} {xs : List V} {j : Int} (h : H p = some (.tup xs)) (ha : atI xs j = some v) (k : Q v H) : rdIx K (.ref p) (.int j) H Q := .inl ⟨xs, j, v, rfl, .inr (SqT.of h), ha, k⟩
theorem s_ixD {p : Addr} {kvs : List (Key × V)} {j : Key} (h : H p = some (.dK kvs)) (ha : valV kvs j = some v) (k : Q v H) : rdIx K (.ref p) (kV j) H Q := .inr ⟨v, by rw [← ha]; exact DGet.k h, k⟩
theorem s_fld {p C dx : Addr} {fs : List (Str × V)} {f : Str} (h : H p = some (.ins C dx fs)) (c : Cls K C) (n : NoAttr K C f) (l : fs.lookup f = some v) (hk : ta σ H fun x H1 => x = .ref p ∧ H1 = H)
    (mono : ∀ (Q1 Q2 : VK), (∀ a b, Q1 a b → Q2 a b) → ta σ H Q1 → ta σ H Q2) (k : Q v H) : tFld K ta f σ H Q :=
  mono _ _ (fun a b e => by obtain ⟨rfl, rfl⟩ := e; exact ⟨p, C, dx, fs, v, rfl, h, c, n, l, k⟩) hk
/-- a field of the object in a slot -/
theorem s_fldv {p C dx : Addr} {fs : List (Str × V)} {f : Str} (hv : σ[i]? = some (some (.ref p))) (h : H p = some (.ins C dx fs)) (c : Cls K C) (n : NoAttr K C f) (l : fs.lookup f = some v) (k : Q v H) : tFld K (tVar i) f σ H Q :=
  ⟨.ref p, hv, p, C, dx, fs, v, rfl, h, c, n, l, k⟩
theorem s_lenL {p : Addr} {xs : List V} (h : H p = some (.lst xs)) (k : Q (.int xs.length) H) : rdLen K [.ref p] H Q := .inl ⟨_, xs.length, rfl, .inl ⟨xs, SqL.of h, rfl⟩, k⟩
theorem s_lenLs {p : Addr} {xs : List V} (h : SqL K H p xs) (k : Q (.int xs.length) H) : rdLen K [.ref p] H Q := .inl ⟨_, xs.length, rfl, .inl ⟨xs, h, rfl⟩, k⟩
theorem s_lenT {p : Addr} {xs : List V} (h : H p = some (.tup xs)) (k : Q (.int xs.length) H) : rdLen K [.ref p] H Q := .inl ⟨_, xs.length, rfl, .inr ⟨xs, SqT.of h, rfl⟩, k⟩
theorem s_lenE {p : Addr} {xs : List V} (h : SqL K H p xs ∨ SqT K H p xs) (k : Q (.int xs.length) H) : rdLen K [.ref p] H Q := h.elim (fun h => .inl ⟨_, xs.length, rfl, .inl ⟨xs, h, rfl⟩, k⟩) (fun h => .inl ⟨_, xs.length, rfl, .inr ⟨xs, h, rfl⟩, k⟩)
theorem s_ixE {p : Addr} {xs : List V} {j : Int} (h : SqL K H p xs ∨ SqT K H p xs) (ha : atI xs j = some v) (k : Q v H) : rdIx K (.ref p) (.int j) H Q := .inl ⟨xs, j, v, rfl, h, ha, k⟩
theorem s_lenTs {p : Addr} {xs : List V} (h : SqT K H p xs) (k : Q (.int xs.length) H) : rdLen K [.ref p] H Q := .inl ⟨_, xs.length, rfl, .inr ⟨xs, h, rfl⟩, k⟩
theorem s_ixTs {p : Addr} {xs : List V} {j : Int} (h : SqT K H p xs) (ha : atI xs j = some v) (k : Q v H) : rdIx K (.ref p) (.int j) H Q := .inl ⟨xs, j, v, rfl, .inr h, ha, k⟩
theorem s_listof {p : Addr} {xs : List V} (h : H p = some (.lst xs)) (k : ∀ l, H l = none → Q (.ref l) (upd H l (.lst xs))) : r_listof K [.ref p] H Q := ⟨p, xs, rfl, .inl (SqL.of h), k⟩
/-- xs.append(e): the receiver at p -/
theorem s_bmL {rm : V → List V → Hp → VK → Prop} (k : ta σ H fun x H1 => tyV K "list" x H1 ∧ tx σ H1 fun xs H2 => rm x xs H2 Q) : tBM K "list" rm ta tx σ H Q := k
theorem s_tyL {p : Addr} {xs : List V} {P : Prop} (h : H p = some (.lst xs)) (k : P) : tyV K "list" (.ref p) H ∧ P := ⟨.inl ⟨rfl, xs, SqL.of h⟩, k⟩
theorem s_append {p : Addr} {xs : List V} (h : H p = some (.lst xs)) (hl : xs.length < sizeLine) (k : Q .non (upd H p (.lst (xs ++ [y])))) : rAppend (.ref p) [y] H Q := ⟨p, xs, y, rfl, rfl, h, hl, k⟩
theorem s_call {sp : Sp} {E : XK} (k : tx σ H fun vs H1 => sp vs H1 Q E) : tCall sp [] E tx σ H Q := by
  show tx σ H fun vs H1 => sp (vs ++ []) H1 Q E
  have e : (fun vs H1 => sp (vs ++ []) H1 Q E) = fun vs H1 => sp vs H1 Q E := by
    funext vs H1
    rw [List.append_nil]
  rw [e]
  exact k
theorem s_meth {sp : Sp} {C : Addr} {m : Str} {E : XK} (k : ta σ H fun x H1 => ∃ a dx fs, x = .ref a ∧ H1 a = some (.ins C dx fs) ∧ fs.lookup m = none ∧ tx σ H1 fun vs H2 => sp (x :: vs) H2 Q E) : tMeth C m sp [] E ta tx σ H Q := by
  show ta σ H fun x H1 => ∃ a dx fs, x = .ref a ∧ H1 a = some (.ins C dx fs) ∧ fs.lookup m = none ∧ tx σ H1 fun vs H2 => sp (x :: (vs ++ [])) H2 Q E
  have e : (fun x (H1 : Hp) => ∃ a dx fs, x = V.ref a ∧ H1 a = some (.ins C dx fs) ∧ fs.lookup m = none ∧ tx σ H1 fun vs H2 => sp (x :: (vs ++ [])) H2 Q E) = fun x H1 => ∃ a dx fs, x = .ref a ∧ H1 a = some (.ins C dx fs) ∧ fs.lookup m = none ∧ tx σ H1 fun vs H2 => sp (x :: vs) H2 Q E := by
    funext x H1
    simp only [List.append_nil]
  rw [e]
  exact k
theorem s_ixDS {p : Addr} {kvs : List (Key × V)} {x : Str} (h : H p = some (.dK kvs)) (ha : valV kvs (.inr x : Key) = some v) (k : Q v H) : rdIx K (.ref p) (.str x) H Q := s_ixD (j := .inr x) h ha k
theorem s_gsub {to ti : TE} {ts : TSet} (h : to σ H fun o H1 => ti σ H1 fun i H2 => ts o i v H2 fun H3 => QS σ H3) : gSub to ti ts v σ H QS := h
theorem s_setL {p : Addr} {xs : List V} {j : Int} {n : Nat} {QH : Hp → Prop} (h : H p = some (.lst xs)) (hj : ixN xs.length j = some n) (k : QH (upd H p (.lst (xs.set n v)))) : rdSet (.ref p) (.int j) v H QH := .inl ⟨p, xs, j, n, rfl, rfl, h, hj, k⟩
theorem s_setDS {p : Addr} {kvs : List (Key × V)} {x : Str} {QH : Hp → Prop} (h : H p = some (.dK kvs)) (hl : kvs.length < sizeLine) (k : QH (upd H p (.dK (putK kvs (.inr x : Key) v)))) : rdSet (.ref p) (.str x) v H QH := .inr ⟨p, _, rfl, DPut.k (k := .inr x) h hl, k⟩
theorem s_gtup {a : Addr} {xs : List V} {n : Nat} (h : H a = some (.tup xs)) (hl : xs.length = n) (k : gs xs σ H QS) : gTup K n gs (.ref a) σ H QS := ⟨a, xs, rfl, SqT.of h, hl, k⟩
theorem s_gnil (k : QS σ H) : gNil [] σ H QS := ⟨rfl, k⟩
theorem s_gcons {xs : List V} (k : g x σ H fun σ' H' => gs xs σ' H' QS) : gCons g gs (x :: xs) σ H QS := ⟨x, xs, rfl, k⟩
def rSetF (K : PySem.W.Frag) (f : Str) (y x : V) (H2 : Hp) (k : Hp → Prop) : Prop := ∃ a C dx fs, x = .ref a ∧ H2 a = some (.ins C dx fs) ∧ Cls K C ∧ NoAttr K C f ∧ fs.length < 1000 ∧ k (upd H2 a (.ins C dx (putF f y fs)))
theorem s_sfld {f : Str} (h : tb σ H fun y H1 => ta σ H1 fun x H2 => rSetF K f y x H2 fun H3 => D.nx σ H3) : sFld K ta tb f D σ H := h
theorem s_setf {f : Str} {a C dx : Addr} {fs : List (Str × V)} {k : Hp → Prop} (h : H a = some (.ins C dx fs)) (c : Cls K C) (n : NoAttr K C f) (hl : fs.length < 1000) (q : k (upd H a (.ins C dx (putF f y fs)))) : rSetF K f y (.ref a) H k := ⟨a, C, dx, fs, rfl, h, c, n, hl, q⟩
theorem s_sortedI {a : Addr} {ns : List Int} (h : H a = some (.lst (ns.map V.int))) (k : ∀ (ns' : List Int) (p : Addr), ns'.Perm ns → ns'.Pairwise (· ≤ ·) → H p = none → Q (.ref p) (upd H p (.lst (ns'.map V.int)))) : rSortedI K [.ref a] H Q := ⟨a, ns, rfl, SqL.of h, k⟩
theorem s_insert {a : Addr} {xs : List V} {j : Int} (h : H a = some (.lst xs)) (hl : xs.length < sizeLine) (h0 : 0 ≤ j) (h1 : j < 2 ^ 63) (k : Q .non (upd H a (.lst (xs.take j.toNat ++ [y] ++ xs.drop j.toNat)))) : r_insert (.ref a) [.int j, y] H Q := ⟨a, xs, j, y, rfl, rfl, h, hl, h0, h1, k⟩
theorem s_isi {T T' : String} {b : Bool} (ht : TyX K H x (.type T)) (hk : kitB T T' = some b) (k : Q (.bl b) H) : rIsi K [x, .ty T'] H Q := ⟨x, .ty T', .type T, .type T', b, rfl, .ty T', ht, kit_ty hk, k⟩
theorem tyx_lst {a : Addr} {xs : List V} (h : SqL K H a xs) : TyX K H (.ref a) (.type "list") := by
  rcases h with (h | ⟨o, h⟩) | ⟨o, its, n, h, hc, _⟩
  · exact .base (.lst h)
  · exact .base (.frz h)
  · exact .kList h hc
theorem tyx_tup {a : Addr} {xs : List V} (h : SqT K H a xs) : TyX K H (.ref a) (.type "tuple") := by
  rcases h with (h | ⟨o, h⟩) | ⟨o, its, n, h, hc, _⟩
  · exact .base (.tup h)
  · exact .fTuple h
  · exact .kTuple h hc
theorem s_eqD {d e : PyData} (h1 : Dp K H x d) (h2 : Dp K H y e) (s1 : SeqAt.shaped d = true) (s2 : SeqAt.shaped e = true) (k : Q (.bl (PyData.eqv d e)) H) : rdEq K x y H Q := .inr ⟨d, e, h1, h2, s1, s2, k⟩
theorem s_neD {d e : PyData} (h1 : Dp K H x d) (h2 : Dp K H y e) (s1 : SeqAt.shaped d = true) (s2 : SeqAt.shaped e = true) (k : Q (.bl (!PyData.eqv d e)) H) : rdNe K x y H Q := .inr ⟨d, e, h1, h2, s1, s2, k⟩
theorem s_recv {C a dx : Addr} {fs : List (Str × V)} {m : Str} {P : Prop} (h : H a = some (.ins C dx fs)) (hl : fs.lookup m = none) (k : P) : ∃ a' dx' fs', V.ref a = .ref a' ∧ H a' = some (.ins C dx' fs') ∧ fs'.lookup m = none ∧ P := ⟨a, dx, fs, rfl, h, hl, k⟩
theorem s_make {sp : Sp} {C : Addr} {E : XK} (k : tx σ H fun vs H1 => ∀ x dx, H1 x = none → H1 dx = none → dx ≠ x → sp (.ref x :: vs) (upd (upd H1 dx (.own x)) x (.ins C dx [])) (fun v H2 => v = .non ∧ Q (.ref x) H2) E) : tMake C sp [] E tx σ H Q := by
  show tx σ H fun vs H1 => ∀ x dx, H1 x = none → H1 dx = none → dx ≠ x → sp (.ref x :: (vs ++ [])) (upd (upd H1 dx (.own x)) x (.ins C dx [])) (fun v H2 => v = .non ∧ Q (.ref x) H2) E
  simp only [List.append_nil]
  exact k
def rDisp (p : Addr) (ps : List (V × V)) (H2 : Hp) (Q : VK) : Prop := H2 p = some (.dK []) ∧ ∃ kvs : List (Key × V), ps = kvs.map (fun kv => (kV kv.1, kv.2)) ∧ kvs.length ≤ 15 ∧ Q (.ref p) (upd H2 p (.dK (mergeK [] kvs)))
theorem s_disp {trs : List (TE × TE)} (h : ∀ p, H p = none → tPairs trs σ (upd H p (.dK [])) fun ps H2 => rDisp p ps H2 Q) : tDisp trs σ H Q := h
theorem s_pnil {QP : List (V × V) → Hp → Prop} (h : QP [] H) : tPairs [] σ H QP := h
theorem s_pcons {trs : List (TE × TE)} {QP : List (V × V) → Hp → Prop} (h : ta σ H fun x H1 => tb σ H1 fun y H2 => tPairs trs σ H2 fun ps H3 => QP ((x, y) :: ps) H3) : tPairs ((ta, tb) :: trs) σ H QP := h
theorem s_lst2 {n : Nat} {P : Prop} (hl : n ≤ sizeLine) (h : P) : n ≤ sizeLine ∧ P := ⟨hl, h⟩
theorem kit_NoneType_bool : kitB "NoneType" "bool" = some false := by decide +kernel
theorem kit_NoneType_int : kitB "NoneType" "int" = some false := by decide +kernel
theorem kit_NoneType_str : kitB "NoneType" "str" = some false := by decide +kernel
theorem kit_NoneType_list : kitB "NoneType" "list" = some false := by decide +kernel
theorem kit_NoneType_tuple : kitB "NoneType" "tuple" = some false := by decide +kernel
theorem kit_NoneType_dict : kitB "NoneType" "dict" = some false := by decide +kernel
theorem kit_bool_bool : kitB "bool" "bool" = some true := by decide +kernel
theorem kit_bool_int : kitB "bool" "int" = some true := by decide +kernel
theorem kit_bool_str : kitB "bool" "str" = some false := by decide +kernel
theorem kit_bool_list : kitB "bool" "list" = some false := by decide +kernel
theorem kit_bool_tuple : kitB "bool" "tuple" = some false := by decide +kernel
theorem kit_bool_dict : kitB "bool" "dict" = some false := by decide +kernel
theorem kit_int_bool : kitB "int" "bool" = some false := by decide +kernel
theorem kit_int_int : kitB "int" "int" = some true := by decide +kernel
theorem kit_int_str : kitB "int" "str" = some false := by decide +kernel
theorem kit_int_list : kitB "int" "list" = some false := by decide +kernel
theorem kit_int_tuple : kitB "int" "tuple" = some false := by decide +kernel
theorem kit_int_dict : kitB "int" "dict" = some false := by decide +kernel
theorem kit_str_bool : kitB "str" "bool" = some false := by decide +kernel
theorem kit_str_int : kitB "str" "int" = some false := by decide +kernel
theorem kit_str_str : kitB "str" "str" = some true := by decide +kernel
theorem kit_str_list : kitB "str" "list" = some false := by decide +kernel
theorem kit_str_tuple : kitB "str" "tuple" = some false := by decide +kernel
theorem kit_str_dict : kitB "str" "dict" = some false := by decide +kernel
theorem kit_list_bool : kitB "list" "bool" = some false := by decide +kernel
theorem kit_list_int : kitB "list" "int" = some false := by decide +kernel
theorem kit_list_str : kitB "list" "str" = some false := by decide +kernel
theorem kit_list_list : kitB "list" "list" = some true := by decide +kernel
theorem kit_list_tuple : kitB "list" "tuple" = some false := by decide +kernel
theorem kit_list_dict : kitB "list" "dict" = some false := by decide +kernel
theorem kit_tuple_bool : kitB "tuple" "bool" = some false := by decide +kernel
theorem kit_tuple_int : kitB "tuple" "int" = some false := by decide +kernel
theorem kit_tuple_str : kitB "tuple" "str" = some false := by decide +kernel
theorem kit_tuple_list : kitB "tuple" "list" = some false := by decide +kernel
theorem kit_tuple_tuple : kitB "tuple" "tuple" = some true := by decide +kernel
theorem kit_tuple_dict : kitB "tuple" "dict" = some false := by decide +kernel
theorem kit_dict_bool : kitB "dict" "bool" = some false := by decide +kernel
theorem kit_dict_int : kitB "dict" "int" = some false := by decide +kernel
theorem kit_dict_str : kitB "dict" "str" = some false := by decide +kernel
theorem kit_dict_list : kitB "dict" "list" = some false := by decide +kernel
theorem kit_dict_tuple : kitB "dict" "tuple" = some false := by decide +kernel
theorem kit_dict_dict : kitB "dict" "dict" = some true := by decide +kernel
/-! loops -/
def ForW (J : It) (g : TG) (tb : TS) (D : Ends) (σ : L2.St) (H1 : Hp) : Prop := ∃ W : Nat → Nat → L2.St → Hp → Prop, (∃ m, W 0 m σ H1) ∧ ∀ i m σ H, W i m σ H →
  (J.stop i H ∧ D.nx σ H) ∨ (J.go i H ∧ ∃ N : L2.St → Hp → Prop, (∀ σ' H', N σ' H' → ∃ m', m' < m ∧ W (i + 1) m' σ' H') ∧ ∀ x H', J.yld i H x H' → g x σ H' fun σ2 H2 => tb { D with nx := N, ct := N, bk := D.nx } σ2 H2)
def LcW (J : It) (g : TG) (tt : TT) (te : TE) (ws : List Nat) (σ : L2.St) (H1 : Hp) (Q : VK) : Prop := ∀ D, H1 D = none → ∃ W : Nat → Nat → Hp → Prop, (∃ m, W 0 m (upd H1 D (.lst []))) ∧ ∀ i m H, W i m H →
  (J.stop i H ∧ Q (.ref D) H) ∨ (J.go i H ∧ ∃ Nx : Hp → Prop, (∀ H', Nx H' → ∃ m', m' < m ∧ W (i + 1) m' H') ∧ ∀ x H', J.yld i H x H' → g x (wipe σ ws) H' fun σ2 H2 => wipe σ2 ws = wipe σ ws ∧ tt σ2 H2 fun b H3 =>
    if b = true then te σ2 H3 fun y H4 => ∃ acc, H4 D = some (.lst acc) ∧ acc.length < sizeLine ∧ Nx (upd H4 D (.lst (acc ++ [y]))) else Nx H3)
def rRng1 : List V → Hp → (It → Hp → Prop) → Prop := fun vs H R => ∃ j : Int, vs = [.int j] ∧ -(2 ^ 62) ≤ j ∧ j < 2 ^ 62 ∧ R (Itr 0 j.toNat) H
def rRng2 : List V → Hp → (It → Hp → Prop) → Prop := fun vs H R => ∃ i j : Int, vs = [.int i, .int j] ∧ (-(2 ^ 62) ≤ i ∧ i < 2 ^ 62 ∧ -(2 ^ 62) ≤ j ∧ j < 2 ^ 62) ∧ R (Itr i (j - i).toNat) H
def rEnum (K : PySem.W.Frag) : List V → Hp → (It → Hp → Prop) → Prop := fun vs H R => ∃ a xs, vs = [.ref a] ∧ SqL K H a xs ∧ R (Ite K a) H
def rItr (K : PySem.W.Frag) : V → Hp → (It → Hp → Prop) → Prop := fun x H R => ∃ a, x = .ref a ∧ (((∃ xs, SqL K H a xs) ∧ R (Itl K a) H) ∨ ((∃ xs, SqT K H a xs) ∧ R (Itt K a) H))
section
variable {wi : TI} {tb : TS} {ta : TA} {R : It → Hp → Prop} {ws : List Nat}
theorem s_for (h : wi σ H fun J H1 => ForW J g tb D σ H1) : tFor wi g tb D σ H := h
theorem s_lc (h : wi σ H fun J H1 => LcW J g tt te ws σ H1 Q) : tLc wi g tt te ws σ H Q := h
theorem s_iRng1 (h : ta σ H fun vs H1 => rRng1 vs H1 R) : iRng1 ta σ H R := h
theorem s_iRng2 (h : ta σ H fun vs H1 => rRng2 vs H1 R) : iRng2 ta σ H R := h
theorem s_iEnum (h : ta σ H fun vs H1 => rEnum K vs H1 R) : iEnum K ta σ H R := h
theorem s_iter (h : te σ H fun x H1 => rItr K x H1 R) : rdIter K te σ H R := h
theorem s_rng1 {j : Int} (h1 : -(2 ^ 62) ≤ j) (h2 : j < 2 ^ 62) (h : R (Itr 0 j.toNat) H) : rRng1 [.int j] H R := ⟨j, rfl, h1, h2, h⟩
theorem s_rng2 {i j : Int} (h1 : -(2 ^ 62) ≤ i ∧ i < 2 ^ 62 ∧ -(2 ^ 62) ≤ j ∧ j < 2 ^ 62) (h : R (Itr i (j - i).toNat) H) : rRng2 [.int i, .int j] H R := ⟨i, j, rfl, h1, h⟩
theorem s_enumL {a : Addr} {xs : List V} (h : H a = some (.lst xs)) (k : R (Ite K a) H) : rEnum K [.ref a] H R := ⟨a, xs, rfl, SqL.of h, k⟩
theorem s_itrL {a : Addr} {xs : List V} (h : H a = some (.lst xs)) (k : R (Itl K a) H) : rItr K (.ref a) H R := ⟨a, rfl, .inl ⟨⟨xs, SqL.of h⟩, k⟩⟩
theorem s_itrLs {a : Addr} {xs : List V} (h : SqL K H a xs) (k : R (Itl K a) H) : rItr K (.ref a) H R := ⟨a, rfl, .inl ⟨⟨xs, h⟩, k⟩⟩
theorem s_itrT {a : Addr} {xs : List V} (h : H a = some (.tup xs)) (k : R (Itt K a) H) : rItr K (.ref a) H R := ⟨a, rfl, .inr ⟨⟨xs, SqT.of h⟩, k⟩⟩
/-- over a range -/
theorem f_range {lo : Int} {n : Nat} (Pv : Nat → L2.St → Hp → Prop) (h0 : Pv 0 σ H)
    (hs : ∀ i σ H, i < n → Pv i σ H → g (.int (lo + i)) σ H fun σ2 H2 => tb { D with nx := Pv (i + 1), ct := Pv (i + 1), bk := D.nx } σ2 H2) (hd : ∀ σ H, Pv n σ H → D.nx σ H) : ForW (Itr lo n) g tb D σ H := for_range Pv h0 hs hd
theorem f_list {a : Addr} {xs : List V} (Pv : Nat → L2.St → Hp → Prop) (h0 : Pv 0 σ H) (hl : ∀ i σ H, i ≤ xs.length → Pv i σ H → SqL K H a xs)
    (hs : ∀ i x σ H, xs[i]? = some x → Pv i σ H → g x σ H fun σ2 H2 => tb { D with nx := Pv (i + 1), ct := Pv (i + 1), bk := D.nx } σ2 H2) (hd : ∀ σ H, Pv xs.length σ H → D.nx σ H) : ForW (Itl K a) g tb D σ H := for_list Pv h0 hl hs hd
theorem f_tup {a : Addr} {xs : List V} (Pv : Nat → L2.St → Hp → Prop) (h0 : Pv 0 σ H) (hl : ∀ i σ H, i ≤ xs.length → Pv i σ H → SqT K H a xs)
    (hs : ∀ i x σ H, xs[i]? = some x → Pv i σ H → g x σ H fun σ2 H2 => tb { D with nx := Pv (i + 1), ct := Pv (i + 1), bk := D.nx } σ2 H2) (hd : ∀ σ H, Pv xs.length σ H → D.nx σ H) : ForW (Itt K a) g tb D σ H := for_tup Pv h0 hl hs hd
/-- comprehensions: Pv by the turn, the new list's items and the heap -/
def LcPut (D : Addr) (i : Nat) (Pv : Addr → Nat → List V → Hp → Prop) (y : V) (H4 : Hp) : Prop :=
  ∃ acc, H4 D = some (.lst acc) ∧ acc.length < sizeLine ∧ (∃ acc', (upd H4 D (.lst (acc ++ [y]))) D = some (.lst acc') ∧ acc'.length ≤ i + 1 ∧ Pv D (i + 1) acc' (upd H4 D (.lst (acc ++ [y]))))
def LcSkip (D : Addr) (i : Nat) (Pv : Addr → Nat → List V → Hp → Prop) (H3 : Hp) : Prop := ∃ acc', H3 D = some (.lst acc') ∧ acc'.length ≤ i + 1 ∧ Pv D (i + 1) acc' H3
theorem LcPut.mk {D : Addr} {i : Nat} {Pv : Addr → Nat → List V → Hp → Prop} {y : V} {H4 : Hp} {acc : List V} (h : H4 D = some (.lst acc)) (hl : acc.length ≤ i) (hi : i < 1000000) (hp : Pv D (i + 1) (acc ++ [y]) (upd H4 D (.lst (acc ++ [y])))) : LcPut D i Pv y H4 :=
  ⟨acc, h, Nat.lt_of_le_of_lt hl (Nat.lt_trans hi (by decide)), _, upd_same, by rw [List.length_append, List.length_singleton]; omega, hp⟩
theorem LcSkip.mk {D : Addr} {i : Nat} {Pv : Addr → Nat → List V → Hp → Prop} {H4 : Hp} {acc : List V} (h : H4 D = some (.lst acc)) (hl : acc.length ≤ i) (hp : Pv D (i + 1) acc H4) : LcSkip D i Pv H4 := ⟨acc, h, by omega, hp⟩
/-- one turn from the item on -/
def LcTurn (g : TG) (tt : TT) (te : TE) (ws : List Nat) (σ : L2.St) (D : Addr) (i : Nat) (Pv : Addr → Nat → List V → Hp → Prop) (x : V) (H : Hp) : Prop :=
  g x (wipe σ ws) H fun σ2 H2 => wipe σ2 ws = wipe σ ws ∧ tt σ2 H2 fun b H3 => if b = true then te σ2 H3 fun y H4 => LcPut D i Pv y H4 else LcSkip D i Pv H3
theorem s_turn {D : Addr} {i : Nat} {Pv : Addr → Nat → List V → Hp → Prop} {x : V} (h : g x (wipe σ ws) H fun σ2 H2 => wipe σ2 ws = wipe σ ws ∧ tt σ2 H2 fun b H3 => if b = true then te σ2 H3 fun y H4 => LcPut D i Pv y H4 else LcSkip D i Pv H3) : LcTurn g tt te ws σ D i Pv x H := h
theorem s_wipe {σ2 : L2.St} {P : Prop} (h : wipe σ2 ws = wipe σ ws) (k : P) : wipe σ2 ws = wipe σ ws ∧ P := ⟨h, k⟩
theorem s_tyes {QB : Bool → Hp → Prop} (h : QB true H) : tYes σ H QB := h
theorem l_it {J : It} {n : Nat} (Pv : Addr → Nat → List V → Hp → Prop) (h0 : ∀ D, H D = none → Pv D 0 [] (upd H D (.lst [])))
    (hgo : ∀ D i acc H', H D = none → i < n → H' D = some (.lst acc) → Pv D i acc H' → J.go i H') (hst : ∀ D acc H', H D = none → H' D = some (.lst acc) → Pv D n acc H' → J.stop n H')
    (hs : ∀ D i acc x H' H2, H D = none → i < n → H' D = some (.lst acc) → acc.length ≤ i → Pv D i acc H' → J.yld i H' x H2 → LcTurn g tt te ws σ D i Pv x H2)
    (hd : ∀ D acc H', H D = none → H' D = some (.lst acc) → acc.length ≤ n → Pv D n acc H' → Q (.ref D) H') : LcW J g tt te ws σ H Q := by
  intro D hD
  refine ⟨fun i m H' => i + m = n ∧ ∃ acc, H' D = some (.lst acc) ∧ acc.length ≤ i ∧ Pv D i acc H', ⟨n, Nat.zero_add n, [], upd_same, Nat.le_refl _, h0 D hD⟩, ?_⟩
  rintro i m H' ⟨hm, acc, ha, hl, hp⟩
  cases m with
  | zero =>
    have e : i = n := by omega
    subst e
    exact .inl ⟨hst D acc H' hD ha hp, hd D acc H' hD ha hl hp⟩
  | succ m =>
    refine .inr ⟨hgo D i acc H' hD (by omega) ha hp, fun H2 => ∃ acc', H2 D = some (.lst acc') ∧ acc'.length ≤ i + 1 ∧ Pv D (i + 1) acc' H2, ?_, ?_⟩
    · rintro H2 ⟨acc', h1, h2, h3⟩
      exact ⟨m, by omega, by omega, acc', h1, h2, h3⟩
    · intro x H2 hy
      exact hs D i acc x H' H2 hD (by omega) ha hl hp hy
theorem l_range {lo : Int} {n : Nat} (Pv : Addr → Nat → List V → Hp → Prop) (h0 : ∀ D, H D = none → Pv D 0 [] (upd H D (.lst [])))
    (hs : ∀ D i acc H', H D = none → i < n → H' D = some (.lst acc) → acc.length ≤ i → Pv D i acc H' → LcTurn g tt te ws σ D i Pv (.int (lo + i)) H')
    (hd : ∀ D acc H', H D = none → H' D = some (.lst acc) → acc.length ≤ n → Pv D n acc H' → Q (.ref D) H') : LcW (Itr lo n) g tt te ws σ H Q :=
  l_it Pv h0 (fun _ _ _ _ _ h _ _ => h) (fun _ _ _ _ _ _ => Nat.le_refl _) (fun D i acc x H' H2 a b c d e y => by obtain ⟨rfl, rfl⟩ := y; exact hs D i acc H2 a b c d e) hd
/-- over a list that the block leaves as it is -/
theorem l_list {a : Addr} {xs : List V} (Pv : Addr → Nat → List V → Hp → Prop) (hl : ∀ D i acc H', H D = none → Pv D i acc H' → SqL K H' a xs) (h0 : ∀ D, H D = none → Pv D 0 [] (upd H D (.lst [])))
    (hs : ∀ D i acc H' x, H D = none → xs[i]? = some x → H' D = some (.lst acc) → acc.length ≤ i → Pv D i acc H' → LcTurn g tt te ws σ D i Pv x H')
    (hd : ∀ D acc H', H D = none → H' D = some (.lst acc) → acc.length ≤ xs.length → Pv D xs.length acc H' → Q (.ref D) H') : LcW (Itl K a) g tt te ws σ H Q :=
  l_it Pv h0 (fun D i acc H' hD h _ hp => ⟨xs, xs[i], hl D i acc H' hD hp, List.getElem?_eq_getElem h⟩) (fun D acc H' hD _ hp => ⟨xs, hl D _ acc H' hD hp, Nat.le_refl _⟩)
    (fun D i acc x H' H2 a b c d e y => by obtain ⟨rfl, y⟩ := y; exact hs D i acc H2 x a (y xs (hl D i acc _ a e)) c d e) hd
theorem l_tup {a : Addr} {xs : List V} (Pv : Addr → Nat → List V → Hp → Prop) (hl : ∀ D i acc H', H D = none → Pv D i acc H' → SqT K H' a xs) (h0 : ∀ D, H D = none → Pv D 0 [] (upd H D (.lst [])))
    (hs : ∀ D i acc H' x, H D = none → xs[i]? = some x → H' D = some (.lst acc) → acc.length ≤ i → Pv D i acc H' → LcTurn g tt te ws σ D i Pv x H')
    (hd : ∀ D acc H', H D = none → H' D = some (.lst acc) → acc.length ≤ xs.length → Pv D xs.length acc H' → Q (.ref D) H') : LcW (Itt K a) g tt te ws σ H Q :=
  l_it Pv h0 (fun D i acc H' hD h _ hp => ⟨xs, xs[i], hl D i acc H' hD hp, List.getElem?_eq_getElem h⟩) (fun D acc H' hD _ hp => ⟨xs, hl D _ acc H' hD hp, Nat.le_refl _⟩)
    (fun D i acc x H' H2 a b c d e y => by obtain ⟨rfl, y⟩ := y; exact hs D i acc H2 x a (y xs (hl D i acc _ a e)) c d e) hd
/-- over enumerate of a list: the pair is a new tuple at T -/
theorem l_enum {a : Addr} {xs : List V} (Pv : Addr → Nat → List V → Hp → Prop) (hl : ∀ D i acc H', H D = none → Pv D i acc H' → SqL K H' a xs) (h0 : ∀ D, H D = none → Pv D 0 [] (upd H D (.lst [])))
    (hs : ∀ D i acc H' x T, H D = none → xs[i]? = some x → H' D = some (.lst acc) → acc.length ≤ i → Pv D i acc H' → H' T = none → LcTurn g tt te ws σ D i Pv (.ref T) (upd H' T (.tup [.int (i : Nat), x])))
    (hd : ∀ D acc H', H D = none → H' D = some (.lst acc) → acc.length ≤ xs.length → Pv D xs.length acc H' → Q (.ref D) H') : LcW (Ite K a) g tt te ws σ H Q :=
  l_it Pv h0 (fun D i acc H' hD h _ hp => ⟨xs, xs[i], hl D i acc H' hD hp, List.getElem?_eq_getElem h⟩) (fun D acc H' hD _ hp => ⟨xs, hl D _ acc H' hD hp, Nat.le_refl _⟩)
    (fun D i acc x H' H2 a b c d e y => by obtain ⟨T, z, rfl, hT, rfl, y⟩ := y; exact hs D i acc H' z T a (y xs (hl D i acc _ a e)) c d e hT) hd
end
end
end Y

/-! Data: immutable data in the abstract heap, frames, lists of indexes. -/
namespace Y
open PySem PySem.Spec PyProof.Rows L2

/-! ### pairs of lists -/
section
variable {α β : Type} {F G : α → β → Prop}
theorem Pd.get : ∀ {l : List α} {m : List β} {k : Nat} {b : β}, Paired F l m → m[k]? = some b → ∃ a, l[k]? = some a ∧ F a b
  | _, _, 0, _, .cons h _, e => ⟨_, rfl, by simp at e; exact e ▸ h⟩
  | _, _, k + 1, _, .cons _ t, e => by
    obtain ⟨a, h1, h2⟩ := Pd.get (k := k) t (by simpa using e)
    exact ⟨a, by simpa using h1, h2⟩
  | _, _, _, _, .nil, e => by simp at e
theorem Pd.getl : ∀ {l : List α} {m : List β} {k : Nat} {a : α}, Paired F l m → l[k]? = some a → ∃ b, m[k]? = some b ∧ F a b
  | _, _, 0, _, .cons h _, e => ⟨_, rfl, by simp at e; exact e ▸ h⟩
  | _, _, k + 1, _, .cons _ t, e => by
    obtain ⟨a, h1, h2⟩ := Pd.getl (k := k) t (by simpa using e)
    exact ⟨a, by simpa using h1, h2⟩
  | _, _, _, _, .nil, e => by simp at e
theorem Pd.set {a : α} {b : β} (h : F a b) : ∀ {l : List α} {m : List β} (k : Nat), Paired F l m → Paired F (l.set k a) (m.set k b)
  | _, _, 0, .cons _ t => .cons h t
  | _, _, k + 1, .cons x t => .cons x (Pd.set h k t)
  | _, _, _, .nil => .nil
theorem Pd.append : ∀ {l l' : List α} {m m' : List β}, Paired F l m → Paired F l' m' → Paired F (l ++ l') (m ++ m')
  | _, _, _, _, .nil, h => h
  | _, _, _, _, .cons x t, h => .cons x (Pd.append t h)
theorem Pd.mono {l : List α} {m : List β} (h : Paired F l m) (f : ∀ a b, F a b → G a b) : Paired G l m := Paired.mapP h f
/-- with the knowledge that the pair stands there -/
theorem Pd.monoMem : ∀ {l : List α} {m : List β}, Paired F l m → (∀ a b, a ∈ l → b ∈ m → F a b → G a b) → Paired G l m
  | _, _, .nil, _ => .nil
  | _, _, .cons h t, f => .cons (f _ _ (.head _) (.head _) h) (Pd.monoMem t fun a b ha hb => f a b (.tail _ ha) (.tail _ hb))
theorem Pd.len {l : List α} {m : List β} (h : Paired F l m) : l.length = m.length := Paired.length h
end

/-! ### frames -/
/-- all that was tracked and does not stand in F is as it was -/
def Fr (F : List Addr) (H H' : Hp) : Prop := ∀ b o, H b = some o → b ∉ F → H' b = some o
/-- tuples stay -/
def KT (H H' : Hp) : Prop := ∀ b ts, H b = some (.tup ts) → H' b = some (.tup ts)
/-- no tuple stands in F -/
def NT (F : List Addr) (H : Hp) : Prop := ∀ b ∈ F, ∀ ts, H b ≠ some (.tup ts)
theorem Fr.refl {F : List Addr} {H : Hp} : Fr F H H := fun _ _ h _ => h
theorem Fr.kt {F : List Addr} {H H' : Hp} (f : Fr F H H') (n : NT F H) : KT H H' := fun b ts h => f b _ h fun hb => n b hb ts h
theorem Fr.of_same {F : List Addr} {H H' : Hp} (s : Same H H') : Fr F H H' := fun b o h _ => s b o h
theorem Fr.same {H H' : Hp} (s : Fr [] H H') : Same H H' := fun b o h => s b o h (by simp)
theorem Fr.trans {F G : List Addr} {H H1 H2 : Hp} (a : Fr F H H1) (b : Fr G H1 H2) (g : ∀ x ∈ G, x ∈ F ∨ H x = none) : Fr F H H2 := fun x o h n =>
  b x o (a x o h n) fun hx => by
    rcases g x hx with q | q
    · exact n q
    · rw [h] at q; cases q
theorem Fr.trans' {F : List Addr} {H H1 H2 : Hp} (a : Fr F H H1) (b : Fr F H1 H2) : Fr F H H2 := fun x o h n => b x o (a x o h n) n
theorem Fr.mono {F G : List Addr} {H H' : Hp} (a : Fr F H H') (g : ∀ x ∈ F, x ∈ G) : Fr G H H' := fun x o h n => a x o h fun hx => n (g x hx)
theorem Fr.upd {F : List Addr} {H H' : Hp} {p : Addr} {o : HO} (a : Fr F H H') (h : p ∈ F ∨ H p = none) : Fr F H (upd H' p o) := fun x u e n => by
  have hx : x ≠ p := fun q => by
    subst q
    rcases h with h | h
    · exact n h
    · rw [e] at h; cases h
  rw [upd_ne hx]
  exact a x u e n
theorem Fr.free {F : List Addr} {H H' : Hp} (f : Fr F H H') {p : Addr} (h : H' p = none) (hp : p ∉ F) : H p = none := by
  cases e : H p with
  | none => rfl
  | some o => rw [f p o e hp] at h; cases h
theorem KT.refl {H : Hp} : KT H H := fun _ _ h => h
theorem KT.trans {H H1 H2 : Hp} (a : KT H H1) (b : KT H1 H2) : KT H H2 := fun x ts h => b x ts (a x ts h)
theorem KT.upd {H H' : Hp} {p : Addr} {o : HO} (a : KT H H') (h : ∀ ts, H p ≠ some (.tup ts)) : KT H (upd H' p o) := fun x ts e => by
  have hx : x ≠ p := fun q => h ts (q ▸ e)
  rw [upd_ne hx]
  exact a x ts e
theorem Same.kt {H H' : Hp} (s : Same H H') : KT H H' := fun b ts h => s b _ h
theorem Same.upd {H H' : Hp} {p : Addr} {o : HO} (s : Same H H') (h : H p = none) : Same H (upd H' p o) := fun b u e => by
  rw [upd_ne (ne_of_none e h)]
  exact s b u e
theorem Same.new {H : Hp} {p : Addr} {o : HO} (h : H p = none) : Same H (L2.upd H p o) := Same.upd (Same.refl H) h
theorem not_tup_of_lst {H : Hp} {p : Addr} {xs : List V} (h : H p = some (.lst xs)) : ∀ ts, H p ≠ some (.tup ts) := fun ts e => by rw [h] at e; cases e
theorem not_tup_of_none {H : Hp} {p : Addr} (h : H p = none) : ∀ ts, H p ≠ some (.tup ts) := fun ts e => by rw [h] at e; cases e
theorem not_tup_of_dK {H : Hp} {p : Addr} {xs : List (Key × V)} (h : H p = some (.dK xs)) : ∀ ts, H p ≠ some (.tup ts) := fun ts e => by rw [h] at e; cases e

/-! ### immutable data: atoms and tuples -/
mutual
inductive Im (H : Hp) : V → PyData → Prop
  | non : Im H .non .none
  | bl (b : Bool) : Im H (.bl b) (.bool b)
  | int (i : Int) : Im H (.int i) (.int i)
  | str (x : Str) : Im H (.str x) (.str x)
  | tup {a : Addr} {xs : List V} {ds : List PyData} : H a = some (.tup xs) → ImAll H xs ds → Im H (.ref a) (.tuple ds)
inductive ImAll (H : Hp) : List V → List PyData → Prop
  | nil : ImAll H [] []
  | cons {v : V} {vs : List V} {d : PyData} {ds : List PyData} : Im H v d → ImAll H vs ds → ImAll H (v :: vs) (d :: ds)
end
section
variable {H H' : Hp} {v : V} {d : PyData}
mutual
theorem Im.keep (k : KT H H') : ∀ {v : V} {d : PyData}, Im H v d → Im H' v d
  | _, _, .non => .non
  | _, _, .bl b => .bl b
  | _, _, .int i => .int i
  | _, _, .str x => .str x
  | _, _, .tup h r => .tup (k _ _ h) (ImAll.keep k r)
theorem ImAll.keep (k : KT H H') : ∀ {vs : List V} {ds : List PyData}, ImAll H vs ds → ImAll H' vs ds
  | _, _, .nil => .nil
  | _, _, .cons h t => .cons (Im.keep k h) (ImAll.keep k t)
end
mutual
theorem Im.dp {K : PySem.W.Frag} : ∀ {v : V} {d : PyData}, Im H v d → Dp K H v d
  | _, _, .non => .non
  | _, _, .bl b => .bl b
  | _, _, .int i => .int i
  | _, _, .str x => .str x
  | _, _, .tup h r => .tup (SqT.of h) (ImAll.dp r)
theorem ImAll.dp {K : PySem.W.Frag} : ∀ {vs : List V} {ds : List PyData}, ImAll H vs ds → DpAll K H vs ds
  | _, _, .nil => .nil
  | _, _, .cons h t => .cons (Im.dp h) (ImAll.dp t)
end
theorem DpAll.of_paired {K : PySem.W.Frag} : ∀ {vs : List V} {ds : List PyData}, Paired (Dp K H) vs ds → DpAll K H vs ds
  | _, _, .nil => .nil
  | _, _, .cons h t => .cons h (DpAll.of_paired t)
theorem DpAll.get {K : PySem.W.Frag} : ∀ {vs : List V} {ds : List PyData} {k : Nat} {d : PyData}, DpAll K H vs ds → ds[k]? = some d → ∃ v, vs[k]? = some v ∧ Dp K H v d
  | _, _, 0, _, .cons h _, e => ⟨_, rfl, by simp at e; exact e ▸ h⟩
  | _, _, k + 1, _, .cons _ t, e => by
    obtain ⟨a, h1, h2⟩ := DpAll.get (k := k) t (by simpa using e)
    exact ⟨a, by simpa using h1, h2⟩
  | _, _, _, _, .nil, e => by simp at e
theorem DpAll.len {K : PySem.W.Frag} : ∀ {vs : List V} {ds : List PyData}, DpAll K H vs ds → vs.length = ds.length
  | _, _, .nil => rfl
  | _, _, .cons _ t => congrArg (· + 1) (DpAll.len t)
end
section
variable {K : PySem.W.Frag} {H H' : Hp} {v : V} {d : PyData}
theorem Rd.same {a : Addr} {u : HO} (s : Same H H') (h : Rd H a u) : Rd H' a u := by
  rcases h with h | ⟨o, h⟩
  · exact .inl (s _ _ h)
  · exact .inr ⟨o, s _ _ h⟩
theorem SqL.same {a : Addr} {xs : List V} (s : Same H H') (h : SqL K H a xs) : SqL K H' a xs := Same.seq s h
theorem SqT.same {a : Addr} {xs : List V} (s : Same H H') (h : SqT K H a xs) : SqT K H' a xs := by
  rcases h with h | h
  · exact .inl (Rd.same s h)
  · exact .inr h
mutual
theorem Dp.same (s : Same H H') : ∀ {v : V} {d : PyData}, Dp K H v d → Dp K H' v d
  | _, _, .non => .non
  | _, _, .bl b => .bl b
  | _, _, .int i => .int i
  | _, _, .str x => .str x
  | _, _, .lst h r => .lst (SqL.same s h) (DpAll.same s r)
  | _, _, .tup h r => .tup (SqT.same s h) (DpAll.same s r)
theorem DpAll.same (s : Same H H') : ∀ {vs : List V} {ds : List PyData}, DpAll K H vs ds → DpAll K H' vs ds
  | _, _, .nil => .nil
  | _, _, .cons h t => .cons (Dp.same s h) (DpAll.same s t)
end
end
/-- how deep and how wide; no bools -/
def okd : Nat → PyData → Bool
  | _, .none => true
  | _, .bool _ => false
  | _, .int _ => true
  | _, .str _ => true
  | n + 1, .list xs => decide (xs.length ≤ 100000) && xs.all (okd n)
  | n + 1, .tuple xs => decide (xs.length ≤ 100000) && xs.all (okd n)
  | _, _ => false
theorem okd_mono : ∀ {n m : Nat} {d : PyData}, okd n d = true → n ≤ m → okd m d = true
  | n, m, .none, _, _ => by cases m <;> rfl
  | n, m, .bool b, h, _ => by cases n <;> simp [okd] at h
  | n, m, .int b, _, _ => by cases m <;> rfl
  | n, m, .str b, _, _ => by cases m <;> rfl
  | n + 1, m + 1, .list xs, h, hm => by
    simp only [okd, Bool.and_eq_true, decide_eq_true_eq, List.all_eq_true] at h ⊢
    exact ⟨h.1, fun x hx => okd_mono (h.2 x hx) (by omega)⟩
  | n + 1, m + 1, .tuple xs, h, hm => by
    simp only [okd, Bool.and_eq_true, decide_eq_true_eq, List.all_eq_true] at h ⊢
    exact ⟨h.1, fun x hx => okd_mono (h.2 x hx) (by omega)⟩
  | 0, _, .list _, h, _ => by simp [okd] at h
  | 0, _, .tuple _, h, _ => by simp [okd] at h
  | 0, _, .dict _, h, _ => by simp [okd] at h
  | _ + 1, _, .dict _, h, _ => by simp [okd] at h
  | n + 1, 0, _, _, hm => by omega

theorem atI_mem {xs : List V} {i : Int} (h0 : 0 ≤ i) (h1 : i < xs.length) : ∃ v, atI xs i = some v ∧ v ∈ xs := by
  obtain ⟨j, rfl⟩ := Int.eq_ofNat_of_zero_le h0
  have hj : j < xs.length := by omega
  exact ⟨xs[j], atI_nat (by simp [hj]), List.getElem_mem hj⟩
theorem none_upd {H : Hp} {p w : Addr} {o : HO} (h : upd H w o p = none) : H p = none := by
  unfold upd at h
  split at h
  · cases h
  · exact h
/-! ### the indexes of the items that pass -/
def ixsFrom {α : Type} (p : α → Bool) : Nat → List α → List Int
  | _, [] => []
  | n, r :: t => if p r then (n : Int) :: ixsFrom p (n + 1) t else ixsFrom p (n + 1) t
abbrev ixs {α : Type} (L : List α) (p : α → Bool) : List Int := ixsFrom p 0 L
section
variable {α : Type} {p q : α → Bool}
theorem ixsFrom_append (L M : List α) : ∀ n, ixsFrom p n (L ++ M) = ixsFrom p n L ++ ixsFrom p (n + L.length) M := by
  induction L with
  | nil => intro n; simp [ixsFrom]
  | cons r t ih =>
    intro n
    simp only [List.cons_append, ixsFrom, ih (n + 1), List.length_cons]
    have e : n + 1 + t.length = n + (t.length + 1) := by omega
    rw [e]
    split <;> simp
theorem ixs_snoc (L : List α) (r : α) : ixs (L ++ [r]) p = ixs L p ++ (if p r then [(L.length : Int)] else []) := by
  unfold ixs
  rw [ixsFrom_append]
  simp only [ixsFrom, Nat.zero_add]
theorem ixs_take {L : List α} {i : Nat} {r : α} (h : L[i]? = some r) : ixs (L.take (i + 1)) p = ixs (L.take i) p ++ (if p r then [(i : Int)] else []) := by
  obtain ⟨hi, e⟩ := List.getElem?_eq_some_iff.mp h
  have e1 : L.take (i + 1) = L.take i ++ [r] := by
    rw [List.take_succ, h]; rfl
  rw [e1, ixs_snoc, List.length_take, Nat.min_eq_left (Nat.le_of_lt hi)]
theorem ixsFrom_len (L : List α) : ∀ n, (ixsFrom p n L).length ≤ L.length := by
  induction L with
  | nil => intro n; simp [ixsFrom]
  | cons r t ih =>
    intro n
    simp only [ixsFrom, List.length_cons]
    have := ih (n + 1)
    split
    · simp only [List.length_cons]; omega
    · omega
theorem ixs_len (L : List α) : (ixs L p).length ≤ L.length := ixsFrom_len L 0
theorem ixsFrom_mem (L : List α) : ∀ n (x : Int), x ∈ ixsFrom p n L ↔ ∃ (k : Nat) (r : α), L[k]? = some r ∧ p r = true ∧ x = ((n + k : Nat) : Int) := by
  induction L with
  | nil => intro n x; simp [ixsFrom]
  | cons r t ih =>
    intro n x
    have hh : x ∈ ixsFrom p (n + 1) t ↔ ∃ (k : Nat) (r' : α), t[k]? = some r' ∧ p r' = true ∧ x = ((n + (k + 1) : Nat) : Int) := by
      rw [ih]
      constructor
      · rintro ⟨k, r', h1, h2, h3⟩; exact ⟨k, r', h1, h2, by rw [h3]; congr 1; omega⟩
      · rintro ⟨k, r', h1, h2, h3⟩; exact ⟨k, r', h1, h2, by rw [h3]; congr 1; omega⟩
    simp only [ixsFrom]
    by_cases hp : p r = true
    · rw [if_pos hp, List.mem_cons, hh]
      constructor
      · rintro (h | ⟨k, r', h1, h2, h3⟩)
        · exact ⟨0, r, rfl, hp, by simpa using h⟩
        · exact ⟨k + 1, r', by simpa using h1, h2, h3⟩
      · rintro ⟨k, r', h1, h2, h3⟩
        cases k with
        | zero => exact .inl (by simpa using h3)
        | succ k => exact .inr ⟨k, r', by simpa using h1, h2, h3⟩
    · rw [if_neg hp, hh]
      constructor
      · rintro ⟨k, r', h1, h2, h3⟩; exact ⟨k + 1, r', by simpa using h1, h2, h3⟩
      · rintro ⟨k, r', h1, h2, h3⟩
        cases k with
        | zero => simp at h1; subst h1; exact absurd h2 hp
        | succ k => exact ⟨k, r', by simpa using h1, h2, h3⟩
theorem ixs_mem {L : List α} {x : Int} : x ∈ ixs L p ↔ ∃ (k : Nat) (r : α), L[k]? = some r ∧ p r = true ∧ x = (k : Int) := by
  rw [ixsFrom_mem]
  simp only [Nat.zero_add]
theorem ixsFrom_sorted (L : List α) : ∀ n, (ixsFrom p n L).Pairwise (· < ·) ∧ ∀ x ∈ ixsFrom p n L, (n : Int) ≤ x := by
  induction L with
  | nil => intro n; simp [ixsFrom]
  | cons r t ih =>
    intro n
    obtain ⟨h1, h2⟩ := ih (n + 1)
    simp only [ixsFrom]
    split
    · refine ⟨List.pairwise_cons.mpr ⟨fun x hx => ?_, h1⟩, fun x hx => ?_⟩
      · have := h2 x hx; omega
      · rcases List.mem_cons.mp hx with rfl | hx
        · exact Int.le_refl _
        · have := h2 x hx; omega
    · exact ⟨h1, fun x hx => by have := h2 x hx; omega⟩
theorem ixsFrom_none {L : List α} (h : ∀ r ∈ L, p r = false) : ∀ n, ixsFrom p n L = [] := by
  induction L with
  | nil => intro n; rfl
  | cons r t ih =>
    intro n
    simp only [ixsFrom, h r (.head _)]
    exact ih (fun x hx => h x (.tail _ hx)) (n + 1)
theorem ixs_none {L : List α} (h : ∀ r ∈ L, p r = false) : ixs L p = [] := ixsFrom_none h 0
theorem ixs_le (L : List α) : (ixs L p).Pairwise (· ≤ ·) := (ixsFrom_sorted L 0).1.imp fun h => Int.le_of_lt h
theorem ixsFrom_set_same {L : List α} {j : Nat} {r r' : α} (h : L[j]? = some r) (e : p r' = p r) : ∀ n, ixsFrom p n (L.set j r') = ixsFrom p n L := by
  induction L generalizing j with
  | nil => intro n; simp at h
  | cons a t ih =>
    intro n
    cases j with
    | zero =>
      simp at h; subst h
      simp only [List.set, ixsFrom, e]
    | succ j =>
      simp only [List.set, ixsFrom]
      rw [ih (by simpa using h)]
theorem ixs_set_same {L : List α} {j : Nat} {r r' : α} (h : L[j]? = some r) (e : p r' = p r) : ixs (L.set j r') p = ixs L p := ixsFrom_set_same h e 0
theorem ixsFrom_set_new {L : List α} {j : Nat} {r r' : α} (h : L[j]? = some r) (e : p r = false) (e' : p r' = true) : ∀ n, (ixsFrom p n (L.set j r')).Perm (ixsFrom p n L ++ [((n + j : Nat) : Int)]) := by
  induction L generalizing j with
  | nil => intro n; simp at h
  | cons a t ih =>
    intro n
    cases j with
    | zero =>
      simp at h; subst h
      simp only [List.set, ixsFrom, e, e', if_true, Nat.add_zero]
      exact (List.perm_append_comm (l₁ := [((n : Nat) : Int)])).trans (by simp)
    | succ j =>
      simp only [List.set, ixsFrom]
      have q := ih (j := j) (by simpa using h) (n + 1)
      have e1 : n + 1 + j = n + (j + 1) := by omega
      rw [e1] at q
      split
      · exact q.cons _
      · exact q
theorem ixs_set_new {L : List α} {j : Nat} {r r' : α} (h : L[j]? = some r) (e : p r = false) (e' : p r' = true) : (ixs (L.set j r') p).Perm (ixs L p ++ [(j : Int)]) := by
  have := ixsFrom_set_new h e e' 0
  rw [Nat.zero_add] at this
  exact this
end
/-! ### lists of ints as data -/
theorem ints_lay : ∀ ns : List Int, PyData.canLayAll0 (ns.map PyData.int) = true
  | [] => rfl
  | n :: r => by
    show (PyData.canLay0 (.int n) && PyData.canLayAll0 (r.map PyData.int)) = true
    rw [ints_lay r]; rfl
theorem ints_depth : ∀ ns : List Int, PyData.depthAll (ns.map PyData.int) = 0
  | [] => rfl
  | n :: r => by
    show max (PyData.depth (.int n)) (PyData.depthAll (r.map PyData.int)) = 0
    rw [ints_depth r]; rfl
theorem ints_shaped (ns : List Int) : SeqAt.shaped (.list (ns.map PyData.int)) = true := by
  show (PyData.canLayAll0 (ns.map PyData.int) && decide (PyData.depthAll (ns.map PyData.int) + 1 ≤ 64)) = true
  rw [ints_lay, ints_depth]; rfl
theorem ints_dpAll {K : PySem.W.Frag} {H : Hp} : ∀ ns : List Int, DpAll K H (ns.map V.int) (ns.map PyData.int)
  | [] => .nil
  | n :: r => .cons (.int n) (ints_dpAll r)
theorem ints_dp {K : PySem.W.Frag} {H : Hp} {a : Addr} {ns : List Int} (h : H a = some (.lst (ns.map V.int))) : Dp K H (.ref a) (.list (ns.map PyData.int)) := .lst (SqL.of h) (ints_dpAll ns)
theorem ints_eqv_nil (ns : List Int) : PyData.eqv (.list (ns.map PyData.int)) (.list []) = decide (ns = []) := by
  cases ns with
  | nil => rfl
  | cons n r => rw [decide_eq_false (by simp)]; rfl
theorem ints_ok (ns : List Int) {n : Nat} (h : ns.length ≤ 100000) : okd (n + 1) (.list (ns.map PyData.int)) = true := by
  simp only [okd, Bool.and_eq_true, decide_eq_true_eq, List.all_eq_true, List.length_map]
  refine ⟨h, fun x hx => ?_⟩
  obtain ⟨i, _, rfl⟩ := List.mem_map.mp hx
  cases n <;> rfl
end Y

/-! S68: the data of law k68 and the promises. -/
namespace Z
open PySem PySem.Spec PyProof.Rows L2 Y

/-! ### the data -/
structure Rw where
  nm : PyData
  am : Int
  mr : Option Nat
  tk : Option Nat
@[reducible] def oV : Option Nat → V
  | none => .non
  | some k => .int k
@[reducible] def oD : Option Nat → PyData
  | none => .none
  | some k => .int k
theorem oV_im {H : Hp} : ∀ o : Option Nat, Im H (oV o) (oD o)
  | none => .non
  | some k => .int _
def Rw.d (r : Rw) : PyData := .tuple [r.nm, .int r.am, oD r.mr, oD r.tk]
/-- a row as a tuple -/
def RowAt (H : Hp) (v : V) (r : Rw) : Prop := ∃ a nv, v = .ref a ∧ H a = some (.tup [nv, .int r.am, oV r.mr, oV r.tk]) ∧ Im H nv r.nm
theorem RowAt.im {H : Hp} {v : V} {r : Rw} (h : RowAt H v r) : Im H v r.d := by
  obtain ⟨a, nv, rfl, ha, hn⟩ := h
  exact .tup ha (.cons hn (.cons (.int _) (.cons (oV_im _) (.cons (oV_im _) .nil))))
theorem RowAt.keep {H H' : Hp} {v : V} {r : Rw} (k : KT H H') (h : RowAt H v r) : RowAt H' v r := by
  obtain ⟨a, nv, rfl, ha, hn⟩ := h
  exact ⟨a, nv, rfl, k _ _ ha, hn.keep k⟩
abbrev isOut (r : Rw) : Bool := r.mr.isNone
abbrev isOpen (r : Rw) : Bool := r.tk.isNone
abbrev mkIs (s : Nat) (r : Rw) : Bool := decide (r.mr = some s)
abbrev tkIs (s : Nat) (r : Rw) : Bool := decide (r.tk = some s)
/-- the addresses of a lineage -/
structure LA where
  x : Addr
  dx : Addr
  c : Addr
  i : Addr
  o : Addr
  is : List Addr
  os : List Addr
def LA.own (A : LA) : List Addr := A.c :: A.i :: A.o :: (A.is ++ A.os)
def fl (c i o : Addr) : List (Str × V) := [("_carriers", .ref c), ("_ins", .ref i), ("_outs", .ref o)]
structure LinAt (C : Addr) (H : Hp) (A : LA) (L : List Rw) (m : Nat) : Prop where
  ob : H A.x = some (.ins C A.dx (fl A.c A.i A.o))
  cs : ∃ vs, H A.c = some (.lst vs) ∧ Paired (RowAt H) vs L
  li : H A.i = some (.lst (A.is.map V.ref))
  lo : H A.o = some (.lst (A.os.map V.ref))
  nis : A.is.length = m
  nos : A.os.length = m
  ins : ∀ (s : Nat) a, A.is[s]? = some a → ∃ ns : List Int, H a = some (.lst (ns.map V.int)) ∧ ns.Perm (ixs L (tkIs s))
  out : ∀ (s : Nat) a, A.os[s]? = some a → H a = some (.lst ((ixs L (mkIs s)).map V.int))
  nd : A.own.Nodup
  wf : ∀ r ∈ L, (∀ s, r.tk = some s → s < m) ∧ (∀ s, r.mr = some s → s < m)
structure BA where
  b : Addr
  r : Addr
def kRows : Key := .inr "rows"
def kMany : Key := .inr "many"
structure BkAt (H : Hp) (B : BA) (L : List Rw) (m : Nat) : Prop where
  ob : H B.b = some (.dK [(kRows, .ref B.r), (kMany, .int m)])
  rs : ∃ vs, H B.r = some (.lst vs) ∧ Paired (RowAt H) vs L
def own2 (A : LA) (B : BA) : List Addr := A.own ++ [B.b, B.r]
structure PAt (C : Addr) (H : Hp) (A : LA) (B : BA) (L : List Rw) (m : Nat) : Prop where
  lin : LinAt C H A L m
  bk : BkAt H B L m
  nd : (own2 A B).Nodup
  ok : ∀ r ∈ L, okd 3 r.nm = true

theorem LinAt.lst {C : Addr} {H : Hp} {A : LA} {L : List Rw} {m : Nat} (h : LinAt C H A L m) : ∀ a ∈ A.own, ∃ xs, H a = some (.lst xs) := by
  intro a ha
  simp only [LA.own, List.mem_cons, List.mem_append] at ha
  obtain ⟨vs, hc, _⟩ := h.cs
  rcases ha with rfl | rfl | rfl | ha | ha
  · exact ⟨_, hc⟩
  · exact ⟨_, h.li⟩
  · exact ⟨_, h.lo⟩
  · obtain ⟨s, hs⟩ := List.getElem?_of_mem ha
    obtain ⟨ns, h1, _⟩ := h.ins s a hs
    exact ⟨_, h1⟩
  · obtain ⟨s, hs⟩ := List.getElem?_of_mem ha
    exact ⟨_, h.out s a hs⟩
theorem LinAt.nt {C : Addr} {H : Hp} {A : LA} {L : List Rw} {m : Nat} (h : LinAt C H A L m) : NT A.own H := fun a ha ts e => by
  obtain ⟨xs, q⟩ := h.lst a ha
  rw [q] at e; cases e
/-- what a lineage stands on is not touched -/
theorem LinAt.keep {C : Addr} {H H' : Hp} {A : LA} {L : List Rw} {m : Nat} (h : LinAt C H A L m) (k : KT H H') (hx : H' A.x = H A.x) (ho : ∀ a ∈ A.own, H' a = H a) : LinAt C H' A L m := by
  obtain ⟨vs, hc, hr⟩ := h.cs
  refine ⟨by rw [hx]; exact h.ob, ⟨vs, by rw [ho _ (by simp [LA.own])]; exact hc, Pd.mono hr fun _ _ => RowAt.keep k⟩, by rw [ho _ (by simp [LA.own])]; exact h.li, by rw [ho _ (by simp [LA.own])]; exact h.lo, h.nis, h.nos, fun s a hs => ?_, fun s a hs => ?_, h.nd, h.wf⟩
  · obtain ⟨ns, h1, h2⟩ := h.ins s a hs
    exact ⟨ns, by rw [ho a (by simp [LA.own, List.mem_of_getElem? hs])]; exact h1, h2⟩
  · rw [ho a (by simp [LA.own, List.mem_of_getElem? hs])]
    exact h.out s a hs
theorem BkAt.keep {H H' : Hp} {B : BA} {L : List Rw} {m : Nat} (h : BkAt H B L m) (k : KT H H') (hb : H' B.b = H B.b) (hr : H' B.r = H B.r) : BkAt H' B L m := by
  obtain ⟨vs, h1, h2⟩ := h.rs
  exact ⟨by rw [hb]; exact h.ob, vs, by rw [hr]; exact h1, Pd.mono h2 fun _ _ => RowAt.keep k⟩
theorem fr_eq {F : List Addr} {H H' : Hp} {a : Addr} {o : HO} (f : Fr F H H') (h : H a = some o) (n : a ∉ F) : H' a = H a := by rw [h]; exact f a o h n
theorem LinAt.fr {C : Addr} {H H' : Hp} {A : LA} {L : List Rw} {m : Nat} {F : List Addr} (h : LinAt C H A L m) (f : Fr F H H') (nt : NT F H) (hx : A.x ∉ F) (ho : ∀ a ∈ A.own, a ∉ F) : LinAt C H' A L m :=
  h.keep (f.kt nt) (fr_eq f h.ob hx) fun a ha => by
    obtain ⟨xs, q⟩ := h.lst a ha
    exact fr_eq f q (ho a ha)
theorem BkAt.fr {H H' : Hp} {B : BA} {L : List Rw} {m : Nat} {F : List Addr} (h : BkAt H B L m) (f : Fr F H H') (nt : NT F H) (hb : B.b ∉ F) (hr : B.r ∉ F) : BkAt H' B L m := by
  obtain ⟨vs, h1, _⟩ := h.rs
  exact h.keep (f.kt nt) (fr_eq f h.ob hb) (fr_eq f h1 hr)
theorem PAt.nt {C : Addr} {H : Hp} {A : LA} {B : BA} {L : List Rw} {m : Nat} (h : PAt C H A B L m) : NT (own2 A B) H := fun a ha ts e => by
  simp only [own2, List.mem_append, List.mem_cons, List.not_mem_nil, or_false] at ha
  rcases ha with ha | rfl | rfl
  · exact h.lin.nt a ha ts e
  · rw [h.bk.ob] at e; cases e
  · obtain ⟨vs, h1, _⟩ := h.bk.rs
    rw [h1] at e; cases e
theorem LinAt.xno {C : Addr} {H : Hp} {A : LA} {L : List Rw} {m : Nat} (h : LinAt C H A L m) : A.x ∉ A.own := fun hx => by
  obtain ⟨xs, q⟩ := h.lst _ hx
  rw [h.ob] at q; cases q

/-! ### the promises -/
def smallInts (ns : List Int) : Prop := ∀ x ∈ ns, 0 ≤ x ∧ x < 1000
theorem smallInts.app {ns : List Int} {x : Int} (h : smallInts ns) (h1 : 0 ≤ x) (h2 : x < 1000) : smallInts (ns ++ [x]) := by
  intro y hy
  rcases List.mem_append.mp hy with hy | hy
  · exact h y hy
  · rw [List.mem_singleton.mp hy]; exact ⟨h1, h2⟩
theorem ten_lit {ns : List Int} (h : ns.length = 10) : ∃ a b c d e f g i j k, ns = [a, b, c, d, e, f, g, i, j, k] := by
  match ns, h with
  | [a, b, c, d, e, f, g, i, j, k], _ => exact ⟨a, b, c, d, e, f, g, i, j, k, rfl⟩
def sp_init (C : Addr) : Sp := fun vs H Q _ => ∃ (x dx : Addr), vs = [.ref x] ∧ H x = some (.ins C dx []) ∧ ∀ (A : LA) (H' : Hp), LinAt C H' A [] 0 → A.x = x → (∀ a ∈ A.own, H a = none) → Fr [x] H H' → Q .non H'
def sp_station (C : Addr) : Sp := fun vs H Q _ => ∃ (A : LA) (L : List Rw) (m : Nat), vs = [.ref A.x] ∧ LinAt C H A L m ∧ m ≤ 1000 ∧
  ∀ (A' : LA) (H' : Hp), LinAt C H' A' L (m + 1) → A'.x = A.x → Fr A.own H H' → (∀ a ∈ A'.own, a ∈ A.own ∨ H a = none) → Q (.int m) H'
def sp_put (C : Addr) : Sp := fun vs H Q _ => ∃ (A : LA) (L : List Rw) (m : Nat) (nv : V) (nm : PyData) (am : Int) (mk : Option Nat), vs = [.ref A.x, nv, .int am, oV mk] ∧ LinAt C H A L m ∧ Im H nv nm ∧ (∀ s, mk = some s → s < m) ∧ L.length ≤ 1000 ∧
  ∀ H' : Hp, LinAt C H' A (L ++ [⟨nm, am, mk, none⟩]) m → Fr A.own H H' → Q (.int L.length) H'
def sp_enter (C : Addr) : Sp := fun vs H Q _ => ∃ (A : LA) (L : List Rw) (m j s : Nat) (r : Rw), vs = [.ref A.x, .int j, .int s] ∧ LinAt C H A L m ∧ L[j]? = some r ∧ r.tk = none ∧ s < m ∧ L.length ≤ 1000 ∧
  ∀ H' : Hp, LinAt C H' A (L.set j { r with tk := some s }) m → Fr A.own H H' → Q .non H'
def sp_stations (C : Addr) : Sp := fun vs H Q _ => ∃ (A : LA) (L : List Rw) (m : Nat), vs = [.ref A.x] ∧ LinAt C H A L m ∧ Q (.int m) H
def sp_carriers (C : Addr) : Sp := fun vs H Q _ => ∃ (A : LA) (L : List Rw) (m : Nat), vs = [.ref A.x] ∧ LinAt C H A L m ∧ ∀ p ws, H p = none → Paired (RowAt H) ws L → Q (.ref p) (upd H p (.lst ws))
def sp_carrier (C : Addr) : Sp := fun vs H Q _ => ∃ (A : LA) (L : List Rw) (m k : Nat) (r : Rw), vs = [.ref A.x, .int k] ∧ LinAt C H A L m ∧ L[k]? = some r ∧ ∀ v, RowAt H v r → Q v H
def sp_entering (C : Addr) : Sp := fun vs H Q _ => ∃ (A : LA) (L : List Rw) (m s : Nat), vs = [.ref A.x, .int s] ∧ LinAt C H A L m ∧ s < m ∧ ∀ p, H p = none → Q (.ref p) (upd H p (.lst ((ixs L (tkIs s)).map V.int)))
def sp_leaving (C : Addr) : Sp := fun vs H Q _ => ∃ (A : LA) (L : List Rw) (m s : Nat), vs = [.ref A.x, .int s] ∧ LinAt C H A L m ∧ s < m ∧ ∀ p, H p = none → Q (.ref p) (upd H p (.lst ((ixs L (mkIs s)).map V.int)))
def sp_outside (C : Addr) : Sp := fun vs H Q _ => ∃ (A : LA) (L : List Rw) (m : Nat), vs = [.ref A.x] ∧ LinAt C H A L m ∧ L.length ≤ 1000 ∧ ∀ p H', H p = none → Same H H' → H' p = some (.lst ((ixs L isOut).map V.int)) → Q (.ref p) H'
def sp_present (C : Addr) : Sp := fun vs H Q _ => ∃ (A : LA) (L : List Rw) (m : Nat), vs = [.ref A.x] ∧ LinAt C H A L m ∧ L.length ≤ 1000 ∧ ∀ p H', H p = none → Same H H' → H' p = some (.lst ((ixs L isOpen).map V.int)) → Q (.ref p) H'
def sp_cell (K : PySem.W.Frag) : Sp := fun vs H Q _ => ∃ (a : Addr) (ns : List Int) (k : Nat), vs = [.ref a, .int k] ∧ SqL K H a (ns.map V.int) ∧ ∀ i, Q (.int i) H
def sp_numbers : Sp := fun vs H Q _ => ∃ (c : Int) (m : Nat), vs = [.int c, .int m] ∧ m ≤ 1000 ∧ ∀ p ns, H p = none → ns.length = m → smallInts ns → Q (.ref p) (upd H p (.lst (ns.map V.int)))
def sp_draw (K : PySem.W.Frag) : Sp := fun vs H Q _ => ∃ (a : Addr) (zs : List Int) (k m : Nat), vs = [.ref a, .int k, .int m] ∧ SqL K H a (zs.map V.int) ∧ k ≤ 1000 ∧ m ≤ 1000 ∧ ∀ p ns, H p = none → ns.length = m → smallInts ns → Q (.ref p) (upd H p (.lst (ns.map V.int)))
def sp_same (K : PySem.W.Frag) (n : Nat) : Sp := fun vs H Q _ => ∃ (told due : V) (d : PyData) (m : Nat), vs = [told, due] ∧ n = m + 1 ∧ Dp K H told d ∧ Dp K H due d ∧ okd m d = true ∧ ∀ H', Same H H' → Q (.bl true) H'
theorem sameI {K : PySem.W.Frag} {H : Hp} {Q : VK} {E : XK} {told due : V} {d : PyData} (h1 : Dp K H told d) (h2 : Dp K H due d) (ho : okd 7 d = true) (k : ∀ H', Same H H' → Q (.bl true) H') : sp_same K 8 [told, due] H Q E := ⟨_, _, d, 7, rfl, rfl, h1, h2, ho, k⟩
/-- a list of ten drawn numbers -/
def Ten (H : Hp) (a : Addr) : Prop := ∃ ns : List Int, H a = some (.lst (ns.map V.int)) ∧ ns.length = 10 ∧ smallInts ns
def sp_name : Sp := fun vs H Q _ => ∃ a, vs = [.ref a] ∧ Ten H a ∧ ∀ v d H', Same H H' → Im H' v d → okd 3 d = true → Q v H'
def sp_amount : Sp := fun vs H Q _ => ∃ a, vs = [.ref a] ∧ Ten H a ∧ ∀ i H', Same H H' → Q (.int i) H'
def sp_open (K : PySem.W.Frag) : Sp := fun vs H Q _ => ∃ (B : BA) (L : List Rw) (m : Nat), vs = [.ref B.b] ∧ BkAt H B L m ∧ L.length ≤ 1000 ∧ ∀ p H', H p = none → Same H H' → H' p = some (.lst ((ixs L isOpen).map V.int)) → Q (.ref p) H'
def sp_add (K : PySem.W.Frag) (C : Addr) : Sp := fun vs H Q _ => ∃ (A : LA) (B : BA) (L : List Rw) (m : Nat) (a : Addr) (mk : Option Nat), vs = [.ref A.x, .ref B.b, .ref a, oV mk] ∧ PAt C H A B L m ∧ Ten H a ∧ (∀ s, mk = some s → s < m) ∧ L.length ≤ 900 ∧
  ∀ (L' : List Rw) (H' : Hp), PAt C H' A B L' m → L'.length = L.length + 1 → Fr (own2 A B) H H' → Q (.bl true) H'
def sp_lenter (K : PySem.W.Frag) (C : Addr) : Sp := fun vs H Q _ => ∃ (A : LA) (B : BA) (L : List Rw) (m : Nat) (a : Addr), vs = [.ref A.x, .ref B.b, .ref a] ∧ PAt C H A B L m ∧ Ten H a ∧ 0 < m ∧ m ≤ 1000 ∧ L.length ≤ 900 ∧ ixs L isOpen ≠ [] ∧
  ∀ (L' : List Rw) (H' : Hp), PAt C H' A B L' m → L'.length = L.length → Fr (own2 A B) H H' → Q (.bl true) H'
def sp_call (K : PySem.W.Frag) (C : Addr) : Sp := fun vs H Q _ => ∃ (A : LA) (B : BA) (L : List Rw) (m : Nat) (a : Addr), vs = [.ref A.x, .ref B.b, .ref a] ∧ PAt C H A B L m ∧ Ten H a ∧ m ≤ 900 ∧ L.length ≤ 900 ∧
  ∀ (A' : LA) (L' : List Rw) (m' : Nat) (H' : Hp), PAt C H' A' B L' m' → A'.x = A.x → L'.length ≤ L.length + 1 → m' ≤ m + 1 → Fr (own2 A B) H H' → (∀ a ∈ own2 A' B, a ∈ own2 A B ∨ H a = none) → Q (.bl true) H'
def sp_due (K : PySem.W.Frag) (C : Addr) : Sp := fun vs H Q _ => ∃ (A : LA) (B : BA) (L : List Rw) (m : Nat), vs = [.ref A.x, .ref B.b] ∧ PAt C H A B L m ∧ m ≤ 1000 ∧ L.length ≤ 1000 ∧ ∀ H', Same H H' → Q (.bl true) H'
def sp_law (K : PySem.W.Frag) (C : Addr) : Sp := fun vs H Q _ => ∃ (a : Addr) (ns : List Int), vs = [.ref a] ∧ Only H ∧ SqL K H a (ns.map V.int) ∧ ns.length ≤ 63 ∧ ∀ H', Q (.bl true) H'
/-- what is asked of the class -/
structure ClsFacts (K : PySem.W.Frag) (C : Addr) : Prop where
  cl : Cls K C
  nc : NoAttr K C "_carriers"
  ni : NoAttr K C "_ins"
  no : NoAttr K C "_outs"
/-- Lineage.__init__: 0 self -/
def rd_init (K : PySem.W.Frag) (C : Addr) : TS :=
    (tSeq (sFld K (tVar 0) (tLst tNil) "_carriers")
    (tSeq (sFld K (tVar 0) (tLst tNil) "_ins")
    (sFld K (tVar 0) (tLst tNil) "_outs")))
/-- Lineage.station: 0 self -/
def rd_station (K : PySem.W.Frag) (C : Addr) : TS :=
    (tSeq (tDrop (tBM K "list" rAppend (tFld K (tVar 0) "_ins") (tCons (tLst tNil) tNil)))
    (tSeq (tDrop (tBM K "list" rAppend (tFld K (tVar 0) "_outs") (tCons (tLst tNil) tNil)))
    (tRet (tOp r_sub (tCB (rdLen K) (tCons (tFld K (tVar 0) "_ins") tNil)) (tC (.int 1))))))
/-- Lineage.put: 0 self 1 name 2 amount 3 maker 4 index -/
def rd_put (K : PySem.W.Frag) (C : Addr) : TS :=
    (tSeq (tAsg (tCB (rdLen K) (tCons (tFld K (tVar 0) "_carriers") tNil)) (gName 4))
    (tSeq (tDrop (tBM K "list" rAppend (tFld K (tVar 0) "_carriers") (tCons (tTup (tCons (tVar 1) (tCons (tVar 2) (tCons (tVar 3) (tCons (tC .non) tNil))))) tNil)))
    (tSeq (tIfS (tTest (tOp r_notN (tVar 3) (tC .non))) (tDrop (tBM K "list" rAppend (tOp (rdIx K) (tFld K (tVar 0) "_outs") (tVar 3)) (tCons (tVar 4) tNil))) tNext)
    (tRet (tVar 4)))))
/-- Lineage.enter: 0 self 1 index 2 station 3 name 4 amount 5 maker 6 _ -/
def rd_enter (K : PySem.W.Frag) (C : Addr) : TS :=
    (tSeq (tAsg (tOp (rdIx K) (tFld K (tVar 0) "_carriers") (tVar 1)) (gTup K 4 (gCons (gName 3) (gCons (gName 4) (gCons (gName 5) (gCons (gName 6) gNil))))))
    (tSeq (tAsg (tTup (tCons (tVar 3) (tCons (tVar 4) (tCons (tVar 5) (tCons (tVar 2) tNil))))) (gSub (tFld K (tVar 0) "_carriers") (tVar 1) rdSet))
    (tDrop (tBM K "list" rAppend (tOp (rdIx K) (tFld K (tVar 0) "_ins") (tVar 2)) (tCons (tVar 1) tNil)))))
/-- Lineage.stations: 0 self -/
def rd_stations (K : PySem.W.Frag) (C : Addr) : TS :=
    (tRet (tCB (rdLen K) (tCons (tFld K (tVar 0) "_ins") tNil)))
/-- Lineage.carriers: 0 self -/
def rd_carriers (K : PySem.W.Frag) (C : Addr) : TS :=
    (tRet (tCB (r_listof K) (tCons (tFld K (tVar 0) "_carriers") tNil)))
/-- Lineage.carrier: 0 self 1 index -/
def rd_carrier (K : PySem.W.Frag) (C : Addr) : TS :=
    (tRet (tOp (rdIx K) (tFld K (tVar 0) "_carriers") (tVar 1)))
/-- Lineage.entering: 0 self 1 station -/
def rd_entering (K : PySem.W.Frag) (C : Addr) : TS :=
    (tRet (tCB (rSortedI K) (tCons (tOp (rdIx K) (tFld K (tVar 0) "_ins") (tVar 1)) tNil)))
/-- Lineage.leaving: 0 self 1 station -/
def rd_leaving (K : PySem.W.Frag) (C : Addr) : TS :=
    (tRet (tCB (r_listof K) (tCons (tOp (rdIx K) (tFld K (tVar 0) "_outs") (tVar 1)) tNil)))
/-- Lineage.outside: 0 self 1 index 2 carrier -/
def rd_outside (K : PySem.W.Frag) (C : Addr) : TS :=
    (tRet (tLc (iEnum K (tCons (tFld K (tVar 0) "_carriers") tNil)) (gTup K 2 (gCons (gName 1) (gCons (gName 2) gNil))) (tTest (tOp r_isN (tOp (rdIx K) (tVar 2) (tC (.int 2))) (tC .non))) (tVar 1) [1, 2]))
/-- Lineage.present: 0 self 1 index 2 carrier -/
def rd_present (K : PySem.W.Frag) (C : Addr) : TS :=
    (tRet (tLc (iEnum K (tCons (tFld K (tVar 0) "_carriers") tNil)) (gTup K 2 (gCons (gName 1) (gCons (gName 2) gNil))) (tTest (tOp r_isN (tOp (rdIx K) (tVar 2) (tC (.int 3))) (tC .non))) (tVar 1) [1, 2]))
/-- _law_cell: 0 script 1 k -/
def rd_cell (K : PySem.W.Frag) (C : Addr) : TS :=
    (tSeq (tIfS (tTest (tOp r_lt (tVar 1) (tCB (rdLen K) (tCons (tVar 0) tNil)))) (tRet (tOp (rdIx K) (tVar 0) (tVar 1))) tNext)
    (tRet (tC (.int 0))))
/-- _law_numbers: 0 cell 1 many 2 rest 3 whole 4 numbers 5 k 6 mixed -/
def rd_numbers (K : PySem.W.Frag) (C : Addr) : TS :=
    (tSeq (tAsg (tCB r_abs (tCons (tVar 0) tNil)) (gName 2))
    (tSeq (tAsg (tVar 2) (gName 3))
    (tSeq (tAsg (tLst tNil) (gName 4))
    (tSeq (tFor (iRng1 (tCons (tVar 1) tNil)) (gName 5) (tIfS (tAnd (tTest (tOp r_ge (tVar 3) (tOp r_pow (tC (.int 10)) (tC (.int 18))))) (tTest (tOp r_gt (tVar 2) (tC (.int 0))))) (tSeq (tDrop (tBM K "list" rAppend (tVar 4) (tCons (tOp r_mod (tCB r_int1 (tCons (tVar 2) tNil)) (tC (.int 1000))) tNil)))
    (tAsg (tOp r_fdiv (tVar 2) (tC (.int 1000))) (gName 2))) (tSeq (tAsg (tOp r_mod (tCB r_int1 (tCons (tOp r_add (tOp r_add (tOp r_mul (tVar 3) (tC (.int 48271))) (tOp r_mul (tVar 5) (tC (.int 69621)))) (tC (.int 11))) tNil)) (tC (.int 2147483647))) (gName 6))
    (tSeq (tAsg (tOp r_mod (tCB r_int1 (tCons (tOp r_add (tOp r_add (tOp r_mul (tVar 6) (tVar 6)) (tOp r_mul (tC (.int 40692)) (tVar 5))) (tC (.int 3))) tNil)) (tC (.int 2147483629))) (gName 6))
    (tDrop (tBM K "list" rAppend (tVar 4) (tCons (tOp r_mod (tCB r_int1 (tCons (tOp r_fdiv (tVar 6) (tC (.int 7))) tNil)) (tC (.int 1000))) tNil)))))))
    (tRet (tVar 4))))))
/-- _law_draw: 0 script 1 k 2 many -/
def rd_draw (K : PySem.W.Frag) (C : Addr) : TS :=
    (tSeq (tIfS (tTest (tOp r_lt (tVar 1) (tCB (rdLen K) (tCons (tVar 0) tNil)))) (tRet (tCall (sp_numbers) [] E0 (tCons (tOp (rdIx K) (tVar 0) (tVar 1)) (tCons (tVar 2) tNil)))) tNext)
    (tRet (tCall (sp_numbers) [] E0 (tCons (tOp r_add (tOp r_mod (tCB r_int1 (tCons (tCall (sp_cell K) [] E0 (tCons (tVar 0) (tCons (tC (.int 0)) tNil))) tNil)) (tC (.int 1000000007))) (tOp r_mul (tC (.int 7919)) (tVar 1))) (tCons (tVar 2) tNil)))))
/-- _law_same: 0 told 1 due 2 k -/
def rd_same (K : PySem.W.Frag) (C : Addr) (n : Nat) : TS :=
    (tSeq (tIfS (tTest (tOp r_isN (tVar 1) (tC .non))) (tRet (tOp r_isN (tVar 0) (tC .non))) tNext)
    (tSeq (tIfS (tTru K (tCB (rIsi K) (tCons (tVar 1) (tCons (tC (.ty "str")) tNil)))) (tRet (tAndV (tCB (rIsi K) (tCons (tVar 0) (tCons (tC (.ty "str")) tNil))) (tOp (rdEq K) (tVar 0) (tVar 1)))) tNext)
    (tSeq (tIfS (tTru K (tCB (rIsi K) (tCons (tVar 1) (tCons (tC (.ty "int")) tNil)))) (tRet (tAndV (tCB (rIsi K) (tCons (tVar 0) (tCons (tC (.ty "int")) tNil))) (tAndV (tNotV (tCB (rIsi K) (tCons (tVar 0) (tCons (tC (.ty "bool")) tNil)))) (tOp (rdEq K) (tVar 0) (tVar 1))))) tNext)
    (tSeq (tIfS (tAnd (tTru K (tCB (rIsi K) (tCons (tVar 1) (tCons (tC (.ty "list")) tNil)))) (tNot (tTru K (tCB (rIsi K) (tCons (tVar 0) (tCons (tC (.ty "list")) tNil)))))) (tRet (tC (.bl false))) tNext)
    (tSeq (tIfS (tAnd (tTru K (tCB (rIsi K) (tCons (tVar 1) (tCons (tC (.ty "tuple")) tNil)))) (tNot (tTru K (tCB (rIsi K) (tCons (tVar 0) (tCons (tC (.ty "tuple")) tNil)))))) (tRet (tC (.bl false))) tNext)
    (tSeq (tIfS (tTest (tOp (rdNe K) (tCB (rdLen K) (tCons (tVar 0) tNil)) (tCB (rdLen K) (tCons (tVar 1) tNil)))) (tRet (tC (.bl false))) tNext)
    (tRet (tOp (rdEq K) (tLc (iRng1 (tCons (tCB (rdLen K) (tCons (tVar 1) tNil)) tNil)) (gName 2) (tNot (tTru K (tCall (sp_same K n) [] E0 (tCons (tOp (rdIx K) (tVar 0) (tVar 2)) (tCons (tOp (rdIx K) (tVar 1) (tVar 2)) tNil))))) (tVar 2) [2]) (tLst tNil)))))))))
/-- _law_name: 0 n 1 words 2 word -/
def rd_name (K : PySem.W.Frag) (C : Addr) : TS :=
    (tSeq (tAsg (tLst (tCons (tC (.str "output")) (tCons (tC (.str "reserve")) (tCons (tC (.str "growth")) (tCons (tC (.str "share")) (tCons (tC (.str "drawn")) (tCons (tC (.str "rest")) (tCons (tC (.str "minted")) (tCons (tC (.str "burned")) (tCons (tC (.str "fee")) (tCons (tC (.str "a b")) tNil))))))))))) (gName 1))
    (tSeq (tAsg (tOp (rdIx K) (tVar 1) (tOp r_mod (tOp (rdIx K) (tVar 0) (tC (.int 4))) (tC (.int 10)))) (gName 2))
    (tSeq (tIfS (tTest (tOp (rdEq K) (tOp r_mod (tOp (rdIx K) (tVar 0) (tC (.int 5))) (tC (.int 4))) (tC (.int 0)))) (tRet (tTup (tCons (tVar 2) tNil))) tNext)
    (tSeq (tIfS (tTest (tOp (rdEq K) (tOp r_mod (tOp (rdIx K) (tVar 0) (tC (.int 5))) (tC (.int 4))) (tC (.int 1)))) (tRet (tTup (tCons (tVar 2) (tCons (tOp r_mod (tOp (rdIx K) (tVar 0) (tC (.int 6))) (tC (.int 5))) tNil)))) tNext)
    (tSeq (tIfS (tTest (tOp (rdEq K) (tOp r_mod (tOp (rdIx K) (tVar 0) (tC (.int 5))) (tC (.int 4))) (tC (.int 2)))) (tRet (tTup (tCons (tVar 2) (tCons (tTup (tCons (tOp r_mod (tOp (rdIx K) (tVar 0) (tC (.int 6))) (tC (.int 5))) (tCons (tOp r_mod (tOp (rdIx K) (tVar 0) (tC (.int 7))) (tC (.int 3))) tNil))) tNil)))) tNext)
    (tRet (tTup (tCons (tVar 2) (tCons (tOp r_add (tOp r_mul (tOp (rdIx K) (tVar 0) (tC (.int 6))) (tOp r_pow (tC (.int 10)) (tC (.int 6)))) (tOp (rdIx K) (tVar 0) (tC (.int 7)))) (tCons (tOp r_mod (tOp (rdIx K) (tVar 0) (tC (.int 7))) (tC (.int 4))) tNil))))))))))
/-- _law_amount: 0 n -/
def rd_amount (K : PySem.W.Frag) (C : Addr) : TS :=
    (tRet (tOp (rdIx K) (tLst (tCons (tC (.int 1)) (tCons (tOp r_add (tC (.int 1)) (tOp (rdIx K) (tVar 0) (tC (.int 8)))) (tCons (tOp r_add (tOp r_pow (tC (.int 10)) (tC (.int 15))) (tOp r_mul (tOp (rdIx K) (tVar 0) (tC (.int 8))) (tOp r_pow (tC (.int 10)) (tC (.int 9))))) (tCons (tOp r_sub (tOp r_sub (tOp r_pow (tC (.int 10)) (tC (.int 40))) (tC (.int 1))) (tOp (rdIx K) (tVar 0) (tC (.int 8)))) tNil))))) (tOp r_mod (tOp (rdIx K) (tVar 0) (tC (.int 9))) (tC (.int 4)))))
/-- _law_open: 0 book 1 k -/
def rd_open (K : PySem.W.Frag) (C : Addr) : TS :=
    (tRet (tLc (iRng1 (tCons (tCB (rdLen K) (tCons (tOp (rdIx K) (tVar 0) (tC (.str "rows"))) tNil)) tNil)) (gName 1) (tTest (tOp r_isN (tOp (rdIx K) (tOp (rdIx K) (tOp (rdIx K) (tVar 0) (tC (.str "rows"))) (tVar 1)) (tC (.int 3))) (tC .non))) (tVar 1) [1]))
/-- _law_add: 0 lineage 1 book 2 n 3 maker 4 row 5 told 6 index -/
def rd_add (K : PySem.W.Frag) (C : Addr) : TS :=
    (tSeq (tAsg (tTup (tCons (tCall (sp_name) [] E0 (tCons (tVar 2) tNil)) (tCons (tCall (sp_amount) [] E0 (tCons (tVar 2) tNil)) (tCons (tVar 3) (tCons (tC .non) tNil))))) (gName 4))
    (tSeq (tAsg (tMeth C "put" (sp_put C) [] E0 (tVar 0) (tCons (tOp (rdIx K) (tVar 4) (tC (.int 0))) (tCons (tOp (rdIx K) (tVar 4) (tC (.int 1))) (tCons (tVar 3) tNil)))) (gName 5))
    (tSeq (tDrop (tBM K "list" rAppend (tOp (rdIx K) (tVar 1) (tC (.str "rows"))) (tCons (tVar 4) tNil)))
    (tSeq (tAsg (tOp r_sub (tCB (rdLen K) (tCons (tOp (rdIx K) (tVar 1) (tC (.str "rows"))) tNil)) (tC (.int 1))) (gName 6))
    (tRet (tAndV (tCall (sp_same K 8) [] E0 (tCons (tVar 5) (tCons (tVar 6) tNil))) (tCall (sp_same K 8) [] E0 (tCons (tMeth C "carrier" (sp_carrier C) [] E0 (tVar 0) (tCons (tVar 6) tNil)) (tCons (tVar 4) tNil)))))))))
/-- _law_enter: 0 lineage 1 book 2 n 3 there 4 index 5 station 6 row -/
def rd_lenter (K : PySem.W.Frag) (C : Addr) : TS :=
    (tSeq (tAsg (tCall (sp_open K) [] E0 (tCons (tVar 1) tNil)) (gName 3))
    (tSeq (tAsg (tOp (rdIx K) (tVar 3) (tOp r_mod (tOp (rdIx K) (tVar 2) (tC (.int 2))) (tCB (rdLen K) (tCons (tVar 3) tNil)))) (gName 4))
    (tSeq (tAsg (tOp r_mod (tOp (rdIx K) (tVar 2) (tC (.int 3))) (tOp (rdIx K) (tVar 1) (tC (.str "many")))) (gName 5))
    (tSeq (tDrop (tMeth C "enter" (sp_enter C) [] E0 (tVar 0) (tCons (tVar 4) (tCons (tVar 5) tNil))))
    (tSeq (tAsg (tOp (rdIx K) (tOp (rdIx K) (tVar 1) (tC (.str "rows"))) (tVar 4)) (gName 6))
    (tSeq (tAsg (tTup (tCons (tOp (rdIx K) (tVar 6) (tC (.int 0))) (tCons (tOp (rdIx K) (tVar 6) (tC (.int 1))) (tCons (tOp (rdIx K) (tVar 6) (tC (.int 2))) (tCons (tVar 5) tNil))))) (gSub (tOp (rdIx K) (tVar 1) (tC (.str "rows"))) (tVar 4) rdSet))
    (tRet (tCall (sp_same K 8) [] E0 (tCons (tMeth C "carrier" (sp_carrier C) [] E0 (tVar 0) (tCons (tVar 4) tNil)) (tCons (tOp (rdIx K) (tOp (rdIx K) (tVar 1) (tC (.str "rows"))) (tVar 4)) tNil))))))))))
/-- _law_call: 0 lineage 1 book 2 n 3 deed 4 told -/
def rd_call (K : PySem.W.Frag) (C : Addr) : TS :=
    (tSeq (tAsg (tOp r_mod (tOp (rdIx K) (tVar 2) (tC (.int 1))) (tC (.int 5))) (gName 3))
    (tSeq (tIfS (tOr (tTest (tOp (rdEq K) (tVar 3) (tC (.int 0)))) (tAnd (tTest (tOp (rdEq K) (tOp (rdIx K) (tVar 1) (tC (.str "many"))) (tC (.int 0)))) (tTest (tOp r_gt (tVar 3) (tC (.int 1)))))) (tSeq (tAsg (tMeth C "station" (sp_station C) [] E0 (tVar 0) tNil) (gName 4))
    (tSeq (tAsg (tOp r_add (tOp (rdIx K) (tVar 1) (tC (.str "many"))) (tC (.int 1))) (gSub (tVar 1) (tC (.str "many")) rdSet))
    (tRet (tCall (sp_same K 8) [] E0 (tCons (tVar 4) (tCons (tOp r_sub (tOp (rdIx K) (tVar 1) (tC (.str "many"))) (tC (.int 1))) tNil)))))) tNext)
    (tSeq (tIfS (tAnd (tTest (tOp r_gt (tVar 3) (tC (.int 2)))) (tTest (tOp (rdNe K) (tCall (sp_open K) [] E0 (tCons (tVar 1) tNil)) (tLst tNil)))) (tRet (tCall (sp_lenter K C) [] E0 (tCons (tVar 0) (tCons (tVar 1) (tCons (tVar 2) tNil))))) tNext)
    (tSeq (tIfS (tTest (tOp (rdEq K) (tVar 3) (tC (.int 1)))) (tRet (tCall (sp_add K C) [] E0 (tCons (tVar 0) (tCons (tVar 1) (tCons (tVar 2) (tCons (tC .non) tNil)))))) tNext)
    (tRet (tCall (sp_add K C) [] E0 (tCons (tVar 0) (tCons (tVar 1) (tCons (tVar 2) (tCons (tOp r_mod (tOp (rdIx K) (tVar 2) (tC (.int 3))) (tOp (rdIx K) (tVar 1) (tC (.str "many")))) tNil))))))))))
/-- _law_as_due: 0 lineage 1 book 2 rows 3 told 4 due 5 k 6 station 7 row -/
def rd_as_due (K : PySem.W.Frag) (C : Addr) : TS :=
    (tSeq (tAsg (tOp (rdIx K) (tVar 1) (tC (.str "rows"))) (gName 2))
    (tSeq (tAsg (tLst (tCons (tMeth C "carriers" (sp_carriers C) [] E0 (tVar 0) tNil) (tCons (tMeth C "outside" (sp_outside C) [] E0 (tVar 0) tNil) (tCons (tMeth C "present" (sp_present C) [] E0 (tVar 0) tNil) tNil)))) (gName 3))
    (tSeq (tAsg (tLst (tCons (tCB (r_listof K) (tCons (tVar 2) tNil)) (tCons (tLc (iRng1 (tCons (tCB (rdLen K) (tCons (tVar 2) tNil)) tNil)) (gName 5) (tTest (tOp r_isN (tOp (rdIx K) (tOp (rdIx K) (tVar 2) (tVar 5)) (tC (.int 2))) (tC .non))) (tVar 5) [5]) (tCons (tCall (sp_open K) [] E0 (tCons (tVar 1) tNil)) tNil)))) (gName 4))
    (tSeq (tFor (iRng1 (tCons (tOp (rdIx K) (tVar 1) (tC (.str "many"))) tNil)) (gName 6) (tSeq (tDrop (tBM K "list" rAppend (tVar 3) (tCons (tMeth C "entering" (sp_entering C) [] E0 (tVar 0) (tCons (tVar 6) tNil)) tNil)))
    (tSeq (tDrop (tBM K "list" rAppend (tVar 4) (tCons (tLc (iRng1 (tCons (tCB (rdLen K) (tCons (tVar 2) tNil)) tNil)) (gName 5) (tTest (tOp (rdEq K) (tOp (rdIx K) (tOp (rdIx K) (tVar 2) (tVar 5)) (tC (.int 3))) (tVar 6))) (tVar 5) [5]) tNil)))
    (tSeq (tDrop (tBM K "list" rAppend (tVar 3) (tCons (tMeth C "leaving" (sp_leaving C) [] E0 (tVar 0) (tCons (tVar 6) tNil)) tNil)))
    (tDrop (tBM K "list" rAppend (tVar 4) (tCons (tLc (iRng1 (tCons (tCB (rdLen K) (tCons (tVar 2) tNil)) tNil)) (gName 5) (tTest (tOp (rdEq K) (tOp (rdIx K) (tOp (rdIx K) (tVar 2) (tVar 5)) (tC (.int 2))) (tVar 6))) (tVar 5) [5]) tNil)))))))
    (tSeq (tIfS (tOr (tNot (tTru K (tCall (sp_same K 8) [] E0 (tCons (tVar 3) (tCons (tVar 4) tNil))))) (tNot (tTru K (tCall (sp_same K 8) [] E0 (tCons (tMeth C "stations" (sp_stations C) [] E0 (tVar 0) tNil) (tCons (tOp (rdIx K) (tVar 1) (tC (.str "many"))) tNil)))))) (tRet (tC (.bl false))) tNext)
    (tSeq (tFor (iRng1 (tCons (tCB (rdLen K) (tCons (tVar 2) tNil)) tNil)) (gName 5) (tIfS (tNot (tTru K (tCall (sp_same K 8) [] E0 (tCons (tMeth C "carrier" (sp_carrier C) [] E0 (tVar 0) (tCons (tVar 5) tNil)) (tCons (tOp (rdIx K) (tVar 2) (tVar 5)) tNil))))) (tRet (tC (.bl false))) tNext))
    (tSeq (tFor (rdIter K (tVar 3)) (gName 7) (tSeq (tDrop (tBM K "list" r_insert (tVar 7) (tCons (tC (.int 0)) (tCons (tC (.int 7)) tNil))))
    (tDrop (tBM K "list" rAppend (tVar 7) (tCons (tC (.int 8)) tNil)))))
    (tRet (tC (.bl true))))))))))
/-- law: 0 script 1 first 2 lineages 3 books 4 at 5 k 6 n 7 turn -/
def rd_law (K : PySem.W.Frag) (C : Addr) : TS :=
    (tSeq (tAsg (tCall (sp_numbers) [] E0 (tCons (tCall (sp_cell K) [] E0 (tCons (tVar 0) (tCons (tC (.int 0)) tNil))) (tCons (tC (.int 4)) tNil))) (gName 1))
    (tSeq (tAsg (tLst (tCons (tMake C (sp_init C) [] E0 tNil) (tCons (tMake C (sp_init C) [] E0 tNil) tNil))) (gName 2))
    (tSeq (tAsg (tLst (tCons (tDisp [((tC (.str "rows")), (tLst tNil)), ((tC (.str "many")), (tC (.int 0)))]) (tCons (tDisp [((tC (.str "rows")), (tLst tNil)), ((tC (.str "many")), (tC (.int 0)))]) tNil))) (gName 3))
    (tSeq (tIfS (tTest (tOp (rdEq K) (tOp r_mod (tOp (rdIx K) (tVar 1) (tC (.int 0))) (tC (.int 8))) (tC (.int 3)))) (tSeq (tAsg (tOp r_mod (tOp (rdIx K) (tVar 1) (tC (.int 1))) (tC (.int 2))) (gName 4))
    (tFor (iRng1 (tCons (tOp r_mod (tOp (rdIx K) (tVar 1) (tC (.int 2))) (tC (.int 251))) tNil)) (gName 5) (tIfS (tNot (tTru K (tCall (sp_call K C) [] E0 (tCons (tOp (rdIx K) (tVar 2) (tVar 4)) (tCons (tOp (rdIx K) (tVar 3) (tVar 4)) (tCons (tCall (sp_numbers) [] E0 (tCons (tCB r_int1 (tCons (tOp r_add (tOp r_mul (tOp (rdIx K) (tVar 1) (tC (.int 3))) (tC (.int 4001))) (tOp r_mul (tVar 5) (tC (.int 577)))) tNil)) (tCons (tC (.int 10)) tNil))) tNil)))))) (tRet (tC (.bl false))) tNext))) tNext)
    (tSeq (tFor (iRng2 (tCons (tC (.int 1)) (tCons (tCB r_min2 (tCons (tC (.int 62)) (tCons (tCB r_max2 (tCons (tC (.int 4)) (tCons (tCB (rdLen K) (tCons (tVar 0) tNil)) tNil))) tNil))) tNil))) (gName 5) (tSeq (tAsg (tCall (sp_draw K) [] E0 (tCons (tVar 0) (tCons (tVar 5) (tCons (tC (.int 10)) tNil)))) (gName 6))
    (tSeq (tAsg (tOp r_mod (tOp (rdIx K) (tVar 6) (tC (.int 0))) (tC (.int 2))) (gName 4))
    (tSeq (tIfS (tNot (tTru K (tCall (sp_call K C) [] E0 (tCons (tOp (rdIx K) (tVar 2) (tVar 4)) (tCons (tOp (rdIx K) (tVar 3) (tVar 4)) (tCons (tVar 6) tNil)))))) (tRet (tC (.bl false))) tNext)
    (tIfS (tAnd (tTest (tOp (rdEq K) (tOp r_mod (tVar 5) (tC (.int 4))) (tC (.int 0)))) (tTest (tOp r_lt (tOp r_add (tCB (rdLen K) (tCons (tOp (rdIx K) (tOp (rdIx K) (tVar 3) (tC (.int 0))) (tC (.str "rows"))) tNil)) (tCB (rdLen K) (tCons (tOp (rdIx K) (tOp (rdIx K) (tVar 3) (tC (.int 1))) (tC (.str "rows"))) tNil))) (tC (.int 80))))) (tIfS (tOr (tNot (tTru K (tCall (sp_due K C) [] E0 (tCons (tOp (rdIx K) (tVar 2) (tC (.int 0))) (tCons (tOp (rdIx K) (tVar 3) (tC (.int 0))) tNil))))) (tNot (tTru K (tCall (sp_due K C) [] E0 (tCons (tOp (rdIx K) (tVar 2) (tC (.int 1))) (tCons (tOp (rdIx K) (tVar 3) (tC (.int 1))) tNil)))))) (tRet (tC (.bl false))) tNext) tNext)))))
    (tSeq (tFor (iRng1 (tCons (tC (.int 2)) tNil)) (gName 7) (tIfS (tOr (tNot (tTru K (tCall (sp_due K C) [] E0 (tCons (tOp (rdIx K) (tVar 2) (tC (.int 0))) (tCons (tOp (rdIx K) (tVar 3) (tC (.int 0))) tNil))))) (tNot (tTru K (tCall (sp_due K C) [] E0 (tCons (tOp (rdIx K) (tVar 2) (tC (.int 1))) (tCons (tOp (rdIx K) (tVar 3) (tC (.int 1))) tNil)))))) (tRet (tC (.bl false))) tNext))
    (tRet (tC (.bl true)))))))))
end Z

namespace Z
open PySem PySem.Spec PyProof.Rows L2 Y
local macro_rules | `(tactic| walk_at "ne") => `(tactic| first
  | assumption
  | (apply Ne.symm; assumption)
  | (refine ne_of_none ?_ (by assumption); first | assumption | exact upd_same)
  | (apply Ne.symm; refine ne_of_none ?_ (by assumption); first | assumption | exact upd_same))
local macro_rules | `(tactic| walk_at "hp") => `(tactic| first
  | assumption
  | exact upd_same
  | (refine Eq.trans (upd_ne ?nn) ?_; (case nn => walk_at "ne"); walk_at "hp"))
local macro_rules | `(tactic| walk_at "cmul") => `(tactic| first
  | exact Or.inr ⟨by decide, by decide⟩
  | exact Or.inl ⟨by decide, by decide⟩
  | exact Or.inr ⟨by omega, by omega⟩
  | exact Or.inl ⟨by omega, by omega⟩)
local macro_rules | `(tactic| walk_at "len") => `(tactic| first
  | exact of_decide_eq_true rfl
  | (show _ < 16777216; assumption)
  | (show _ ≤ 16777216; assumption)
  | (show _ ≤ 16777216; simp; done)
  | (show _ < 16777216; simp; omega)
  | (show _ ≤ 16777216; simp; omega))
local macro_rules | `(tactic| walk_at "cf") => `(tactic| assumption)
local macro_rules | `(tactic| walk_at "flen") => `(tactic| first | exact of_decide_eq_true rfl | decide | (show _ < 1000; decide) | (simp; done))
local macro_rules | `(tactic| walk_at "ty") => `(tactic| first
  | exact .base .non
  | exact .base (.bl _)
  | exact .base (.int _)
  | exact .base (.str _)
  | assumption
  | (refine .base (.lst ?_); walk_at "hp")
  | (refine .base (.tup ?_); walk_at "hp")
  | (refine .base (.dK ?_); walk_at "hp"))
local macro_rules | `(tactic| walk_at "kit") => `(tactic| first
  | exact kit_NoneType_bool
  | exact kit_NoneType_int
  | exact kit_NoneType_str
  | exact kit_NoneType_list
  | exact kit_NoneType_tuple
  | exact kit_NoneType_dict
  | exact kit_bool_bool
  | exact kit_bool_int
  | exact kit_bool_str
  | exact kit_bool_list
  | exact kit_bool_tuple
  | exact kit_bool_dict
  | exact kit_int_bool
  | exact kit_int_int
  | exact kit_int_str
  | exact kit_int_list
  | exact kit_int_tuple
  | exact kit_int_dict
  | exact kit_str_bool
  | exact kit_str_int
  | exact kit_str_str
  | exact kit_str_list
  | exact kit_str_tuple
  | exact kit_str_dict
  | exact kit_list_bool
  | exact kit_list_int
  | exact kit_list_str
  | exact kit_list_list
  | exact kit_list_tuple
  | exact kit_list_dict
  | exact kit_tuple_bool
  | exact kit_tuple_int
  | exact kit_tuple_str
  | exact kit_tuple_list
  | exact kit_tuple_tuple
  | exact kit_tuple_dict
  | exact kit_dict_bool
  | exact kit_dict_int
  | exact kit_dict_str
  | exact kit_dict_list
  | exact kit_dict_tuple
  | exact kit_dict_dict)
local macro_rules | `(tactic| walk_at "y1") => `(tactic| first
  | with_reducible apply s_seq
  | with_reducible apply s_asg
  | ((with_reducible apply s_var); (first | exact rfl | assumption))
  | with_reducible apply s_c
  | with_reducible apply s_op
  | with_reducible apply s_gname
  | with_reducible apply s_cons
  | with_reducible apply s_nil
  | with_reducible apply s_cb
  | with_reducible apply s_if
  | with_reducible apply s_test
  | with_reducible apply s_bl
  | with_reducible apply s_trubl
  | with_reducible apply s_tru
  | with_reducible apply s_and
  | with_reducible apply s_or
  | with_reducible apply s_not
  | with_reducible apply s_andV
  | with_reducible apply s_orV
  | with_reducible apply s_notV
  | with_reducible apply s_ifE
  | with_reducible apply s_true
  | with_reducible apply s_false
  | with_reducible apply s_nfalse
  | with_reducible apply s_ntrue
  | with_reducible apply s_drop
  | with_reducible apply s_ret
  | with_reducible apply s_retN
  | with_reducible apply s_next
  | with_reducible apply s_add
  | with_reducible apply s_sub
  | ((with_reducible apply s_mul); (walk_at "cmul"))
  | ((with_reducible apply s_fdiv); (exact ⟨by decide, by decide⟩))
  | ((with_reducible apply s_mod); (first | decide | omega))
  | ((with_reducible apply s_pow); (exact ⟨by decide, by decide, by decide⟩))
  | with_reducible apply s_neg
  | with_reducible apply s_lt
  | with_reducible apply s_le
  | with_reducible apply s_gt
  | with_reducible apply s_ge
  | with_reducible apply s_isN_non
  | with_reducible apply s_isN_int
  | with_reducible apply s_isN_str
  | with_reducible apply s_isN_ref
  | with_reducible apply s_notN_non
  | with_reducible apply s_notN_int
  | with_reducible apply s_notN_str
  | with_reducible apply s_notN_ref
  | with_reducible apply s_abs
  | with_reducible apply s_max2
  | with_reducible apply s_min2
  | with_reducible apply s_int1
  | with_reducible apply s_eqI
  | with_reducible apply s_eqNI
  | with_reducible apply s_neI
  | with_reducible apply s_eqS
  | with_reducible apply s_call
  | with_reducible apply s_mklst
  | with_reducible apply s_mktup
  | with_reducible apply s_bmL
  | with_reducible apply s_iRng1
  | with_reducible apply s_iRng2
  | with_reducible apply s_iEnum
  | with_reducible apply s_iter
  | with_reducible apply s_turn
  | with_reducible apply s_tyes
  | ((with_reducible refine' s_wipe ?yw ?yk); (case yw => exact rfl))
  | with_reducible apply s_gsub
  | with_reducible apply s_gcons
  | with_reducible apply s_gnil
  | with_reducible apply s_sfld
  | with_reducible apply s_meth
  | with_reducible apply s_make
  | with_reducible apply s_disp
  | with_reducible apply s_pnil
  | with_reducible apply s_pcons
  | ((with_reducible refine' s_gtup ?yh ?yl ?yk); (case yh => walk_at "hp"); (case yl => exact rfl))
  | ((with_reducible refine' s_setL ?yh ?yj ?yk); (case yh => walk_at "hp"); (case yj => first | assumption | exact rfl))
  | ((with_reducible refine' s_setDS ?yh ?yl ?yk); (case yh => walk_at "hp"); (case yl => walk_at "len"))
  | ((with_reducible refine' s_setf ?yh ?yc ?yn ?yl ?yk); (case yh => walk_at "hp"); (case yc => walk_at "cf"); (case yn => walk_at "cf"); (case yl => walk_at "flen"))
  | ((with_reducible refine' s_recv ?yh ?yl ?yk); (case yh => walk_at "hp"); (case yl => exact rfl))
  | ((with_reducible refine' s_ixDS ?yh ?ya ?yk); (case yh => walk_at "hp"); (case ya => first | assumption | exact rfl))
  | ((with_reducible refine' s_tyL ?yh ?yk); (case yh => walk_at "hp"))
  | ((with_reducible refine' s_append ?yh ?yl ?yk); (case yh => walk_at "hp"); (case yl => walk_at "len"))
  | ((with_reducible refine' s_lenL ?yh ?yk); (case yh => walk_at "hp"))
  | ((with_reducible refine' s_lenLs ?yh ?yk); (case yh => assumption))
  | ((with_reducible refine' s_lenT ?yh ?yk); (case yh => walk_at "hp"))
  | ((with_reducible refine' s_lenTs ?yh ?yk); (case yh => assumption))
  | ((with_reducible refine' s_lenE ?yh ?yk); (case yh => assumption))
  | ((with_reducible refine' s_ixE ?yh ?ya ?yk); (case yh => assumption); (case ya => first | assumption | exact rfl))
  | ((with_reducible refine' s_ixTs ?yh ?ya ?yk); (case yh => assumption); (case ya => first | assumption | exact rfl))
  | ((with_reducible refine' s_isi ?yt ?yb ?yk); (case yt => walk_at "ty"); (case yb => walk_at "kit"))
  | ((with_reducible refine' s_listof ?yh ?yk); (case yh => walk_at "hp"))
  | ((with_reducible refine' s_ixL ?yh ?ya ?yk); (case yh => walk_at "hp"); (case ya => first | assumption | exact rfl))
  | ((with_reducible refine' s_ixT ?yh ?ya ?yk); (case yh => walk_at "hp"); (case ya => first | assumption | exact rfl))
  | ((with_reducible refine' s_ixLs ?yh ?ya ?yk); (case yh => assumption); (case ya => first | assumption | exact rfl))
  | ((with_reducible refine' s_itrL ?yh ?yk); (case yh => walk_at "hp"))
  | ((with_reducible refine' s_itrLs ?yh ?yk); (case yh => assumption))
  | ((with_reducible refine' s_itrT ?yh ?yk); (case yh => walk_at "hp"))
  | ((with_reducible refine' s_enumL ?yh ?yk); (case yh => walk_at "hp"))
  | ((with_reducible refine' s_fldv ?yv ?yh ?yc ?yn ?yl ?yk); (case yv => exact rfl); (case yh => walk_at "hp"); (case yc => walk_at "cf"); (case yn => walk_at "cf"); (case yl => exact rfl)))
local macro_rules | `(tactic| walk_at "yl") => `(tactic| first
  | with_reducible apply s_for
  | with_reducible apply s_lc)
local macro_rules | `(tactic| walk_at "ys") => `(tactic| repeat walk_at "y1")
local macro_rules | `(tactic| walk_at "y") => `(tactic| repeat (first | walk_at "y1" | walk_at "yl"))

local macro_rules | `(tactic| walk_at "cf") => `(tactic| first | exact ClsFacts.cl (by assumption) | exact ClsFacts.nc (by assumption) | exact ClsFacts.ni (by assumption) | exact ClsFacts.no (by assumption))
section
variable {K : PySem.W.Frag} {C : Addr} {vs : List V} {H : Hp} {Q : VK} {E : XK}
theorem p_numbers (h : sp_numbers vs H Q E) : rd_numbers K C { nx := fun _ H' => Q .non H', rt := Q } (start ["cell", "many", "rest", "whole", "numbers", "k", "mixed"] vs) H := by
  obtain ⟨c, m, rfl, hm, k⟩ := h
  unfold rd_numbers
  walk_at "y"
  refine ⟨Nat.zero_le _, fun p hp => ?_⟩
  walk_at "y"
  refine s_rng1 (by omega) (by omega) ?_
  refine f_range (fun i σ H' => ∃ (r w : Int) (x y : Option V) (ns : List Int), σ = [some (.int c), some (.int m), some (.int r), some (.int w), some (.ref p), x, y] ∧ ns.length = i ∧ smallInts ns ∧ H' = upd H p (.lst (ns.map V.int))) ?_ ?_ ?_
  · exact ⟨_, _, none, none, [], rfl, rfl, fun x hx => (by cases hx), rfl⟩
  · rintro i σ H' hi ⟨r, w, x, y, ns, rfl, hl, hs, rfl⟩
    have nx : ∀ (q : Int) (σ' : L2.St) (z : Option V) (r' : Int), σ' = [some (.int c), some (.int m), some (.int r'), some (.int w), some (.ref p), some (.int (0 + (i : Int))), z] →
        ∃ (r w : Int) (x y : Option V) (ns' : List Int), σ' = [some (.int c), some (.int m), some (.int r), some (.int w), some (.ref p), x, y] ∧ ns'.length = i + 1 ∧ smallInts ns' ∧ upd (upd H p (.lst (ns.map V.int))) p (.lst (ns.map V.int ++ [V.int (q % 1000)])) = upd H p (.lst (ns'.map V.int)) := fun q σ' z r' e =>
      ⟨r', w, _, _, ns ++ [q % 1000], e, by simp [hl], hs.app (by omega) (by omega), by rw [upd_upd]; simp⟩
    walk_at "y"
    refine s_dec (fun h1 => ?_) (fun h1 => ?_)
    · walk_at "y"
      refine s_dec (fun h2 => ?_) (fun h2 => ?_)
      · walk_at "y"
        exact nx _ _ _ _ rfl
      · walk_at "y"
        exact nx _ _ _ _ rfl
    · walk_at "y"
      exact nx _ _ _ _ rfl
  · rintro σ H' ⟨r, w, x, y, ns, rfl, hl, hs, rfl⟩
    walk_at "y"
    exact k p ns hp hl hs
theorem p_cell (h : sp_cell K vs H Q E) : rd_cell K C { nx := fun _ H' => Q .non H', rt := Q } (start ["script", "k"] vs) H := by
  obtain ⟨a, ns, j, rfl, hS, k⟩ := h
  unfold rd_cell
  walk_at "y"

  refine s_dec (fun h1 => ?_) (fun h1 => ?_)
  · walk_at "y"
    have hj : j < ns.length := by simp at h1; omega
    refine s_ixLs hS (atI_nat (v := V.int ns[j]) (by simp [hj])) ?_
    exact k _
  · walk_at "y"
    exact k _
theorem p_draw (h : sp_draw K vs H Q E) : rd_draw K C { nx := fun _ H' => Q .non H', rt := Q } (start ["script", "k", "many"] vs) H := by
  obtain ⟨a, ns, j, m, rfl, hS, hj, hm, k⟩ := h
  unfold rd_draw
  walk_at "y"
  refine s_dec (fun h1 => ?_) (fun h1 => ?_)
  · walk_at "y"
    have hj : j < ns.length := by simp at h1; omega
    refine s_ixLs hS (atI_nat (v := V.int ns[j]) (by simp [hj])) ?_
    walk_at "y"
    exact ⟨_, m, rfl, hm, k⟩
  · walk_at "y"
    refine ⟨a, ns, 0, rfl, hS, fun i => ?_⟩
    walk_at "y"
    exact ⟨_, m, rfl, hm, k⟩
end
end Z

namespace Z
open PySem PySem.Spec PyProof.Rows L2 Y
local macro_rules | `(tactic| walk_at "ne") => `(tactic| first
  | assumption
  | (apply Ne.symm; assumption)
  | (refine ne_of_none ?_ (by assumption); first | assumption | exact upd_same)
  | (apply Ne.symm; refine ne_of_none ?_ (by assumption); first | assumption | exact upd_same))
local macro_rules | `(tactic| walk_at "hp") => `(tactic| first
  | assumption
  | exact upd_same
  | (refine Eq.trans (upd_ne ?nn) ?_; (case nn => walk_at "ne"); walk_at "hp"))
local macro_rules | `(tactic| walk_at "cmul") => `(tactic| first
  | exact Or.inr ⟨by decide, by decide⟩
  | exact Or.inl ⟨by decide, by decide⟩
  | exact Or.inr ⟨by omega, by omega⟩
  | exact Or.inl ⟨by omega, by omega⟩)
local macro_rules | `(tactic| walk_at "len") => `(tactic| first
  | exact of_decide_eq_true rfl
  | (show _ < 16777216; assumption)
  | (show _ ≤ 16777216; assumption)
  | (show _ ≤ 16777216; simp; done)
  | (show _ < 16777216; simp; omega)
  | (show _ ≤ 16777216; simp; omega))
local macro_rules | `(tactic| walk_at "cf") => `(tactic| assumption)
local macro_rules | `(tactic| walk_at "flen") => `(tactic| first | exact of_decide_eq_true rfl | decide | (show _ < 1000; decide) | (simp; done))
local macro_rules | `(tactic| walk_at "ty") => `(tactic| first
  | exact .base .non
  | exact .base (.bl _)
  | exact .base (.int _)
  | exact .base (.str _)
  | assumption
  | (refine .base (.lst ?_); walk_at "hp")
  | (refine .base (.tup ?_); walk_at "hp")
  | (refine .base (.dK ?_); walk_at "hp"))
local macro_rules | `(tactic| walk_at "kit") => `(tactic| first
  | exact kit_NoneType_bool
  | exact kit_NoneType_int
  | exact kit_NoneType_str
  | exact kit_NoneType_list
  | exact kit_NoneType_tuple
  | exact kit_NoneType_dict
  | exact kit_bool_bool
  | exact kit_bool_int
  | exact kit_bool_str
  | exact kit_bool_list
  | exact kit_bool_tuple
  | exact kit_bool_dict
  | exact kit_int_bool
  | exact kit_int_int
  | exact kit_int_str
  | exact kit_int_list
  | exact kit_int_tuple
  | exact kit_int_dict
  | exact kit_str_bool
  | exact kit_str_int
  | exact kit_str_str
  | exact kit_str_list
  | exact kit_str_tuple
  | exact kit_str_dict
  | exact kit_list_bool
  | exact kit_list_int
  | exact kit_list_str
  | exact kit_list_list
  | exact kit_list_tuple
  | exact kit_list_dict
  | exact kit_tuple_bool
  | exact kit_tuple_int
  | exact kit_tuple_str
  | exact kit_tuple_list
  | exact kit_tuple_tuple
  | exact kit_tuple_dict
  | exact kit_dict_bool
  | exact kit_dict_int
  | exact kit_dict_str
  | exact kit_dict_list
  | exact kit_dict_tuple
  | exact kit_dict_dict)
local macro_rules | `(tactic| walk_at "y1") => `(tactic| first
  | with_reducible apply s_seq
  | with_reducible apply s_asg
  | ((with_reducible apply s_var); (first | exact rfl | assumption))
  | with_reducible apply s_c
  | with_reducible apply s_op
  | with_reducible apply s_gname
  | with_reducible apply s_cons
  | with_reducible apply s_nil
  | with_reducible apply s_cb
  | with_reducible apply s_if
  | with_reducible apply s_test
  | with_reducible apply s_bl
  | with_reducible apply s_trubl
  | with_reducible apply s_tru
  | with_reducible apply s_and
  | with_reducible apply s_or
  | with_reducible apply s_not
  | with_reducible apply s_andV
  | with_reducible apply s_orV
  | with_reducible apply s_notV
  | with_reducible apply s_ifE
  | with_reducible apply s_true
  | with_reducible apply s_false
  | with_reducible apply s_nfalse
  | with_reducible apply s_ntrue
  | with_reducible apply s_drop
  | with_reducible apply s_ret
  | with_reducible apply s_retN
  | with_reducible apply s_next
  | with_reducible apply s_add
  | with_reducible apply s_sub
  | ((with_reducible apply s_mul); (walk_at "cmul"))
  | ((with_reducible apply s_fdiv); (exact ⟨by decide, by decide⟩))
  | ((with_reducible apply s_mod); (first | decide | omega))
  | ((with_reducible apply s_pow); (exact ⟨by decide, by decide, by decide⟩))
  | with_reducible apply s_neg
  | with_reducible apply s_lt
  | with_reducible apply s_le
  | with_reducible apply s_gt
  | with_reducible apply s_ge
  | with_reducible apply s_isN_non
  | with_reducible apply s_isN_int
  | with_reducible apply s_isN_str
  | with_reducible apply s_isN_ref
  | with_reducible apply s_notN_non
  | with_reducible apply s_notN_int
  | with_reducible apply s_notN_str
  | with_reducible apply s_notN_ref
  | with_reducible apply s_abs
  | with_reducible apply s_max2
  | with_reducible apply s_min2
  | with_reducible apply s_int1
  | with_reducible apply s_eqI
  | with_reducible apply s_eqNI
  | with_reducible apply s_neI
  | with_reducible apply s_eqS
  | with_reducible apply s_call
  | with_reducible apply s_mklst
  | with_reducible apply s_mktup
  | with_reducible apply s_bmL
  | with_reducible apply s_iRng1
  | with_reducible apply s_iRng2
  | with_reducible apply s_iEnum
  | with_reducible apply s_iter
  | with_reducible apply s_turn
  | with_reducible apply s_tyes
  | ((with_reducible refine' s_wipe ?yw ?yk); (case yw => exact rfl))
  | with_reducible apply s_gsub
  | with_reducible apply s_gcons
  | with_reducible apply s_gnil
  | with_reducible apply s_sfld
  | with_reducible apply s_meth
  | with_reducible apply s_make
  | with_reducible apply s_disp
  | with_reducible apply s_pnil
  | with_reducible apply s_pcons
  | ((with_reducible refine' s_gtup ?yh ?yl ?yk); (case yh => walk_at "hp"); (case yl => exact rfl))
  | ((with_reducible refine' s_setL ?yh ?yj ?yk); (case yh => walk_at "hp"); (case yj => first | assumption | exact rfl))
  | ((with_reducible refine' s_setDS ?yh ?yl ?yk); (case yh => walk_at "hp"); (case yl => walk_at "len"))
  | ((with_reducible refine' s_setf ?yh ?yc ?yn ?yl ?yk); (case yh => walk_at "hp"); (case yc => walk_at "cf"); (case yn => walk_at "cf"); (case yl => walk_at "flen"))
  | ((with_reducible refine' s_recv ?yh ?yl ?yk); (case yh => walk_at "hp"); (case yl => exact rfl))
  | ((with_reducible refine' s_ixDS ?yh ?ya ?yk); (case yh => walk_at "hp"); (case ya => first | assumption | exact rfl))
  | ((with_reducible refine' s_tyL ?yh ?yk); (case yh => walk_at "hp"))
  | ((with_reducible refine' s_append ?yh ?yl ?yk); (case yh => walk_at "hp"); (case yl => walk_at "len"))
  | ((with_reducible refine' s_lenL ?yh ?yk); (case yh => walk_at "hp"))
  | ((with_reducible refine' s_lenLs ?yh ?yk); (case yh => assumption))
  | ((with_reducible refine' s_lenT ?yh ?yk); (case yh => walk_at "hp"))
  | ((with_reducible refine' s_lenTs ?yh ?yk); (case yh => assumption))
  | ((with_reducible refine' s_lenE ?yh ?yk); (case yh => assumption))
  | ((with_reducible refine' s_ixE ?yh ?ya ?yk); (case yh => assumption); (case ya => first | assumption | exact rfl))
  | ((with_reducible refine' s_ixTs ?yh ?ya ?yk); (case yh => assumption); (case ya => first | assumption | exact rfl))
  | ((with_reducible refine' s_isi ?yt ?yb ?yk); (case yt => walk_at "ty"); (case yb => walk_at "kit"))
  | ((with_reducible refine' s_listof ?yh ?yk); (case yh => walk_at "hp"))
  | ((with_reducible refine' s_ixL ?yh ?ya ?yk); (case yh => walk_at "hp"); (case ya => first | assumption | exact rfl))
  | ((with_reducible refine' s_ixT ?yh ?ya ?yk); (case yh => walk_at "hp"); (case ya => first | assumption | exact rfl))
  | ((with_reducible refine' s_ixLs ?yh ?ya ?yk); (case yh => assumption); (case ya => first | assumption | exact rfl))
  | ((with_reducible refine' s_itrL ?yh ?yk); (case yh => walk_at "hp"))
  | ((with_reducible refine' s_itrLs ?yh ?yk); (case yh => assumption))
  | ((with_reducible refine' s_itrT ?yh ?yk); (case yh => walk_at "hp"))
  | ((with_reducible refine' s_enumL ?yh ?yk); (case yh => walk_at "hp"))
  | ((with_reducible refine' s_fldv ?yv ?yh ?yc ?yn ?yl ?yk); (case yv => exact rfl); (case yh => walk_at "hp"); (case yc => walk_at "cf"); (case yn => walk_at "cf"); (case yl => exact rfl)))
local macro_rules | `(tactic| walk_at "yl") => `(tactic| first
  | with_reducible apply s_for
  | with_reducible apply s_lc)
local macro_rules | `(tactic| walk_at "ys") => `(tactic| repeat walk_at "y1")
local macro_rules | `(tactic| walk_at "y") => `(tactic| repeat (first | walk_at "y1" | walk_at "yl"))

local macro_rules | `(tactic| walk_at "cf") => `(tactic| first | exact ClsFacts.cl (by assumption) | exact ClsFacts.nc (by assumption) | exact ClsFacts.ni (by assumption) | exact ClsFacts.no (by assumption))
section
variable {K : PySem.W.Frag} {C : Addr} {vs : List V} {H : Hp} {Q : VK} {E : XK}
theorem p_name (h : sp_name vs H Q E) : rd_name K C { nx := fun _ H' => Q .non H', rt := Q } (start ["n", "words", "word"] vs) H := by
  obtain ⟨a, rfl, ⟨ns, ha, hl, hs⟩, k⟩ := h
  obtain ⟨n0, n1, n2, n3, n4, n5, n6, n7, n8, n9, rfl⟩ := ten_lit hl
  simp only [List.map] at ha
  unfold rd_name
  walk_at "y"
  refine ⟨by (show 10 ≤ 16777216; decide), fun w hw => ?_⟩
  have ne : a ≠ w := ne_of_none ha hw
  walk_at "y"
  have h4 : 0 ≤ n4 % 10 ∧ n4 % 10 < 10 := by omega
  obtain ⟨v, hv, hm⟩ := atI_mem (xs := [V.str "output", .str "reserve", .str "growth", .str "share", .str "drawn", .str "rest", .str "minted", .str "burned", .str "fee", .str "a b"]) h4.1 (by simpa using h4.2)
  obtain ⟨z, rfl⟩ : ∃ z, v = V.str z := by
    simp only [List.mem_cons, List.not_mem_nil, or_false] at hm
    rcases hm with h | h | h | h | h | h | h | h | h | h <;> exact ⟨_, h⟩
  refine s_ixL upd_same hv ?_
  walk_at "y"
  have s1 : ∀ o, Same H (upd H w o) := fun o => Same.new hw
  refine s_dec (fun h1 => ?_) (fun h1 => ?_)
  · walk_at "y"
    refine ⟨by (show 1 ≤ 16777216; decide), fun p hp => ?_⟩
    exact k _ _ _ ((s1 _).trans (Same.new hp)) (.tup upd_same (.cons (.str _) .nil)) rfl
  · walk_at "y"
    refine s_dec (fun h2 => ?_) (fun h2 => ?_)
    · walk_at "y"
      refine ⟨by (show 2 ≤ 16777216; decide), fun p hp => ?_⟩
      exact k _ _ _ ((s1 _).trans (Same.new hp)) (.tup upd_same (.cons (.str _) (.cons (.int _) .nil))) rfl
    · walk_at "y"
      refine s_dec (fun h3 => ?_) (fun h3 => ?_)
      · walk_at "y"
        refine ⟨by (show 2 ≤ 16777216; decide), fun p hp => ?_⟩
        walk_at "y"
        refine ⟨by (show 2 ≤ 16777216; decide), fun q hq => ?_⟩
        have e : p ≠ q := ne_of_none upd_same hq
        exact k _ _ _ (((s1 _).trans (Same.new hp)).trans (Same.new hq)) (.tup upd_same (.cons (.str _) (.cons (.tup (Eq.trans (upd_ne e) upd_same) (.cons (.int _) (.cons (.int _) .nil))) .nil))) rfl
      · walk_at "y"
        refine ⟨by (show 3 ≤ 16777216; decide), fun p hp => ?_⟩
        exact k _ _ _ ((s1 _).trans (Same.new hp)) (.tup upd_same (.cons (.str _) (.cons (.int _) (.cons (.int _) .nil)))) rfl
theorem p_amount (h : sp_amount vs H Q E) : rd_amount K C { nx := fun _ H' => Q .non H', rt := Q } (start ["n"] vs) H := by
  obtain ⟨a, rfl, ⟨ns, ha, hl, hs⟩, k⟩ := h
  obtain ⟨n0, n1, n2, n3, n4, n5, n6, n7, n8, n9, rfl⟩ := ten_lit hl
  simp only [List.map] at ha
  unfold rd_amount
  walk_at "y"
  refine ⟨by (show 4 ≤ 16777216; decide), fun w hw => ?_⟩
  have ne : a ≠ w := ne_of_none ha hw
  walk_at "y"
  have h4 : 0 ≤ n9 % 4 ∧ n9 % 4 < 4 := by omega
  obtain ⟨v, hv, hm⟩ := atI_mem (xs := [V.int 1, .int (1 + n8), .int (10 ^ (15 : Int).toNat + n8 * 10 ^ (9 : Int).toNat), .int (10 ^ (40 : Int).toNat - 1 - n8)]) h4.1 (by simpa using h4.2)
  obtain ⟨z, rfl⟩ : ∃ z, v = V.int z := by
    simp only [List.mem_cons, List.not_mem_nil, or_false] at hm
    rcases hm with h | h | h | h <;> exact ⟨_, h⟩
  refine s_ixL upd_same hv ?_
  exact k _ _ (Same.new hw)
theorem p_open (h : sp_open K vs H Q E) : rd_open K C { nx := fun _ H' => Q .non H', rt := Q } (start ["book", "k"] vs) H := by
  obtain ⟨B, L, m, rfl, hB, hL, k⟩ := h
  obtain ⟨vs, h1, h2⟩ := hB.rs
  have h0 := hB.ob
  have hl := Pd.len h2
  unfold rd_open
  walk_at "y"
  refine s_rng1 (by omega) (by omega) ?_
  refine l_range (fun D i acc H' => H' = upd H D (.lst ((ixs (L.take i) isOpen).map V.int)) ∧ acc = (ixs (L.take i) isOpen).map V.int) ?_ ?_ ?_
  · intro D hD
    exact ⟨rfl, rfl⟩
  · rintro D i acc H' hD hi hA hlen ⟨rfl, rfl⟩
    have hi' : i < L.length := by omega
    obtain ⟨v, hv, a, nv, rfl, ha, hn⟩ := Pd.get h2 (List.getElem?_eq_getElem hi')
    have hv' : atI vs (0 + (i : Int)) = some (.ref a) := at_of (by omega) hv
    have et := ixs_take (p := isOpen) (List.getElem?_eq_getElem hi')
    have nD : a ≠ D := ne_of_none ha hD
    have n1 : B.r ≠ D := ne_of_none h1 hD
    have n2 : B.b ≠ D := ne_of_none h0 hD
    walk_at "y"
    cases e : L[i].tk with
    | none =>
      walk_at "y"
      refine LcPut.mk hA hlen (by omega) ?_
      refine ⟨?_, ?_⟩
      · rw [upd_upd, et, if_pos (by rw [isOpen, e]; rfl), List.map_append]
        simp
      · rw [et, if_pos (by rw [isOpen, e]; rfl), List.map_append]
        simp
    | some t =>
      walk_at "y"
      refine LcSkip.mk hA hlen ?_
      refine ⟨?_, ?_⟩
      · rw [et, if_neg (by rw [isOpen, e]; simp), List.append_nil]
      · rw [et, if_neg (by rw [isOpen, e]; simp), List.append_nil]
  · rintro D acc H' hD hA hlen ⟨rfl, rfl⟩
    refine k D _ hD (Same.new hD) ?_
    rw [upd_same]
    have e : L.take (Int.toNat (vs.length : Int)) = L := by rw [Int.toNat_natCast, hl]; exact List.take_length
    rw [e]
end
end Z

namespace Z
open PySem PySem.Spec PyProof.Rows L2 Y
local macro_rules | `(tactic| walk_at "ne") => `(tactic| first
  | assumption
  | (apply Ne.symm; assumption)
  | (refine ne_of_none ?_ (by assumption); first | assumption | exact upd_same)
  | (apply Ne.symm; refine ne_of_none ?_ (by assumption); first | assumption | exact upd_same))
local macro_rules | `(tactic| walk_at "hp") => `(tactic| first
  | assumption
  | exact upd_same
  | (refine Eq.trans (upd_ne ?nn) ?_; (case nn => walk_at "ne"); walk_at "hp"))
local macro_rules | `(tactic| walk_at "cmul") => `(tactic| first
  | exact Or.inr ⟨by decide, by decide⟩
  | exact Or.inl ⟨by decide, by decide⟩
  | exact Or.inr ⟨by omega, by omega⟩
  | exact Or.inl ⟨by omega, by omega⟩)
local macro_rules | `(tactic| walk_at "len") => `(tactic| first
  | exact of_decide_eq_true rfl
  | (show _ < 16777216; assumption)
  | (show _ ≤ 16777216; assumption)
  | (show _ ≤ 16777216; simp; done)
  | (show _ < 16777216; simp; omega)
  | (show _ ≤ 16777216; simp; omega))
local macro_rules | `(tactic| walk_at "cf") => `(tactic| assumption)
local macro_rules | `(tactic| walk_at "flen") => `(tactic| first | exact of_decide_eq_true rfl | decide | (show _ < 1000; decide) | (simp; done))
local macro_rules | `(tactic| walk_at "ty") => `(tactic| first
  | exact .base .non
  | exact .base (.bl _)
  | exact .base (.int _)
  | exact .base (.str _)
  | assumption
  | (refine .base (.lst ?_); walk_at "hp")
  | (refine .base (.tup ?_); walk_at "hp")
  | (refine .base (.dK ?_); walk_at "hp"))
local macro_rules | `(tactic| walk_at "kit") => `(tactic| first
  | exact kit_NoneType_bool
  | exact kit_NoneType_int
  | exact kit_NoneType_str
  | exact kit_NoneType_list
  | exact kit_NoneType_tuple
  | exact kit_NoneType_dict
  | exact kit_bool_bool
  | exact kit_bool_int
  | exact kit_bool_str
  | exact kit_bool_list
  | exact kit_bool_tuple
  | exact kit_bool_dict
  | exact kit_int_bool
  | exact kit_int_int
  | exact kit_int_str
  | exact kit_int_list
  | exact kit_int_tuple
  | exact kit_int_dict
  | exact kit_str_bool
  | exact kit_str_int
  | exact kit_str_str
  | exact kit_str_list
  | exact kit_str_tuple
  | exact kit_str_dict
  | exact kit_list_bool
  | exact kit_list_int
  | exact kit_list_str
  | exact kit_list_list
  | exact kit_list_tuple
  | exact kit_list_dict
  | exact kit_tuple_bool
  | exact kit_tuple_int
  | exact kit_tuple_str
  | exact kit_tuple_list
  | exact kit_tuple_tuple
  | exact kit_tuple_dict
  | exact kit_dict_bool
  | exact kit_dict_int
  | exact kit_dict_str
  | exact kit_dict_list
  | exact kit_dict_tuple
  | exact kit_dict_dict)
local macro_rules | `(tactic| walk_at "y1") => `(tactic| first
  | with_reducible apply s_seq
  | with_reducible apply s_asg
  | ((with_reducible apply s_var); (first | exact rfl | assumption))
  | with_reducible apply s_c
  | with_reducible apply s_op
  | with_reducible apply s_gname
  | with_reducible apply s_cons
  | with_reducible apply s_nil
  | with_reducible apply s_cb
  | with_reducible apply s_if
  | with_reducible apply s_test
  | with_reducible apply s_bl
  | with_reducible apply s_trubl
  | with_reducible apply s_tru
  | with_reducible apply s_and
  | with_reducible apply s_or
  | with_reducible apply s_not
  | with_reducible apply s_andV
  | with_reducible apply s_orV
  | with_reducible apply s_notV
  | with_reducible apply s_ifE
  | with_reducible apply s_true
  | with_reducible apply s_false
  | with_reducible apply s_nfalse
  | with_reducible apply s_ntrue
  | with_reducible apply s_drop
  | with_reducible apply s_ret
  | with_reducible apply s_retN
  | with_reducible apply s_next
  | with_reducible apply s_add
  | with_reducible apply s_sub
  | ((with_reducible apply s_mul); (walk_at "cmul"))
  | ((with_reducible apply s_fdiv); (exact ⟨by decide, by decide⟩))
  | ((with_reducible apply s_mod); (first | decide | omega))
  | ((with_reducible apply s_pow); (exact ⟨by decide, by decide, by decide⟩))
  | with_reducible apply s_neg
  | with_reducible apply s_lt
  | with_reducible apply s_le
  | with_reducible apply s_gt
  | with_reducible apply s_ge
  | with_reducible apply s_isN_non
  | with_reducible apply s_isN_int
  | with_reducible apply s_isN_str
  | with_reducible apply s_isN_ref
  | with_reducible apply s_notN_non
  | with_reducible apply s_notN_int
  | with_reducible apply s_notN_str
  | with_reducible apply s_notN_ref
  | with_reducible apply s_abs
  | with_reducible apply s_max2
  | with_reducible apply s_min2
  | with_reducible apply s_int1
  | with_reducible apply s_eqI
  | with_reducible apply s_eqNI
  | with_reducible apply s_neI
  | with_reducible apply s_eqS
  | with_reducible apply s_call
  | with_reducible apply s_mklst
  | with_reducible apply s_mktup
  | with_reducible apply s_bmL
  | with_reducible apply s_iRng1
  | with_reducible apply s_iRng2
  | with_reducible apply s_iEnum
  | with_reducible apply s_iter
  | with_reducible apply s_turn
  | with_reducible apply s_tyes
  | ((with_reducible refine' s_wipe ?yw ?yk); (case yw => exact rfl))
  | with_reducible apply s_gsub
  | with_reducible apply s_gcons
  | with_reducible apply s_gnil
  | with_reducible apply s_sfld
  | with_reducible apply s_meth
  | with_reducible apply s_make
  | with_reducible apply s_disp
  | with_reducible apply s_pnil
  | with_reducible apply s_pcons
  | ((with_reducible refine' s_gtup ?yh ?yl ?yk); (case yh => walk_at "hp"); (case yl => exact rfl))
  | ((with_reducible refine' s_setL ?yh ?yj ?yk); (case yh => walk_at "hp"); (case yj => first | assumption | exact rfl))
  | ((with_reducible refine' s_setDS ?yh ?yl ?yk); (case yh => walk_at "hp"); (case yl => walk_at "len"))
  | ((with_reducible refine' s_setf ?yh ?yc ?yn ?yl ?yk); (case yh => walk_at "hp"); (case yc => walk_at "cf"); (case yn => walk_at "cf"); (case yl => walk_at "flen"))
  | ((with_reducible refine' s_recv ?yh ?yl ?yk); (case yh => walk_at "hp"); (case yl => exact rfl))
  | ((with_reducible refine' s_ixDS ?yh ?ya ?yk); (case yh => walk_at "hp"); (case ya => first | assumption | exact rfl))
  | ((with_reducible refine' s_tyL ?yh ?yk); (case yh => walk_at "hp"))
  | ((with_reducible refine' s_append ?yh ?yl ?yk); (case yh => walk_at "hp"); (case yl => walk_at "len"))
  | ((with_reducible refine' s_lenL ?yh ?yk); (case yh => walk_at "hp"))
  | ((with_reducible refine' s_lenLs ?yh ?yk); (case yh => assumption))
  | ((with_reducible refine' s_lenT ?yh ?yk); (case yh => walk_at "hp"))
  | ((with_reducible refine' s_lenTs ?yh ?yk); (case yh => assumption))
  | ((with_reducible refine' s_lenE ?yh ?yk); (case yh => assumption))
  | ((with_reducible refine' s_ixE ?yh ?ya ?yk); (case yh => assumption); (case ya => first | assumption | exact rfl))
  | ((with_reducible refine' s_ixTs ?yh ?ya ?yk); (case yh => assumption); (case ya => first | assumption | exact rfl))
  | ((with_reducible refine' s_isi ?yt ?yb ?yk); (case yt => walk_at "ty"); (case yb => walk_at "kit"))
  | ((with_reducible refine' s_listof ?yh ?yk); (case yh => walk_at "hp"))
  | ((with_reducible refine' s_ixL ?yh ?ya ?yk); (case yh => walk_at "hp"); (case ya => first | assumption | exact rfl))
  | ((with_reducible refine' s_ixT ?yh ?ya ?yk); (case yh => walk_at "hp"); (case ya => first | assumption | exact rfl))
  | ((with_reducible refine' s_ixLs ?yh ?ya ?yk); (case yh => assumption); (case ya => first | assumption | exact rfl))
  | ((with_reducible refine' s_itrL ?yh ?yk); (case yh => walk_at "hp"))
  | ((with_reducible refine' s_itrLs ?yh ?yk); (case yh => assumption))
  | ((with_reducible refine' s_itrT ?yh ?yk); (case yh => walk_at "hp"))
  | ((with_reducible refine' s_enumL ?yh ?yk); (case yh => walk_at "hp"))
  | ((with_reducible refine' s_fldv ?yv ?yh ?yc ?yn ?yl ?yk); (case yv => exact rfl); (case yh => walk_at "hp"); (case yc => walk_at "cf"); (case yn => walk_at "cf"); (case yl => exact rfl)))
local macro_rules | `(tactic| walk_at "yl") => `(tactic| first
  | with_reducible apply s_for
  | with_reducible apply s_lc)
local macro_rules | `(tactic| walk_at "ys") => `(tactic| repeat walk_at "y1")
local macro_rules | `(tactic| walk_at "y") => `(tactic| repeat (first | walk_at "y1" | walk_at "yl"))

local macro_rules | `(tactic| walk_at "cf") => `(tactic| first | exact ClsFacts.cl (by assumption) | exact ClsFacts.nc (by assumption) | exact ClsFacts.ni (by assumption) | exact ClsFacts.no (by assumption))
section
variable {K : PySem.W.Frag} {C : Addr} {vs : List V} {H : Hp} {Q : VK} {E : XK}
theorem fl_eq (c i o : Addr) : putF "_outs" (V.ref o) (putF "_ins" (V.ref i) (putF "_carriers" (V.ref c) [])) = fl c i o := by rfl
theorem p_init (T : ClsFacts K C) (h : sp_init C vs H Q E) : rd_init K C { nx := fun _ H' => Q .non H', rt := Q } (start ["self"] vs) H := by
  obtain ⟨x, dx, rfl, hx, k⟩ := h
  unfold rd_init
  walk_at "y"
  refine ⟨Nat.zero_le _, fun c hc => ?_⟩
  have n1 : x ≠ c := ne_of_none hx hc
  walk_at "y"
  refine ⟨Nat.zero_le _, fun i hi => ?_⟩
  have n2 : x ≠ i := ne_of_none upd_same hi
  rw [upd_ne n2.symm] at hi
  have n3 : c ≠ i := ne_of_none upd_same hi
  rw [upd_ne n3.symm] at hi
  walk_at "y"
  refine ⟨Nat.zero_le _, fun o ho => ?_⟩
  have n4 : x ≠ o := ne_of_none upd_same ho
  rw [upd_ne n4.symm] at ho
  have n5 : i ≠ o := ne_of_none upd_same ho
  rw [upd_ne n5.symm, upd_ne n4.symm] at ho
  have n6 : c ≠ o := ne_of_none upd_same ho
  rw [upd_ne n6.symm] at ho
  walk_at "y"
  rw [fl_eq]
  refine k ⟨x, dx, c, i, o, [], []⟩ _ ⟨upd_same, ⟨[], ?_, .nil⟩, ?_, ?_, rfl, rfl, ?_, ?_, ?_, fun r hr => by cases hr⟩ rfl ?_ ?_
  · show _ = _
    walk_at "hp"
  · show _ = _
    walk_at "hp"
  · show _ = _
    walk_at "hp"
  · intro s a h; simp at h
  · intro s a h; simp at h
  · simp only [LA.own, List.append_nil, List.nodup_cons, List.mem_cons, List.not_mem_nil, or_false, not_or, List.nodup_nil, and_true]
    exact ⟨⟨n3, n6⟩, n5, fun h => h⟩
  · intro a ha
    simp only [LA.own, List.append_nil, List.mem_cons, List.not_mem_nil, or_false] at ha
    rcases ha with rfl | rfl | rfl
    · exact hc
    · exact hi
    · exact ho
  · refine Fr.upd (Fr.upd (Fr.upd (Fr.upd (Fr.upd (Fr.upd Fr.refl (.inr hc)) (.inl ?_)) (.inr hi)) (.inl ?_)) (.inr ho)) (.inl ?_) <;> simp
theorem p_station (T : ClsFacts K C) (h : sp_station C vs H Q E) : rd_station K C { nx := fun _ H' => Q .non H', rt := Q } (start ["self"] vs) H := by
  obtain ⟨A, L, m, rfl, hA, hm, k⟩ := h
  obtain ⟨vs, h1, h2⟩ := hA.cs
  have h0 := hA.ob
  have hi := hA.li
  have ho := hA.lo
  have e1 := hA.nis
  have e2 := hA.nos
  unfold rd_station
  walk_at "y"
  refine ⟨Nat.zero_le _, fun p hp => ?_⟩
  have n1 : A.i ≠ p := ne_of_none hi hp
  have n2 : A.o ≠ p := ne_of_none ho hp
  have n3 : A.x ≠ p := ne_of_none h0 hp
  have n4 : A.x ≠ A.i := ne_of h0 hi (by intro z; cases z)
  have n5 : A.x ≠ A.o := ne_of h0 ho (by intro z; cases z)
  have nd := hA.nd
  simp only [LA.own, List.nodup_cons, List.mem_cons, List.mem_append, not_or] at nd
  have n6 : A.i ≠ A.o := nd.2.1.1
  walk_at "y"
  refine ⟨Nat.zero_le _, fun q hq => ?_⟩
  have n7 : A.i ≠ q := ne_of_none upd_same hq
  rw [upd_ne n7.symm] at hq
  have n8 : p ≠ q := ne_of_none upd_same hq
  rw [upd_ne n8.symm] at hq
  have n9 : A.o ≠ q := ne_of_none ho hq
  have n10 : A.x ≠ q := ne_of_none h0 hq
  have hlo : A.os.length < 16777216 := by omega
  walk_at "y"
  have en : (((A.is.map V.ref ++ [V.ref p]).length : Nat) : Int) - 1 = (m : Int) := by simp [e1]
  rw [en]
  have c1 : A.c ≠ p := ne_of_none h1 hp
  have c2 : A.c ≠ q := ne_of_none h1 hq
  have fr : Fr A.own H (upd (upd (upd (upd H p (.lst [])) A.i (.lst (A.is.map V.ref ++ [V.ref p]))) q (.lst [])) A.o (.lst (A.os.map V.ref ++ [V.ref q]))) :=
    Fr.upd (Fr.upd (Fr.upd (Fr.upd Fr.refl (.inr hp)) (.inl (by simp [LA.own]))) (.inr hq)) (.inl (by simp [LA.own]))
  have kt := fr.kt hA.nt
  have out_is : ∀ a ∈ A.is ++ A.os, a ≠ A.i ∧ a ≠ A.o ∧ a ≠ p ∧ a ≠ q := by
    intro a ha
    have hb : a ∈ A.own := by simp only [LA.own, List.mem_cons]; exact .inr (.inr (.inr ha))
    obtain ⟨xs, hx⟩ := hA.lst a hb
    rw [List.mem_append] at ha
    refine ⟨?_, ?_, ne_of_none hx hp, ne_of_none hx hq⟩
    · rintro rfl; exact (ha.elim nd.2.1.2.1 nd.2.1.2.2)
    · rintro rfl; exact (ha.elim nd.2.2.1.1 nd.2.2.1.2)
  have still : ∀ a ∈ A.is ++ A.os, (upd (upd (upd (upd H p (.lst [])) A.i (.lst (A.is.map V.ref ++ [V.ref p]))) q (.lst [])) A.o (.lst (A.os.map V.ref ++ [V.ref q]))) a = H a := by
    intro a ha
    obtain ⟨b1, b2, b3, b4⟩ := out_is a ha
    rw [upd_ne b2, upd_ne b4, upd_ne b1, upd_ne b3]
  have ncm : ∀ r ∈ L, r.tk ≠ some m ∧ r.mr ≠ some m := fun r hr => ⟨fun e => Nat.lt_irrefl _ ((hA.wf r hr).1 m e), fun e => Nat.lt_irrefl _ ((hA.wf r hr).2 m e)⟩
  have z1 : ixs L (tkIs m) = [] := ixs_none fun r hr => decide_eq_false (ncm r hr).1
  have z2 : ixs L (mkIs m) = [] := ixs_none fun r hr => decide_eq_false (ncm r hr).2
  refine k { A with is := A.is ++ [p], os := A.os ++ [q] } _ ⟨?_, ⟨vs, ?_, Pd.mono h2 fun _ _ => RowAt.keep kt⟩, ?_, ?_, by simp [e1], by simp [e2], ?_, ?_, ?_, fun r hr => ⟨fun s e => Nat.lt_succ_of_lt ((hA.wf r hr).1 s e), fun s e => Nat.lt_succ_of_lt ((hA.wf r hr).2 s e)⟩⟩ rfl fr ?_
  · show _ = _
    walk_at "hp"
  · show _ = _
    have c3 : A.c ≠ A.i := nd.1.1
    have c4 : A.c ≠ A.o := nd.1.2.1
    walk_at "hp"
  · rw [upd_ne n6, upd_ne n7, upd_same, List.map_append]
    rfl
  · rw [upd_same, List.map_append]
    rfl
  · intro s a hs
    rcases Nat.lt_or_ge s A.is.length with hl | hl
    · rw [List.getElem?_append_left hl] at hs
      rw [still a (List.mem_append_left _ (List.mem_of_getElem? hs))]
      exact hA.ins s a hs
    · obtain rfl : s = m := by
        have := (List.getElem?_eq_some_iff.mp hs).1
        simp at this; omega
      rw [List.getElem?_append_right hl] at hs
      have e : a = p := by simpa [e1] using hs.symm
      subst e
      refine ⟨[], ?_, by rw [z1]⟩
      walk_at "hp"
  · intro s a hs
    rcases Nat.lt_or_ge s A.os.length with hl | hl
    · rw [List.getElem?_append_left hl] at hs
      rw [still a (List.mem_append_right _ (List.mem_of_getElem? hs))]
      exact hA.out s a hs
    · obtain rfl : s = m := by
        have := (List.getElem?_eq_some_iff.mp hs).1
        simp at this; omega
      rw [List.getElem?_append_right hl] at hs
      have e : a = q := by simpa [e2] using hs.symm
      subst e
      rw [z2]
      walk_at "hp"
  · have ip : ∀ a ∈ A.is ++ A.os, a ≠ p ∧ a ≠ q := fun a ha => ⟨(out_is a ha).2.2.1, (out_is a ha).2.2.2⟩
    have hnd := nd.2.2.2
    rw [List.nodup_append] at hnd
    have c3 : A.c ≠ A.i := nd.1.1
    have c4 : A.c ≠ A.o := nd.1.2.1
    simp only [LA.own, List.nodup_cons, List.mem_cons, List.mem_append, List.not_mem_nil, or_false, not_or, List.nodup_append]
    have q1 : p ∉ A.is := fun h => (ip p (List.mem_append_left _ h)).1 rfl
    have q2 : q ∉ A.os := fun h => (ip q (List.mem_append_right _ h)).2 rfl
    refine ⟨⟨c3, c4, ⟨nd.1.2.2.1, c1⟩, nd.1.2.2.2, c2⟩, ⟨n6, ⟨nd.2.1.2.1, n1⟩, nd.2.1.2.2, n7⟩, ⟨⟨nd.2.2.1.1, n2⟩, nd.2.2.1.2, n9⟩, ?_, ?_, ?_⟩
    · exact ⟨hnd.1, ⟨fun h => h, List.nodup_nil⟩, fun a ha b hb => by subst hb; exact fun e => q1 (e ▸ ha)⟩
    · exact ⟨hnd.2.1, ⟨fun h => h, List.nodup_nil⟩, fun a ha b hb => by subst hb; exact fun e => q2 (e ▸ ha)⟩
    · intro a ha b hb
      rcases ha with ha | rfl
      · rcases hb with hb | rfl
        · exact hnd.2.2 a ha b hb
        · exact (ip a (List.mem_append_left _ ha)).2
      · rcases hb with hb | rfl
        · exact (ip b (List.mem_append_right _ hb)).1.symm
        · exact n8
  · intro a ha
    simp only [LA.own, List.mem_cons, List.mem_append, List.not_mem_nil, or_false] at ha ⊢
    rcases ha with h | h | h | (h | h) | h | h
    · exact .inl (.inl h)
    · exact .inl (.inr (.inl h))
    · exact .inl (.inr (.inr (.inl h)))
    · exact .inl (.inr (.inr (.inr (.inl h))))
    · rw [h]; exact .inr hp
    · exact .inl (.inr (.inr (.inr (.inr h))))
    · rw [h]; exact .inr hq
end
end Z

namespace Z
open PySem PySem.Spec PyProof.Rows L2 Y
local macro_rules | `(tactic| walk_at "ne") => `(tactic| first
  | assumption
  | (apply Ne.symm; assumption)
  | (refine ne_of_none ?_ (by assumption); first | assumption | exact upd_same)
  | (apply Ne.symm; refine ne_of_none ?_ (by assumption); first | assumption | exact upd_same))
local macro_rules | `(tactic| walk_at "hp") => `(tactic| first
  | assumption
  | exact upd_same
  | (refine Eq.trans (upd_ne ?nn) ?_; (case nn => walk_at "ne"); walk_at "hp"))
local macro_rules | `(tactic| walk_at "cmul") => `(tactic| first
  | exact Or.inr ⟨by decide, by decide⟩
  | exact Or.inl ⟨by decide, by decide⟩
  | exact Or.inr ⟨by omega, by omega⟩
  | exact Or.inl ⟨by omega, by omega⟩)
local macro_rules | `(tactic| walk_at "len") => `(tactic| first
  | exact of_decide_eq_true rfl
  | (show _ < 16777216; assumption)
  | (show _ ≤ 16777216; assumption)
  | (show _ ≤ 16777216; simp; done)
  | (show _ < 16777216; simp; omega)
  | (show _ ≤ 16777216; simp; omega))
local macro_rules | `(tactic| walk_at "cf") => `(tactic| assumption)
local macro_rules | `(tactic| walk_at "flen") => `(tactic| first | exact of_decide_eq_true rfl | decide | (show _ < 1000; decide) | (simp; done))
local macro_rules | `(tactic| walk_at "ty") => `(tactic| first
  | exact .base .non
  | exact .base (.bl _)
  | exact .base (.int _)
  | exact .base (.str _)
  | assumption
  | (refine .base (.lst ?_); walk_at "hp")
  | (refine .base (.tup ?_); walk_at "hp")
  | (refine .base (.dK ?_); walk_at "hp"))
local macro_rules | `(tactic| walk_at "kit") => `(tactic| first
  | exact kit_NoneType_bool
  | exact kit_NoneType_int
  | exact kit_NoneType_str
  | exact kit_NoneType_list
  | exact kit_NoneType_tuple
  | exact kit_NoneType_dict
  | exact kit_bool_bool
  | exact kit_bool_int
  | exact kit_bool_str
  | exact kit_bool_list
  | exact kit_bool_tuple
  | exact kit_bool_dict
  | exact kit_int_bool
  | exact kit_int_int
  | exact kit_int_str
  | exact kit_int_list
  | exact kit_int_tuple
  | exact kit_int_dict
  | exact kit_str_bool
  | exact kit_str_int
  | exact kit_str_str
  | exact kit_str_list
  | exact kit_str_tuple
  | exact kit_str_dict
  | exact kit_list_bool
  | exact kit_list_int
  | exact kit_list_str
  | exact kit_list_list
  | exact kit_list_tuple
  | exact kit_list_dict
  | exact kit_tuple_bool
  | exact kit_tuple_int
  | exact kit_tuple_str
  | exact kit_tuple_list
  | exact kit_tuple_tuple
  | exact kit_tuple_dict
  | exact kit_dict_bool
  | exact kit_dict_int
  | exact kit_dict_str
  | exact kit_dict_list
  | exact kit_dict_tuple
  | exact kit_dict_dict)
local macro_rules | `(tactic| walk_at "y1") => `(tactic| first
  | with_reducible apply s_seq
  | with_reducible apply s_asg
  | ((with_reducible apply s_var); (first | exact rfl | assumption))
  | with_reducible apply s_c
  | with_reducible apply s_op
  | with_reducible apply s_gname
  | with_reducible apply s_cons
  | with_reducible apply s_nil
  | with_reducible apply s_cb
  | with_reducible apply s_if
  | with_reducible apply s_test
  | with_reducible apply s_bl
  | with_reducible apply s_trubl
  | with_reducible apply s_tru
  | with_reducible apply s_and
  | with_reducible apply s_or
  | with_reducible apply s_not
  | with_reducible apply s_andV
  | with_reducible apply s_orV
  | with_reducible apply s_notV
  | with_reducible apply s_ifE
  | with_reducible apply s_true
  | with_reducible apply s_false
  | with_reducible apply s_nfalse
  | with_reducible apply s_ntrue
  | with_reducible apply s_drop
  | with_reducible apply s_ret
  | with_reducible apply s_retN
  | with_reducible apply s_next
  | with_reducible apply s_add
  | with_reducible apply s_sub
  | ((with_reducible apply s_mul); (walk_at "cmul"))
  | ((with_reducible apply s_fdiv); (exact ⟨by decide, by decide⟩))
  | ((with_reducible apply s_mod); (first | decide | omega))
  | ((with_reducible apply s_pow); (exact ⟨by decide, by decide, by decide⟩))
  | with_reducible apply s_neg
  | with_reducible apply s_lt
  | with_reducible apply s_le
  | with_reducible apply s_gt
  | with_reducible apply s_ge
  | with_reducible apply s_isN_non
  | with_reducible apply s_isN_int
  | with_reducible apply s_isN_str
  | with_reducible apply s_isN_ref
  | with_reducible apply s_notN_non
  | with_reducible apply s_notN_int
  | with_reducible apply s_notN_str
  | with_reducible apply s_notN_ref
  | with_reducible apply s_abs
  | with_reducible apply s_max2
  | with_reducible apply s_min2
  | with_reducible apply s_int1
  | with_reducible apply s_eqI
  | with_reducible apply s_eqNI
  | with_reducible apply s_neI
  | with_reducible apply s_eqS
  | with_reducible apply s_call
  | with_reducible apply s_mklst
  | with_reducible apply s_mktup
  | with_reducible apply s_bmL
  | with_reducible apply s_iRng1
  | with_reducible apply s_iRng2
  | with_reducible apply s_iEnum
  | with_reducible apply s_iter
  | with_reducible apply s_turn
  | with_reducible apply s_tyes
  | ((with_reducible refine' s_wipe ?yw ?yk); (case yw => exact rfl))
  | with_reducible apply s_gsub
  | with_reducible apply s_gcons
  | with_reducible apply s_gnil
  | with_reducible apply s_sfld
  | with_reducible apply s_meth
  | with_reducible apply s_make
  | with_reducible apply s_disp
  | with_reducible apply s_pnil
  | with_reducible apply s_pcons
  | ((with_reducible refine' s_gtup ?yh ?yl ?yk); (case yh => walk_at "hp"); (case yl => exact rfl))
  | ((with_reducible refine' s_setL ?yh ?yj ?yk); (case yh => walk_at "hp"); (case yj => first | assumption | exact rfl))
  | ((with_reducible refine' s_setDS ?yh ?yl ?yk); (case yh => walk_at "hp"); (case yl => walk_at "len"))
  | ((with_reducible refine' s_setf ?yh ?yc ?yn ?yl ?yk); (case yh => walk_at "hp"); (case yc => walk_at "cf"); (case yn => walk_at "cf"); (case yl => walk_at "flen"))
  | ((with_reducible refine' s_recv ?yh ?yl ?yk); (case yh => walk_at "hp"); (case yl => exact rfl))
  | ((with_reducible refine' s_ixDS ?yh ?ya ?yk); (case yh => walk_at "hp"); (case ya => first | assumption | exact rfl))
  | ((with_reducible refine' s_tyL ?yh ?yk); (case yh => walk_at "hp"))
  | ((with_reducible refine' s_append ?yh ?yl ?yk); (case yh => walk_at "hp"); (case yl => walk_at "len"))
  | ((with_reducible refine' s_lenL ?yh ?yk); (case yh => walk_at "hp"))
  | ((with_reducible refine' s_lenLs ?yh ?yk); (case yh => assumption))
  | ((with_reducible refine' s_lenT ?yh ?yk); (case yh => walk_at "hp"))
  | ((with_reducible refine' s_lenTs ?yh ?yk); (case yh => assumption))
  | ((with_reducible refine' s_lenE ?yh ?yk); (case yh => assumption))
  | ((with_reducible refine' s_ixE ?yh ?ya ?yk); (case yh => assumption); (case ya => first | assumption | exact rfl))
  | ((with_reducible refine' s_ixTs ?yh ?ya ?yk); (case yh => assumption); (case ya => first | assumption | exact rfl))
  | ((with_reducible refine' s_isi ?yt ?yb ?yk); (case yt => walk_at "ty"); (case yb => walk_at "kit"))
  | ((with_reducible refine' s_listof ?yh ?yk); (case yh => walk_at "hp"))
  | ((with_reducible refine' s_ixL ?yh ?ya ?yk); (case yh => walk_at "hp"); (case ya => first | assumption | exact rfl))
  | ((with_reducible refine' s_ixT ?yh ?ya ?yk); (case yh => walk_at "hp"); (case ya => first | assumption | exact rfl))
  | ((with_reducible refine' s_ixLs ?yh ?ya ?yk); (case yh => assumption); (case ya => first | assumption | exact rfl))
  | ((with_reducible refine' s_itrL ?yh ?yk); (case yh => walk_at "hp"))
  | ((with_reducible refine' s_itrLs ?yh ?yk); (case yh => assumption))
  | ((with_reducible refine' s_itrT ?yh ?yk); (case yh => walk_at "hp"))
  | ((with_reducible refine' s_enumL ?yh ?yk); (case yh => walk_at "hp"))
  | ((with_reducible refine' s_fldv ?yv ?yh ?yc ?yn ?yl ?yk); (case yv => exact rfl); (case yh => walk_at "hp"); (case yc => walk_at "cf"); (case yn => walk_at "cf"); (case yl => exact rfl)))
local macro_rules | `(tactic| walk_at "yl") => `(tactic| first
  | with_reducible apply s_for
  | with_reducible apply s_lc)
local macro_rules | `(tactic| walk_at "ys") => `(tactic| repeat walk_at "y1")
local macro_rules | `(tactic| walk_at "y") => `(tactic| repeat (first | walk_at "y1" | walk_at "yl"))

local macro_rules | `(tactic| walk_at "cf") => `(tactic| first | exact ClsFacts.cl (by assumption) | exact ClsFacts.nc (by assumption) | exact ClsFacts.ni (by assumption) | exact ClsFacts.no (by assumption))
section
variable {K : PySem.W.Frag} {C : Addr} {vs : List V} {H : Hp} {Q : VK} {E : XK}
theorem p_stations (T : ClsFacts K C) (h : sp_stations C vs H Q E) : rd_stations K C { nx := fun _ H' => Q .non H', rt := Q } (start ["self"] vs) H := by
  obtain ⟨A, L, m, rfl, hA, k⟩ := h
  have h0 := hA.ob
  have hi := hA.li
  unfold rd_stations
  walk_at "y"
  have e : (((A.is.map V.ref).length : Nat) : Int) = (m : Int) := by rw [List.length_map, hA.nis]
  rw [e]
  exact k
theorem p_carriers (T : ClsFacts K C) (h : sp_carriers C vs H Q E) : rd_carriers K C { nx := fun _ H' => Q .non H', rt := Q } (start ["self"] vs) H := by
  obtain ⟨A, L, m, rfl, hA, k⟩ := h
  have h0 := hA.ob
  obtain ⟨vs, h1, h2⟩ := hA.cs
  unfold rd_carriers
  walk_at "y"
  intro l hl
  exact k l vs hl h2
theorem p_carrier (T : ClsFacts K C) (h : sp_carrier C vs H Q E) : rd_carrier K C { nx := fun _ H' => Q .non H', rt := Q } (start ["self", "index"] vs) H := by
  obtain ⟨A, L, m, j, r, rfl, hA, hr, k⟩ := h
  have h0 := hA.ob
  obtain ⟨vs, h1, h2⟩ := hA.cs
  obtain ⟨v, hv, hR⟩ := Pd.get h2 hr
  have hv' := atI_nat hv
  unfold rd_carrier
  walk_at "y"
  exact k v hR
theorem p_entering (T : ClsFacts K C) (h : sp_entering C vs H Q E) : rd_entering K C { nx := fun _ H' => Q .non H', rt := Q } (start ["self", "station"] vs) H := by
  obtain ⟨A, L, m, s, rfl, hA, hs, k⟩ := h
  have h0 := hA.ob
  have hi := hA.li
  have hs' : s < A.is.length := by rw [hA.nis]; exact hs
  obtain ⟨ns, h3, h4⟩ := hA.ins s _ (List.getElem?_eq_getElem hs')
  have hv : atI (A.is.map V.ref) (s : Int) = some (V.ref A.is[s]) := atI_nat (by simp [hs'])
  unfold rd_entering
  walk_at "y"
  refine s_sortedI h3 fun ns' p hp hw hn => ?_
  have e : ns' = ixs L (tkIs s) := List.Perm.eq_of_pairwise (fun a b _ _ h1 h2 => Int.le_antisymm h1 h2) hw (ixs_le L) (hp.trans h4)
  rw [e]
  exact k p hn
theorem p_leaving (T : ClsFacts K C) (h : sp_leaving C vs H Q E) : rd_leaving K C { nx := fun _ H' => Q .non H', rt := Q } (start ["self", "station"] vs) H := by
  obtain ⟨A, L, m, s, rfl, hA, hs, k⟩ := h
  have h0 := hA.ob
  have hi := hA.lo
  have hs' : s < A.os.length := by rw [hA.nos]; exact hs
  have h3 := hA.out s _ (List.getElem?_eq_getElem hs')
  have hv : atI (A.os.map V.ref) (s : Int) = some (V.ref A.os[s]) := atI_nat (by simp [hs'])
  unfold rd_leaving
  walk_at "y"
  exact fun l hl => k l hl
theorem p_outside (T : ClsFacts K C) (h : sp_outside C vs H Q E) : rd_outside K C { nx := fun _ H' => Q .non H', rt := Q } (start ["self", "index", "carrier"] vs) H := by
  obtain ⟨A, L, m, rfl, hA, hL, k⟩ := h
  have h0 := hA.ob
  obtain ⟨vs, h1, h2⟩ := hA.cs
  have hl := Pd.len h2
  unfold rd_outside
  walk_at "y"
  refine l_enum (xs := vs) (fun D i acc H' => Same H H' ∧ acc = (ixs (L.take i) isOut).map V.int) ?_ ?_ ?_ ?_
  · rintro D i acc H' hD ⟨s, _⟩
    exact SqL.of (s _ _ h1)
  · intro D hD
    exact ⟨Same.new hD, rfl⟩
  · rintro D i acc H' x U hD hx hA' hlen ⟨s, rfl⟩ hU
    obtain ⟨r, hr, a, nv, rfl, ha, hn⟩ := Pd.getl h2 hx
    have et := ixs_take (p := isOut) hr
    have ha' := s _ _ ha
    have ne : a ≠ U := ne_of_none ha' hU
    have nD : D ≠ U := ne_of_none hA' hU
    have hi : i < L.length := (List.getElem?_eq_some_iff.mp hr).1
    walk_at "y"
    cases e : r.mr with
    | none =>
      walk_at "y"
      refine LcPut.mk (by walk_at "hp") hlen (by omega) ?_
      refine ⟨?_, ?_⟩
      · exact Same.upd (s.trans (Same.new hU)) hD
      · rw [et, if_pos (by rw [isOut, e]; rfl), List.map_append]
        simp
    | some t =>
      walk_at "y"
      refine LcSkip.mk (by walk_at "hp") hlen ?_
      refine ⟨s.trans (Same.new hU), ?_⟩
      rw [et, if_neg (by rw [isOut, e]; simp), List.append_nil]
  · rintro D acc H' hD hA' hlen ⟨s, rfl⟩
    refine k D _ hD s ?_
    rw [hA', hl, List.take_length]
theorem p_present (T : ClsFacts K C) (h : sp_present C vs H Q E) : rd_present K C { nx := fun _ H' => Q .non H', rt := Q } (start ["self", "index", "carrier"] vs) H := by
  obtain ⟨A, L, m, rfl, hA, hL, k⟩ := h
  have h0 := hA.ob
  obtain ⟨vs, h1, h2⟩ := hA.cs
  have hl := Pd.len h2
  unfold rd_present
  walk_at "y"
  refine l_enum (xs := vs) (fun D i acc H' => Same H H' ∧ acc = (ixs (L.take i) isOpen).map V.int) ?_ ?_ ?_ ?_
  · rintro D i acc H' hD ⟨s, _⟩
    exact SqL.of (s _ _ h1)
  · intro D hD
    exact ⟨Same.new hD, rfl⟩
  · rintro D i acc H' x U hD hx hA' hlen ⟨s, rfl⟩ hU
    obtain ⟨r, hr, a, nv, rfl, ha, hn⟩ := Pd.getl h2 hx
    have et := ixs_take (p := isOpen) hr
    have ha' := s _ _ ha
    have ne : a ≠ U := ne_of_none ha' hU
    have nD : D ≠ U := ne_of_none hA' hU
    have hi : i < L.length := (List.getElem?_eq_some_iff.mp hr).1
    walk_at "y"
    cases e : r.tk with
    | none =>
      walk_at "y"
      refine LcPut.mk (by walk_at "hp") hlen (by omega) ?_
      refine ⟨?_, ?_⟩
      · exact Same.upd (s.trans (Same.new hU)) hD
      · rw [et, if_pos (by rw [isOpen, e]; rfl), List.map_append]
        simp
    | some t =>
      walk_at "y"
      refine LcSkip.mk (by walk_at "hp") hlen ?_
      refine ⟨s.trans (Same.new hU), ?_⟩
      rw [et, if_neg (by rw [isOpen, e]; simp), List.append_nil]
  · rintro D acc H' hD hA' hlen ⟨s, rfl⟩
    refine k D _ hD s ?_
    rw [hA', hl, List.take_length]
end
end Z

namespace Z
open PySem PySem.Spec PyProof.Rows L2 Y
local macro_rules | `(tactic| walk_at "ne") => `(tactic| first
  | assumption
  | (apply Ne.symm; assumption)
  | (refine ne_of_none ?_ (by assumption); first | assumption | exact upd_same)
  | (apply Ne.symm; refine ne_of_none ?_ (by assumption); first | assumption | exact upd_same))
local macro_rules | `(tactic| walk_at "hp") => `(tactic| first
  | assumption
  | exact upd_same
  | (refine Eq.trans (upd_ne ?nn) ?_; (case nn => walk_at "ne"); walk_at "hp"))
local macro_rules | `(tactic| walk_at "cmul") => `(tactic| first
  | exact Or.inr ⟨by decide, by decide⟩
  | exact Or.inl ⟨by decide, by decide⟩
  | exact Or.inr ⟨by omega, by omega⟩
  | exact Or.inl ⟨by omega, by omega⟩)
local macro_rules | `(tactic| walk_at "len") => `(tactic| first
  | exact of_decide_eq_true rfl
  | (show _ < 16777216; assumption)
  | (show _ ≤ 16777216; assumption)
  | (show _ ≤ 16777216; simp; done)
  | (show _ < 16777216; simp; omega)
  | (show _ ≤ 16777216; simp; omega))
local macro_rules | `(tactic| walk_at "cf") => `(tactic| assumption)
local macro_rules | `(tactic| walk_at "flen") => `(tactic| first | exact of_decide_eq_true rfl | decide | (show _ < 1000; decide) | (simp; done))
local macro_rules | `(tactic| walk_at "ty") => `(tactic| first
  | exact .base .non
  | exact .base (.bl _)
  | exact .base (.int _)
  | exact .base (.str _)
  | assumption
  | (refine .base (.lst ?_); walk_at "hp")
  | (refine .base (.tup ?_); walk_at "hp")
  | (refine .base (.dK ?_); walk_at "hp"))
local macro_rules | `(tactic| walk_at "kit") => `(tactic| first
  | exact kit_NoneType_bool
  | exact kit_NoneType_int
  | exact kit_NoneType_str
  | exact kit_NoneType_list
  | exact kit_NoneType_tuple
  | exact kit_NoneType_dict
  | exact kit_bool_bool
  | exact kit_bool_int
  | exact kit_bool_str
  | exact kit_bool_list
  | exact kit_bool_tuple
  | exact kit_bool_dict
  | exact kit_int_bool
  | exact kit_int_int
  | exact kit_int_str
  | exact kit_int_list
  | exact kit_int_tuple
  | exact kit_int_dict
  | exact kit_str_bool
  | exact kit_str_int
  | exact kit_str_str
  | exact kit_str_list
  | exact kit_str_tuple
  | exact kit_str_dict
  | exact kit_list_bool
  | exact kit_list_int
  | exact kit_list_str
  | exact kit_list_list
  | exact kit_list_tuple
  | exact kit_list_dict
  | exact kit_tuple_bool
  | exact kit_tuple_int
  | exact kit_tuple_str
  | exact kit_tuple_list
  | exact kit_tuple_tuple
  | exact kit_tuple_dict
  | exact kit_dict_bool
  | exact kit_dict_int
  | exact kit_dict_str
  | exact kit_dict_list
  | exact kit_dict_tuple
  | exact kit_dict_dict)
local macro_rules | `(tactic| walk_at "y1") => `(tactic| first
  | with_reducible apply s_seq
  | with_reducible apply s_asg
  | ((with_reducible apply s_var); (first | exact rfl | assumption))
  | with_reducible apply s_c
  | with_reducible apply s_op
  | with_reducible apply s_gname
  | with_reducible apply s_cons
  | with_reducible apply s_nil
  | with_reducible apply s_cb
  | with_reducible apply s_if
  | with_reducible apply s_test
  | with_reducible apply s_bl
  | with_reducible apply s_trubl
  | with_reducible apply s_tru
  | with_reducible apply s_and
  | with_reducible apply s_or
  | with_reducible apply s_not
  | with_reducible apply s_andV
  | with_reducible apply s_orV
  | with_reducible apply s_notV
  | with_reducible apply s_ifE
  | with_reducible apply s_true
  | with_reducible apply s_false
  | with_reducible apply s_nfalse
  | with_reducible apply s_ntrue
  | with_reducible apply s_drop
  | with_reducible apply s_ret
  | with_reducible apply s_retN
  | with_reducible apply s_next
  | with_reducible apply s_add
  | with_reducible apply s_sub
  | ((with_reducible apply s_mul); (walk_at "cmul"))
  | ((with_reducible apply s_fdiv); (exact ⟨by decide, by decide⟩))
  | ((with_reducible apply s_mod); (first | decide | omega))
  | ((with_reducible apply s_pow); (exact ⟨by decide, by decide, by decide⟩))
  | with_reducible apply s_neg
  | with_reducible apply s_lt
  | with_reducible apply s_le
  | with_reducible apply s_gt
  | with_reducible apply s_ge
  | with_reducible apply s_isN_non
  | with_reducible apply s_isN_int
  | with_reducible apply s_isN_str
  | with_reducible apply s_isN_ref
  | with_reducible apply s_notN_non
  | with_reducible apply s_notN_int
  | with_reducible apply s_notN_str
  | with_reducible apply s_notN_ref
  | with_reducible apply s_abs
  | with_reducible apply s_max2
  | with_reducible apply s_min2
  | with_reducible apply s_int1
  | with_reducible apply s_eqI
  | with_reducible apply s_eqNI
  | with_reducible apply s_neI
  | with_reducible apply s_eqS
  | with_reducible apply s_call
  | with_reducible apply s_mklst
  | with_reducible apply s_mktup
  | with_reducible apply s_bmL
  | with_reducible apply s_iRng1
  | with_reducible apply s_iRng2
  | with_reducible apply s_iEnum
  | with_reducible apply s_iter
  | with_reducible apply s_turn
  | with_reducible apply s_tyes
  | ((with_reducible refine' s_wipe ?yw ?yk); (case yw => exact rfl))
  | with_reducible apply s_gsub
  | with_reducible apply s_gcons
  | with_reducible apply s_gnil
  | with_reducible apply s_sfld
  | with_reducible apply s_meth
  | with_reducible apply s_make
  | with_reducible apply s_disp
  | with_reducible apply s_pnil
  | with_reducible apply s_pcons
  | ((with_reducible refine' s_gtup ?yh ?yl ?yk); (case yh => walk_at "hp"); (case yl => exact rfl))
  | ((with_reducible refine' s_setL ?yh ?yj ?yk); (case yh => walk_at "hp"); (case yj => first | assumption | exact rfl))
  | ((with_reducible refine' s_setDS ?yh ?yl ?yk); (case yh => walk_at "hp"); (case yl => walk_at "len"))
  | ((with_reducible refine' s_setf ?yh ?yc ?yn ?yl ?yk); (case yh => walk_at "hp"); (case yc => walk_at "cf"); (case yn => walk_at "cf"); (case yl => walk_at "flen"))
  | ((with_reducible refine' s_recv ?yh ?yl ?yk); (case yh => walk_at "hp"); (case yl => exact rfl))
  | ((with_reducible refine' s_ixDS ?yh ?ya ?yk); (case yh => walk_at "hp"); (case ya => first | assumption | exact rfl))
  | ((with_reducible refine' s_tyL ?yh ?yk); (case yh => walk_at "hp"))
  | ((with_reducible refine' s_append ?yh ?yl ?yk); (case yh => walk_at "hp"); (case yl => walk_at "len"))
  | ((with_reducible refine' s_lenL ?yh ?yk); (case yh => walk_at "hp"))
  | ((with_reducible refine' s_lenLs ?yh ?yk); (case yh => assumption))
  | ((with_reducible refine' s_lenT ?yh ?yk); (case yh => walk_at "hp"))
  | ((with_reducible refine' s_lenTs ?yh ?yk); (case yh => assumption))
  | ((with_reducible refine' s_lenE ?yh ?yk); (case yh => assumption))
  | ((with_reducible refine' s_ixE ?yh ?ya ?yk); (case yh => assumption); (case ya => first | assumption | exact rfl))
  | ((with_reducible refine' s_ixTs ?yh ?ya ?yk); (case yh => assumption); (case ya => first | assumption | exact rfl))
  | ((with_reducible refine' s_isi ?yt ?yb ?yk); (case yt => walk_at "ty"); (case yb => walk_at "kit"))
  | ((with_reducible refine' s_listof ?yh ?yk); (case yh => walk_at "hp"))
  | ((with_reducible refine' s_ixL ?yh ?ya ?yk); (case yh => walk_at "hp"); (case ya => first | assumption | exact rfl))
  | ((with_reducible refine' s_ixT ?yh ?ya ?yk); (case yh => walk_at "hp"); (case ya => first | assumption | exact rfl))
  | ((with_reducible refine' s_ixLs ?yh ?ya ?yk); (case yh => assumption); (case ya => first | assumption | exact rfl))
  | ((with_reducible refine' s_itrL ?yh ?yk); (case yh => walk_at "hp"))
  | ((with_reducible refine' s_itrLs ?yh ?yk); (case yh => assumption))
  | ((with_reducible refine' s_itrT ?yh ?yk); (case yh => walk_at "hp"))
  | ((with_reducible refine' s_enumL ?yh ?yk); (case yh => walk_at "hp"))
  | ((with_reducible refine' s_fldv ?yv ?yh ?yc ?yn ?yl ?yk); (case yv => exact rfl); (case yh => walk_at "hp"); (case yc => walk_at "cf"); (case yn => walk_at "cf"); (case yl => exact rfl)))
local macro_rules | `(tactic| walk_at "yl") => `(tactic| first
  | with_reducible apply s_for
  | with_reducible apply s_lc)
local macro_rules | `(tactic| walk_at "ys") => `(tactic| repeat walk_at "y1")
local macro_rules | `(tactic| walk_at "y") => `(tactic| repeat (first | walk_at "y1" | walk_at "yl"))

local macro_rules | `(tactic| walk_at "cf") => `(tactic| first | exact ClsFacts.cl (by assumption) | exact ClsFacts.nc (by assumption) | exact ClsFacts.ni (by assumption) | exact ClsFacts.no (by assumption))
section
variable {K : PySem.W.Frag} {C : Addr} {vs : List V} {H : Hp} {Q : VK} {E : XK}
/-- the parts of a lineage stand apart -/
theorem LinAt.apart {A : LA} {L : List Rw} {m : Nat} (h : LinAt C H A L m) : A.x ≠ A.c ∧ A.x ≠ A.i ∧ A.x ≠ A.o ∧ A.c ≠ A.i ∧ A.c ≠ A.o ∧ A.i ≠ A.o ∧ A.c ∉ A.is ∧ A.c ∉ A.os ∧ A.i ∉ A.is ∧ A.i ∉ A.os ∧ A.o ∉ A.is ∧ A.o ∉ A.os ∧ (∀ a ∈ A.is, a ∉ A.os) ∧ A.is.Nodup ∧ A.os.Nodup ∧ A.x ∉ A.is ∧ A.x ∉ A.os := by
  have nd := h.nd
  have hx := h.xno
  simp only [LA.own, List.nodup_cons, List.mem_cons, List.mem_append, not_or] at nd hx
  have hnd := nd.2.2.2
  rw [List.nodup_append] at hnd
  exact ⟨hx.1, hx.2.1, hx.2.2.1, nd.1.1, nd.1.2.1, nd.2.1.1, nd.1.2.2.1, nd.1.2.2.2, nd.2.1.2.1, nd.2.1.2.2, nd.2.2.1.1, nd.2.2.1.2, fun a ha hb => hnd.2.2 a ha a hb rfl, hnd.1, hnd.2.1, hx.2.2.2.1, hx.2.2.2.2⟩
theorem nd_get {α : Type} {l : List α} (h : l.Nodup) {i j : Nat} {a : α} (h1 : l[i]? = some a) (h2 : l[j]? = some a) : i = j := nd_ix h h1 h2
theorem p_put (T : ClsFacts K C) (h : sp_put C vs H Q E) : rd_put K C { nx := fun _ H' => Q .non H', rt := Q } (start ["self", "name", "amount", "maker", "index"] vs) H := by
  obtain ⟨A, L, m, nv, nm, am, mk, rfl, hA, hn, hmk, hL, k⟩ := h
  have h0 := hA.ob
  obtain ⟨vs, h1, h2⟩ := hA.cs
  have hl := Pd.len h2
  have hi := hA.li
  have ho := hA.lo
  have e1 := hA.nis
  have e2 := hA.nos
  obtain ⟨x1, x2, x3, a1, a2, a3, a4, a5, a6, a7, a8, a9, a10, a11, a12, a13, a14⟩ := hA.apart
  unfold rd_put
  walk_at "y"
  refine ⟨by (show 4 ≤ 16777216; decide), fun p hp => ?_⟩
  have n1 : A.c ≠ p := ne_of_none h1 hp
  have n2 : A.x ≠ p := ne_of_none h0 hp
  have n3 : A.i ≠ p := ne_of_none hi hp
  have n4 : A.o ≠ p := ne_of_none ho hp
  have hp' := hp
  have hown : ∀ a ∈ A.own, a ≠ p := fun a ha => by
    obtain ⟨xs, hx⟩ := hA.lst a ha
    exact ne_of_none hx hp
  have el : (vs.length : Int) = (L.length : Int) := by rw [hl]
  cases mk with
  | none =>
    walk_at "y"
    rw [el]
    have fr : Fr A.own H (upd (upd H p (.tup [nv, .int am, .non, .non])) A.c (.lst (vs ++ [.ref p]))) := Fr.upd (Fr.upd Fr.refl (.inr hp)) (.inl (by simp [LA.own]))
    have kt := fr.kt hA.nt
    have still : ∀ a, a ∈ A.own → a ≠ A.c → (upd (upd H p (.tup [nv, .int am, .non, .non])) A.c (.lst (vs ++ [.ref p]))) a = H a := fun a ha hc => by
      rw [upd_ne hc, upd_ne (hown a ha)]
    refine k _ ⟨by walk_at "hp", ⟨_, upd_same, Paired.snoc (Pd.mono h2 fun _ _ => RowAt.keep kt) ⟨p, nv, rfl, by walk_at "hp", hn.keep kt⟩⟩, by walk_at "hp", by walk_at "hp", e1, e2, ?_, ?_, hA.nd, ?_⟩ fr
    · intro s a hs
      obtain ⟨ns, g1, g2⟩ := hA.ins s a hs
      have hm := List.mem_of_getElem? hs
      refine ⟨ns, by rw [still a (by simp [LA.own, hm]) (fun e => a4 (e ▸ hm))]; exact g1, ?_⟩
      rw [ixs_snoc]
      simpa using g2
    · intro s a hs
      have hm := List.mem_of_getElem? hs
      rw [still a (by simp [LA.own, hm]) (fun e => a5 (e ▸ hm)), ixs_snoc]
      simpa using hA.out s a hs
    · intro r hr
      rcases List.mem_append.mp hr with hr | hr
      · exact hA.wf r hr
      · simp at hr; subst hr; simp
  | some s =>
    have hs := hmk s rfl
    have hs' : s < A.os.length := by rw [e2]; exact hs
    have hv : atI (A.os.map V.ref) (s : Int) = some (V.ref A.os[s]) := atI_nat (by simp [hs'])
    have g3 := hA.out s _ (List.getElem?_eq_getElem hs')
    have hmem : A.os[s] ∈ A.os := List.getElem_mem hs'
    have m1 : A.os[s] ≠ A.c := fun e => a5 (e ▸ hmem)
    have m2 : A.os[s] ≠ p := hown _ (by simp [LA.own, hmem])
    have m3 : A.x ≠ A.os[s] := fun e => a14 (e ▸ hmem)
    have m4 : A.i ≠ A.os[s] := fun e => a7 (e ▸ hmem)
    have m5 : A.o ≠ A.os[s] := fun e => a9 (e ▸ hmem)
    have hlen : ((ixs L (mkIs s)).map V.int).length < 16777216 := by
      have := ixs_len (p := mkIs s) L
      rw [List.length_map]; omega
    walk_at "y"
    rw [el]
    have fr : Fr A.own H (upd (upd (upd H p (.tup [nv, .int am, .int s, .non])) A.c (.lst (vs ++ [.ref p]))) A.os[s] (.lst ((ixs L (mkIs s)).map V.int ++ [.int L.length]))) :=
      Fr.upd (Fr.upd (Fr.upd Fr.refl (.inr hp)) (.inl (by simp [LA.own]))) (.inl (by simp [LA.own, hmem]))
    have kt := fr.kt hA.nt
    have still : ∀ a, a ∈ A.own → a ≠ A.c → a ≠ A.os[s] → (upd (upd (upd H p (.tup [nv, .int am, .int s, .non])) A.c (.lst (vs ++ [.ref p]))) A.os[s] (.lst ((ixs L (mkIs s)).map V.int ++ [.int L.length]))) a = H a := fun a ha hc hd => by
      rw [upd_ne hd, upd_ne hc, upd_ne (hown a ha)]
    refine k _ ⟨by walk_at "hp", ⟨vs ++ [.ref p], by walk_at "hp", Paired.snoc (Pd.mono h2 fun _ _ => RowAt.keep kt) ⟨p, nv, rfl, by walk_at "hp", hn.keep kt⟩⟩, by walk_at "hp", by walk_at "hp", e1, e2, ?_, ?_, hA.nd, ?_⟩ fr
    · intro t a ht
      obtain ⟨ns, g1, g2⟩ := hA.ins t a ht
      have hm := List.mem_of_getElem? ht
      refine ⟨ns, by rw [still a (by simp [LA.own, hm]) (fun e => a4 (e ▸ hm)) (fun e => a10 a hm (e ▸ hmem))]; exact g1, ?_⟩
      rw [ixs_snoc]
      simpa using g2
    · intro t a ht
      have hm := List.mem_of_getElem? ht
      by_cases hst : t = s
      · subst hst
        obtain rfl : A.os[t] = a := by
          rw [List.getElem?_eq_getElem hs'] at ht
          exact Option.some.inj ht
        rw [upd_same, ixs_snoc, if_pos (by simp), List.map_append]
        rfl
      · have hne : a ≠ A.os[s] := fun e => hst (nd_get a12 ht (by rw [e]; exact List.getElem?_eq_getElem hs'))
        rw [still a (by simp [LA.own, hm]) (fun e => a5 (e ▸ hm)) hne, ixs_snoc, if_neg (by simp; exact fun e => hst e.symm), List.append_nil]
        exact hA.out t a ht
    · intro r hr
      rcases List.mem_append.mp hr with hr | hr
      · exact hA.wf r hr
      · simp at hr; subst hr; simp; exact hs
theorem p_enter (T : ClsFacts K C) (h : sp_enter C vs H Q E) : rd_enter K C { nx := fun _ H' => Q .non H', rt := Q } (start ["self", "index", "station", "name", "amount", "maker", "_"] vs) H := by
  obtain ⟨A, L, m, j, s, r, rfl, hA, hr, htk, hs, hL, k⟩ := h
  have h0 := hA.ob
  obtain ⟨vs, h1, h2⟩ := hA.cs
  have hl := Pd.len h2
  have hi := hA.li
  have ho := hA.lo
  have e1 := hA.nis
  have e2 := hA.nos
  obtain ⟨x1, x2, x3, a1, a2, a3, a4, a5, a6, a7, a8, a9, a10, a11, a12, a13, a14⟩ := hA.apart
  obtain ⟨v, hv, a, nv, rfl, ha, hn⟩ := Pd.get h2 hr
  have hv' := atI_nat hv
  have hjl : j < L.length := (List.getElem?_eq_some_iff.mp hr).1
  have hix : ixN vs.length (j : Int) = some j := Evl.ixN_nat (by omega)
  have hs' : s < A.is.length := by rw [e1]; exact hs
  have hat : atI (A.is.map V.ref) (s : Int) = some (V.ref A.is[s]) := atI_nat (by simp [hs'])
  obtain ⟨ns, g1, g2⟩ := hA.ins s _ (List.getElem?_eq_getElem hs')
  have hmem : A.is[s] ∈ A.is := List.getElem_mem hs'
  have hown : ∀ p, H p = none → ∀ a ∈ A.own, a ≠ p := fun p hp a ha => by
    obtain ⟨xs, hx⟩ := hA.lst a ha
    exact ne_of_none hx hp
  have c1 : a ≠ A.c := ne_of ha h1 (by intro z; cases z)
  unfold rd_enter
  walk_at "y"
  refine ⟨by (show 4 ≤ 16777216; decide), fun p hp => ?_⟩
  have n1 : A.c ≠ p := ne_of_none h1 hp
  have n2 : A.x ≠ p := ne_of_none h0 hp
  have n3 : A.i ≠ p := ne_of_none hi hp
  have n4 : A.o ≠ p := ne_of_none ho hp
  have m1 : A.is[s] ≠ A.c := fun e => a4 (e ▸ hmem)
  have m2 : A.is[s] ≠ p := hown p hp _ (by simp [LA.own, hmem])
  have m3 : A.x ≠ A.is[s] := fun e => a13 (e ▸ hmem)
  have m4 : A.i ≠ A.is[s] := fun e => a6 (e ▸ hmem)
  have m5 : A.o ≠ A.is[s] := fun e => a8 (e ▸ hmem)
  have hlen : (ns.map V.int).length < 16777216 := by
    have := ixs_len (p := tkIs s) L
    have := g2.length_eq
    rw [List.length_map]; omega
  walk_at "y"

  have fr : Fr A.own H (upd (upd (upd H p (.tup [nv, .int r.am, oV r.mr, .int s])) A.c (.lst (vs.set j (.ref p)))) A.is[s] (.lst (ns.map V.int ++ [.int j]))) :=
    Fr.upd (Fr.upd (Fr.upd Fr.refl (.inr hp)) (.inl (by simp [LA.own]))) (.inl (by simp [LA.own, hmem]))
  have kt := fr.kt hA.nt
  have still : ∀ a, a ∈ A.own → a ≠ A.c → a ≠ A.is[s] → (upd (upd (upd H p (.tup [nv, .int r.am, oV r.mr, .int s])) A.c (.lst (vs.set j (.ref p)))) A.is[s] (.lst (ns.map V.int ++ [.int j]))) a = H a := fun a ha hc hd => by
    rw [upd_ne hd, upd_ne hc, upd_ne (hown p hp a ha)]
  refine k _ ⟨by walk_at "hp", ⟨vs.set j (.ref p), by walk_at "hp", Pd.set (b := { r with tk := some s }) ⟨p, nv, rfl, by walk_at "hp", hn.keep kt⟩ j (Pd.mono h2 fun _ _ => RowAt.keep kt)⟩, by walk_at "hp", by walk_at "hp", e1, e2, ?_, ?_, hA.nd, ?_⟩ fr
  · intro t a ht
    have hm := List.mem_of_getElem? ht
    by_cases hst : t = s
    · subst hst
      obtain rfl : A.is[t] = a := by
        rw [List.getElem?_eq_getElem hs'] at ht
        exact Option.some.inj ht
      refine ⟨ns ++ [(j : Int)], by rw [upd_same, List.map_append]; rfl, ?_⟩
      refine (g2.append_right [(j : Int)]).trans (ixs_set_new hr (by simp [htk]) (by simp)).symm
    · have hne : a ≠ A.is[s] := fun e => hst (nd_get a11 ht (by rw [e]; exact List.getElem?_eq_getElem hs'))
      obtain ⟨ns', g3, g4⟩ := hA.ins t a ht
      refine ⟨ns', by rw [still a (by simp [LA.own, hm]) (fun e => a4 (e ▸ hm)) hne]; exact g3, ?_⟩
      rw [ixs_set_same hr (by simp [htk]; exact fun e => hst e.symm)]
      exact g4
  · intro t a ht
    have hm := List.mem_of_getElem? ht
    rw [still a (by simp [LA.own, hm]) (fun e => a5 (e ▸ hm)) (fun e => a10 _ hmem (e ▸ hm)), ixs_set_same hr (show mkIs t { r with tk := some s } = mkIs t r from rfl)]
    exact hA.out t a ht
  · intro r' hr'
    rcases List.mem_or_eq_of_mem_set hr' with hr' | rfl
    · exact hA.wf r' hr'
    · have := hA.wf r (List.mem_of_getElem? hr)
      exact ⟨fun t e => by simp at e; omega, this.2⟩
end
end Z

namespace Z
open PySem PySem.Spec PyProof.Rows L2 Y
local macro_rules | `(tactic| walk_at "ne") => `(tactic| first
  | assumption
  | (apply Ne.symm; assumption)
  | (refine ne_of_none ?_ (by assumption); first | assumption | exact upd_same)
  | (apply Ne.symm; refine ne_of_none ?_ (by assumption); first | assumption | exact upd_same))
local macro_rules | `(tactic| walk_at "hp") => `(tactic| first
  | assumption
  | exact upd_same
  | (refine Eq.trans (upd_ne ?nn) ?_; (case nn => walk_at "ne"); walk_at "hp"))
local macro_rules | `(tactic| walk_at "cmul") => `(tactic| first
  | exact Or.inr ⟨by decide, by decide⟩
  | exact Or.inl ⟨by decide, by decide⟩
  | exact Or.inr ⟨by omega, by omega⟩
  | exact Or.inl ⟨by omega, by omega⟩)
local macro_rules | `(tactic| walk_at "len") => `(tactic| first
  | exact of_decide_eq_true rfl
  | (show _ < 16777216; assumption)
  | (show _ ≤ 16777216; assumption)
  | (show _ ≤ 16777216; simp; done)
  | (show _ < 16777216; simp; omega)
  | (show _ ≤ 16777216; simp; omega))
local macro_rules | `(tactic| walk_at "cf") => `(tactic| assumption)
local macro_rules | `(tactic| walk_at "flen") => `(tactic| first | exact of_decide_eq_true rfl | decide | (show _ < 1000; decide) | (simp; done))
local macro_rules | `(tactic| walk_at "ty") => `(tactic| first
  | exact .base .non
  | exact .base (.bl _)
  | exact .base (.int _)
  | exact .base (.str _)
  | assumption
  | (refine .base (.lst ?_); walk_at "hp")
  | (refine .base (.tup ?_); walk_at "hp")
  | (refine .base (.dK ?_); walk_at "hp"))
local macro_rules | `(tactic| walk_at "kit") => `(tactic| first
  | exact kit_NoneType_bool
  | exact kit_NoneType_int
  | exact kit_NoneType_str
  | exact kit_NoneType_list
  | exact kit_NoneType_tuple
  | exact kit_NoneType_dict
  | exact kit_bool_bool
  | exact kit_bool_int
  | exact kit_bool_str
  | exact kit_bool_list
  | exact kit_bool_tuple
  | exact kit_bool_dict
  | exact kit_int_bool
  | exact kit_int_int
  | exact kit_int_str
  | exact kit_int_list
  | exact kit_int_tuple
  | exact kit_int_dict
  | exact kit_str_bool
  | exact kit_str_int
  | exact kit_str_str
  | exact kit_str_list
  | exact kit_str_tuple
  | exact kit_str_dict
  | exact kit_list_bool
  | exact kit_list_int
  | exact kit_list_str
  | exact kit_list_list
  | exact kit_list_tuple
  | exact kit_list_dict
  | exact kit_tuple_bool
  | exact kit_tuple_int
  | exact kit_tuple_str
  | exact kit_tuple_list
  | exact kit_tuple_tuple
  | exact kit_tuple_dict
  | exact kit_dict_bool
  | exact kit_dict_int
  | exact kit_dict_str
  | exact kit_dict_list
  | exact kit_dict_tuple
  | exact kit_dict_dict)
local macro_rules | `(tactic| walk_at "y1") => `(tactic| first
  | with_reducible apply s_seq
  | with_reducible apply s_asg
  | ((with_reducible apply s_var); (first | exact rfl | assumption))
  | with_reducible apply s_c
  | with_reducible apply s_op
  | with_reducible apply s_gname
  | with_reducible apply s_cons
  | with_reducible apply s_nil
  | with_reducible apply s_cb
  | with_reducible apply s_if
  | with_reducible apply s_test
  | with_reducible apply s_bl
  | with_reducible apply s_trubl
  | with_reducible apply s_tru
  | with_reducible apply s_and
  | with_reducible apply s_or
  | with_reducible apply s_not
  | with_reducible apply s_andV
  | with_reducible apply s_orV
  | with_reducible apply s_notV
  | with_reducible apply s_ifE
  | with_reducible apply s_true
  | with_reducible apply s_false
  | with_reducible apply s_nfalse
  | with_reducible apply s_ntrue
  | with_reducible apply s_drop
  | with_reducible apply s_ret
  | with_reducible apply s_retN
  | with_reducible apply s_next
  | with_reducible apply s_add
  | with_reducible apply s_sub
  | ((with_reducible apply s_mul); (walk_at "cmul"))
  | ((with_reducible apply s_fdiv); (exact ⟨by decide, by decide⟩))
  | ((with_reducible apply s_mod); (first | decide | omega))
  | ((with_reducible apply s_pow); (exact ⟨by decide, by decide, by decide⟩))
  | with_reducible apply s_neg
  | with_reducible apply s_lt
  | with_reducible apply s_le
  | with_reducible apply s_gt
  | with_reducible apply s_ge
  | with_reducible apply s_isN_non
  | with_reducible apply s_isN_int
  | with_reducible apply s_isN_str
  | with_reducible apply s_isN_ref
  | with_reducible apply s_notN_non
  | with_reducible apply s_notN_int
  | with_reducible apply s_notN_str
  | with_reducible apply s_notN_ref
  | with_reducible apply s_abs
  | with_reducible apply s_max2
  | with_reducible apply s_min2
  | with_reducible apply s_int1
  | with_reducible apply s_eqI
  | with_reducible apply s_eqNI
  | with_reducible apply s_neI
  | with_reducible apply s_eqS
  | with_reducible apply s_call
  | with_reducible apply s_mklst
  | with_reducible apply s_mktup
  | with_reducible apply s_bmL
  | with_reducible apply s_iRng1
  | with_reducible apply s_iRng2
  | with_reducible apply s_iEnum
  | with_reducible apply s_iter
  | with_reducible apply s_turn
  | with_reducible apply s_tyes
  | ((with_reducible refine' s_wipe ?yw ?yk); (case yw => exact rfl))
  | with_reducible apply s_gsub
  | with_reducible apply s_gcons
  | with_reducible apply s_gnil
  | with_reducible apply s_sfld
  | with_reducible apply s_meth
  | with_reducible apply s_make
  | with_reducible apply s_disp
  | with_reducible apply s_pnil
  | with_reducible apply s_pcons
  | ((with_reducible refine' s_gtup ?yh ?yl ?yk); (case yh => walk_at "hp"); (case yl => exact rfl))
  | ((with_reducible refine' s_setL ?yh ?yj ?yk); (case yh => walk_at "hp"); (case yj => first | assumption | exact rfl))
  | ((with_reducible refine' s_setDS ?yh ?yl ?yk); (case yh => walk_at "hp"); (case yl => walk_at "len"))
  | ((with_reducible refine' s_setf ?yh ?yc ?yn ?yl ?yk); (case yh => walk_at "hp"); (case yc => walk_at "cf"); (case yn => walk_at "cf"); (case yl => walk_at "flen"))
  | ((with_reducible refine' s_recv ?yh ?yl ?yk); (case yh => walk_at "hp"); (case yl => exact rfl))
  | ((with_reducible refine' s_ixDS ?yh ?ya ?yk); (case yh => walk_at "hp"); (case ya => first | assumption | exact rfl))
  | ((with_reducible refine' s_tyL ?yh ?yk); (case yh => walk_at "hp"))
  | ((with_reducible refine' s_append ?yh ?yl ?yk); (case yh => walk_at "hp"); (case yl => walk_at "len"))
  | ((with_reducible refine' s_lenL ?yh ?yk); (case yh => walk_at "hp"))
  | ((with_reducible refine' s_lenLs ?yh ?yk); (case yh => assumption))
  | ((with_reducible refine' s_lenT ?yh ?yk); (case yh => walk_at "hp"))
  | ((with_reducible refine' s_lenTs ?yh ?yk); (case yh => assumption))
  | ((with_reducible refine' s_lenE ?yh ?yk); (case yh => assumption))
  | ((with_reducible refine' s_ixE ?yh ?ya ?yk); (case yh => assumption); (case ya => first | assumption | exact rfl))
  | ((with_reducible refine' s_ixTs ?yh ?ya ?yk); (case yh => assumption); (case ya => first | assumption | exact rfl))
  | ((with_reducible refine' s_isi ?yt ?yb ?yk); (case yt => walk_at "ty"); (case yb => walk_at "kit"))
  | ((with_reducible refine' s_listof ?yh ?yk); (case yh => walk_at "hp"))
  | ((with_reducible refine' s_ixL ?yh ?ya ?yk); (case yh => walk_at "hp"); (case ya => first | assumption | exact rfl))
  | ((with_reducible refine' s_ixT ?yh ?ya ?yk); (case yh => walk_at "hp"); (case ya => first | assumption | exact rfl))
  | ((with_reducible refine' s_ixLs ?yh ?ya ?yk); (case yh => assumption); (case ya => first | assumption | exact rfl))
  | ((with_reducible refine' s_itrL ?yh ?yk); (case yh => walk_at "hp"))
  | ((with_reducible refine' s_itrLs ?yh ?yk); (case yh => assumption))
  | ((with_reducible refine' s_itrT ?yh ?yk); (case yh => walk_at "hp"))
  | ((with_reducible refine' s_enumL ?yh ?yk); (case yh => walk_at "hp"))
  | ((with_reducible refine' s_fldv ?yv ?yh ?yc ?yn ?yl ?yk); (case yv => exact rfl); (case yh => walk_at "hp"); (case yc => walk_at "cf"); (case yn => walk_at "cf"); (case yl => exact rfl)))
local macro_rules | `(tactic| walk_at "yl") => `(tactic| first
  | with_reducible apply s_for
  | with_reducible apply s_lc)
local macro_rules | `(tactic| walk_at "ys") => `(tactic| repeat walk_at "y1")
local macro_rules | `(tactic| walk_at "y") => `(tactic| repeat (first | walk_at "y1" | walk_at "yl"))

local macro_rules | `(tactic| walk_at "cf") => `(tactic| first | exact ClsFacts.cl (by assumption) | exact ClsFacts.nc (by assumption) | exact ClsFacts.ni (by assumption) | exact ClsFacts.no (by assumption))
section
variable {K : PySem.W.Frag} {C : Addr} {vs : List V} {H : Hp} {Q : VK} {E : XK} {n : Nat}
theorem same_items {told due : Addr} {xs ys : List V} {ds : List PyData} (hQ : ∀ H', Same H H' → Q (.bl true) H') (h1 : DpAll K H xs ds) (h2 : DpAll K H ys ds) (hx : SqL K H told xs ∨ SqT K H told xs) (hy : SqL K H due ys ∨ SqT K H due ys)
    (hl : ds.length ≤ 100000) (ho : ∀ d ∈ ds, okd n d = true) {D : Ends} {σ : L2.St} (hσ : σ = [some (.ref told), some (.ref due), none]) (hDr : D.rt = Q) :
    (tRet (tOp (rdEq K) (tLc (iRng1 (tCons (tCB (rdLen K) (tCons (tVar 1) tNil)) tNil)) (gName 2) (tNot (tTru K (tCall (sp_same K (n + 1)) [] E0 (tCons (tOp (rdIx K) (tVar 0) (tVar 2)) (tCons (tOp (rdIx K) (tVar 1) (tVar 2)) tNil))))) (tVar 2) [2]) (tLst tNil))) D σ H := by
  subst hσ
  have ly := DpAll.len h2
  have lx := DpAll.len h1
  walk_at "y"
  refine s_rng1 (by omega) (by omega) ?_
  refine l_range (fun D i acc H' => Same H H' ∧ acc = []) ?_ ?_ ?_
  · intro D hD
    exact ⟨Same.new hD, rfl⟩
  · rintro D i acc H' hD hi hA hlen ⟨s, rfl⟩
    have hi' : i < ds.length := by omega
    obtain ⟨x, gx, dx⟩ := DpAll.get h1 (List.getElem?_eq_getElem hi')
    obtain ⟨y, gy, dy⟩ := DpAll.get h2 (List.getElem?_eq_getElem hi')
    have hx' : SqL K H' told xs ∨ SqT K H' told xs := hx.imp (SqL.same s) (SqT.same s)
    have hy' : SqL K H' due ys ∨ SqT K H' due ys := hy.imp (SqL.same s) (SqT.same s)
    have ax : atI xs (0 + (i : Int)) = some x := at_of (by omega) gx
    have ay : atI ys (0 + (i : Int)) = some y := at_of (by omega) gy
    walk_at "y"
    refine ⟨x, y, ds[i], n, rfl, rfl, Dp.same s dx, Dp.same s dy, ho _ (List.getElem_mem hi'), fun H2 s2 => ?_⟩
    walk_at "y"
    exact LcSkip.mk (s2 _ _ hA) hlen ⟨s.trans s2, rfl⟩
  · rintro D acc H' hD hA hlen ⟨s, rfl⟩
    walk_at "y"
    refine ⟨Nat.zero_le _, fun p hp => ?_⟩
    have ne : D ≠ p := ne_of_none hA hp
    refine s_eqD (d := .list []) (e := .list []) (.lst (SqL.of (Eq.trans (upd_ne ne) hA)) .nil) (.lst (SqL.of upd_same) .nil) (by decide +kernel) (by decide +kernel) ?_
    rw [hDr]
    exact hQ _ (s.trans (Same.new hp))
theorem p_same (h : sp_same K (n + 1) vs H Q E) : rd_same K C n { nx := fun _ H' => Q .non H', rt := Q } (start ["told", "due", "k"] vs) H := by
  obtain ⟨told, due, d, m, rfl, hm, h1, h2, hd, k⟩ := h
  obtain rfl : n = m := by omega
  unfold rd_same
  cases h2 with
  | non =>
    cases h1
    walk_at "y"
    exact k H (Same.refl H)
  | bl b => cases n <;> simp [okd] at hd
  | int i =>
    cases h1
    walk_at "y"
    rw [decide_eq_true rfl]
    exact k H (Same.refl H)
  | str x =>
    cases h1
    walk_at "y"
    rw [decide_eq_true rfl]
    exact k H (Same.refl H)
  | lst hy hys =>
    cases h1 with | lst hx hxs =>
    have tx := tyx_lst hx
    have ty := tyx_lst hy
    have ly := DpAll.len hys
    have lx := DpAll.len hxs
    obtain ⟨n, rfl⟩ : ∃ n', n = n' + 1 := by
      cases n with
      | zero => simp [okd] at hd
      | succ n => exact ⟨n, rfl⟩
    simp only [okd, Bool.and_eq_true, decide_eq_true_eq, List.all_eq_true] at hd
    walk_at "y"
    rw [ly, lx]
    refine s_ndec (fun h => absurd rfl h) (fun _ => ?_)
    walk_at "y1"
    exact same_items k hxs hys (.inl hx) (.inl hy) hd.1 hd.2 rfl rfl
  | tup hy hys =>
    cases h1 with | tup hx hxs =>
    have tx := tyx_tup hx
    have ty := tyx_tup hy
    have ly := DpAll.len hys
    have lx := DpAll.len hxs
    obtain ⟨n, rfl⟩ : ∃ n', n = n' + 1 := by
      cases n with
      | zero => simp [okd] at hd
      | succ n => exact ⟨n, rfl⟩
    simp only [okd, Bool.and_eq_true, decide_eq_true_eq, List.all_eq_true] at hd
    walk_at "y"
    rw [ly, lx]
    refine s_ndec (fun h => absurd rfl h) (fun _ => ?_)
    walk_at "y1"
    exact same_items k hxs hys (.inr hx) (.inr hy) hd.1 hd.2 rfl rfl
end
end Z

namespace Z
open PySem PySem.Spec PyProof.Rows L2 Y
local macro_rules | `(tactic| walk_at "ne") => `(tactic| first
  | assumption
  | (apply Ne.symm; assumption)
  | (refine ne_of_none ?_ (by assumption); first | assumption | exact upd_same)
  | (apply Ne.symm; refine ne_of_none ?_ (by assumption); first | assumption | exact upd_same))
local macro_rules | `(tactic| walk_at "hp") => `(tactic| first
  | assumption
  | exact upd_same
  | (refine Eq.trans (upd_ne ?nn) ?_; (case nn => walk_at "ne"); walk_at "hp"))
local macro_rules | `(tactic| walk_at "cmul") => `(tactic| first
  | exact Or.inr ⟨by decide, by decide⟩
  | exact Or.inl ⟨by decide, by decide⟩
  | exact Or.inr ⟨by omega, by omega⟩
  | exact Or.inl ⟨by omega, by omega⟩)
local macro_rules | `(tactic| walk_at "len") => `(tactic| first
  | exact of_decide_eq_true rfl
  | (show _ < 16777216; assumption)
  | (show _ ≤ 16777216; assumption)
  | (show _ ≤ 16777216; simp; done)
  | (show _ < 16777216; simp; omega)
  | (show _ ≤ 16777216; simp; omega))
local macro_rules | `(tactic| walk_at "cf") => `(tactic| assumption)
local macro_rules | `(tactic| walk_at "flen") => `(tactic| first | exact of_decide_eq_true rfl | decide | (show _ < 1000; decide) | (simp; done))
local macro_rules | `(tactic| walk_at "ty") => `(tactic| first
  | exact .base .non
  | exact .base (.bl _)
  | exact .base (.int _)
  | exact .base (.str _)
  | assumption
  | (refine .base (.lst ?_); walk_at "hp")
  | (refine .base (.tup ?_); walk_at "hp")
  | (refine .base (.dK ?_); walk_at "hp"))
local macro_rules | `(tactic| walk_at "kit") => `(tactic| first
  | exact kit_NoneType_bool
  | exact kit_NoneType_int
  | exact kit_NoneType_str
  | exact kit_NoneType_list
  | exact kit_NoneType_tuple
  | exact kit_NoneType_dict
  | exact kit_bool_bool
  | exact kit_bool_int
  | exact kit_bool_str
  | exact kit_bool_list
  | exact kit_bool_tuple
  | exact kit_bool_dict
  | exact kit_int_bool
  | exact kit_int_int
  | exact kit_int_str
  | exact kit_int_list
  | exact kit_int_tuple
  | exact kit_int_dict
  | exact kit_str_bool
  | exact kit_str_int
  | exact kit_str_str
  | exact kit_str_list
  | exact kit_str_tuple
  | exact kit_str_dict
  | exact kit_list_bool
  | exact kit_list_int
  | exact kit_list_str
  | exact kit_list_list
  | exact kit_list_tuple
  | exact kit_list_dict
  | exact kit_tuple_bool
  | exact kit_tuple_int
  | exact kit_tuple_str
  | exact kit_tuple_list
  | exact kit_tuple_tuple
  | exact kit_tuple_dict
  | exact kit_dict_bool
  | exact kit_dict_int
  | exact kit_dict_str
  | exact kit_dict_list
  | exact kit_dict_tuple
  | exact kit_dict_dict)
local macro_rules | `(tactic| walk_at "y1") => `(tactic| first
  | with_reducible apply s_seq
  | with_reducible apply s_asg
  | ((with_reducible apply s_var); (first | exact rfl | assumption))
  | with_reducible apply s_c
  | with_reducible apply s_op
  | with_reducible apply s_gname
  | with_reducible apply s_cons
  | with_reducible apply s_nil
  | with_reducible apply s_cb
  | with_reducible apply s_if
  | with_reducible apply s_test
  | with_reducible apply s_bl
  | with_reducible apply s_trubl
  | with_reducible apply s_tru
  | with_reducible apply s_and
  | with_reducible apply s_or
  | with_reducible apply s_not
  | with_reducible apply s_andV
  | with_reducible apply s_orV
  | with_reducible apply s_notV
  | with_reducible apply s_ifE
  | with_reducible apply s_true
  | with_reducible apply s_false
  | with_reducible apply s_nfalse
  | with_reducible apply s_ntrue
  | with_reducible apply s_drop
  | with_reducible apply s_ret
  | with_reducible apply s_retN
  | with_reducible apply s_next
  | with_reducible apply s_add
  | with_reducible apply s_sub
  | ((with_reducible apply s_mul); (walk_at "cmul"))
  | ((with_reducible apply s_fdiv); (exact ⟨by decide, by decide⟩))
  | ((with_reducible apply s_mod); (first | decide | omega))
  | ((with_reducible apply s_pow); (exact ⟨by decide, by decide, by decide⟩))
  | with_reducible apply s_neg
  | with_reducible apply s_lt
  | with_reducible apply s_le
  | with_reducible apply s_gt
  | with_reducible apply s_ge
  | with_reducible apply s_isN_non
  | with_reducible apply s_isN_int
  | with_reducible apply s_isN_str
  | with_reducible apply s_isN_ref
  | with_reducible apply s_notN_non
  | with_reducible apply s_notN_int
  | with_reducible apply s_notN_str
  | with_reducible apply s_notN_ref
  | with_reducible apply s_abs
  | with_reducible apply s_max2
  | with_reducible apply s_min2
  | with_reducible apply s_int1
  | with_reducible apply s_eqI
  | with_reducible apply s_eqNI
  | with_reducible apply s_neI
  | with_reducible apply s_eqS
  | with_reducible apply s_call
  | with_reducible apply s_mklst
  | with_reducible apply s_mktup
  | with_reducible apply s_bmL
  | with_reducible apply s_iRng1
  | with_reducible apply s_iRng2
  | with_reducible apply s_iEnum
  | with_reducible apply s_iter
  | with_reducible apply s_turn
  | with_reducible apply s_tyes
  | ((with_reducible refine' s_wipe ?yw ?yk); (case yw => exact rfl))
  | with_reducible apply s_gsub
  | with_reducible apply s_gcons
  | with_reducible apply s_gnil
  | with_reducible apply s_sfld
  | with_reducible apply s_meth
  | with_reducible apply s_make
  | with_reducible apply s_disp
  | with_reducible apply s_pnil
  | with_reducible apply s_pcons
  | ((with_reducible refine' s_gtup ?yh ?yl ?yk); (case yh => walk_at "hp"); (case yl => exact rfl))
  | ((with_reducible refine' s_setL ?yh ?yj ?yk); (case yh => walk_at "hp"); (case yj => first | assumption | exact rfl))
  | ((with_reducible refine' s_setDS ?yh ?yl ?yk); (case yh => walk_at "hp"); (case yl => walk_at "len"))
  | ((with_reducible refine' s_setf ?yh ?yc ?yn ?yl ?yk); (case yh => walk_at "hp"); (case yc => walk_at "cf"); (case yn => walk_at "cf"); (case yl => walk_at "flen"))
  | ((with_reducible refine' s_recv ?yh ?yl ?yk); (case yh => walk_at "hp"); (case yl => exact rfl))
  | ((with_reducible refine' s_ixDS ?yh ?ya ?yk); (case yh => walk_at "hp"); (case ya => first | assumption | exact rfl))
  | ((with_reducible refine' s_tyL ?yh ?yk); (case yh => walk_at "hp"))
  | ((with_reducible refine' s_append ?yh ?yl ?yk); (case yh => walk_at "hp"); (case yl => walk_at "len"))
  | ((with_reducible refine' s_lenL ?yh ?yk); (case yh => walk_at "hp"))
  | ((with_reducible refine' s_lenLs ?yh ?yk); (case yh => assumption))
  | ((with_reducible refine' s_lenT ?yh ?yk); (case yh => walk_at "hp"))
  | ((with_reducible refine' s_lenTs ?yh ?yk); (case yh => assumption))
  | ((with_reducible refine' s_lenE ?yh ?yk); (case yh => assumption))
  | ((with_reducible refine' s_ixE ?yh ?ya ?yk); (case yh => assumption); (case ya => first | assumption | exact rfl))
  | ((with_reducible refine' s_ixTs ?yh ?ya ?yk); (case yh => assumption); (case ya => first | assumption | exact rfl))
  | ((with_reducible refine' s_isi ?yt ?yb ?yk); (case yt => walk_at "ty"); (case yb => walk_at "kit"))
  | ((with_reducible refine' s_listof ?yh ?yk); (case yh => walk_at "hp"))
  | ((with_reducible refine' s_ixL ?yh ?ya ?yk); (case yh => walk_at "hp"); (case ya => first | assumption | exact rfl))
  | ((with_reducible refine' s_ixT ?yh ?ya ?yk); (case yh => walk_at "hp"); (case ya => first | assumption | exact rfl))
  | ((with_reducible refine' s_ixLs ?yh ?ya ?yk); (case yh => assumption); (case ya => first | assumption | exact rfl))
  | ((with_reducible refine' s_itrL ?yh ?yk); (case yh => walk_at "hp"))
  | ((with_reducible refine' s_itrLs ?yh ?yk); (case yh => assumption))
  | ((with_reducible refine' s_itrT ?yh ?yk); (case yh => walk_at "hp"))
  | ((with_reducible refine' s_enumL ?yh ?yk); (case yh => walk_at "hp"))
  | ((with_reducible refine' s_fldv ?yv ?yh ?yc ?yn ?yl ?yk); (case yv => exact rfl); (case yh => walk_at "hp"); (case yc => walk_at "cf"); (case yn => walk_at "cf"); (case yl => exact rfl)))
local macro_rules | `(tactic| walk_at "yl") => `(tactic| first
  | with_reducible apply s_for
  | with_reducible apply s_lc)
local macro_rules | `(tactic| walk_at "ys") => `(tactic| repeat walk_at "y1")
local macro_rules | `(tactic| walk_at "y") => `(tactic| repeat (first | walk_at "y1" | walk_at "yl"))

local macro_rules | `(tactic| walk_at "cf") => `(tactic| first | exact ClsFacts.cl (by assumption) | exact ClsFacts.nc (by assumption) | exact ClsFacts.ni (by assumption) | exact ClsFacts.no (by assumption))
section
variable {K : PySem.W.Frag} {C : Addr} {vs : List V} {H H' : Hp} {Q : VK} {E : XK} {n : Nat} {A : LA} {B : BA} {L : List Rw} {m : Nat}
theorem LinAt.same (s : Same H H') (h : LinAt C H A L m) : LinAt C H' A L m := h.fr (F := []) (Fr.of_same s) (fun _ h => by cases h) (by simp) (by simp)
theorem BkAt.same (s : Same H H') (h : BkAt H B L m) : BkAt H' B L m := h.fr (F := []) (Fr.of_same s) (fun _ h => by cases h) (by simp) (by simp)
theorem PAt.same (s : Same H H') (h : PAt C H A B L m) : PAt C H' A B L m := ⟨h.lin.same s, h.bk.same s, h.nd, h.ok⟩
theorem Ten.same (s : Same H H') {a : Addr} (h : Ten H a) : Ten H' a := by
  obtain ⟨ns, h1, h2⟩ := h
  exact ⟨ns, s _ _ h1, h2⟩
theorem Rw.okd {r : Rw} (h : okd 3 r.nm = true) : okd 7 r.d = true := by
  have h6 := okd_mono h (show 3 ≤ 6 by decide)
  have e1 : Y.okd 6 (oD r.mr) = true := by cases r.mr <;> rfl
  have e2 : Y.okd 6 (oD r.tk) = true := by cases r.tk <;> rfl
  simp only [Rw.d, Y.okd, Bool.and_eq_true, decide_eq_true_eq, List.all_eq_true]
  refine ⟨by (show 4 ≤ 100000; decide), fun x hx => ?_⟩
  simp only [List.mem_cons, List.not_mem_nil, or_false] at hx
  rcases hx with rfl | rfl | rfl | rfl
  · exact h6
  · rfl
  · exact e1
  · exact e2
theorem PAt.sep (h : PAt C H A B L m) : B.b ∉ A.own ∧ B.r ∉ A.own ∧ B.b ≠ B.r := by
  have nd := h.nd
  rw [own2, List.nodup_append] at nd
  refine ⟨fun hb => nd.2.2 _ hb _ (by simp) rfl, fun hb => nd.2.2 _ hb _ (by simp) rfl, ?_⟩
  have := nd.2.1
  simp at this
  exact this
theorem p_add (T : ClsFacts K C) (h : sp_add K C vs H Q E) : rd_add K C { nx := fun _ H' => Q .non H', rt := Q } (start ["lineage", "book", "n", "maker", "row", "told", "index"] vs) H := by
  obtain ⟨A, B, L, m, a, mk, rfl, hP, hT, hmk, hL, k⟩ := h
  unfold rd_add
  walk_at "y"
  refine ⟨a, rfl, hT, fun nv nm H1 s1 hn hok => ?_⟩
  walk_at "y"
  refine ⟨a, rfl, hT.same s1, fun am H2 s2 => ?_⟩
  walk_at "y"
  refine ⟨by (show 4 ≤ 16777216; decide), fun p hp => ?_⟩
  have hp0 : H p = none := (s1.trans s2).free hp
  have s23 : Same H2 (upd H2 p (.tup [nv, .int am, oV mk, .non])) := Same.new hp
  have hself : (upd H2 p (.tup [nv, .int am, oV mk, .non])) p = some (.tup [nv, .int am, oV mk, .non]) := upd_same
  generalize upd H2 p (HO.tup [nv, V.int am, oV mk, V.non]) = H3 at *
  have s3 : Same H H3 := (s1.trans s2).trans s23
  have P3 := hP.same s3
  have hn3 := hn.keep (Same.kt (s2.trans s23))
  have h0 := P3.lin.ob
  obtain ⟨b1, b2, b3⟩ := hP.sep
  walk_at "y"
  refine ⟨A, L, m, nv, nm, am, mk, rfl, P3.lin, hn3, hmk, by omega, fun H4 l4 f4 => ?_⟩
  have k4 := f4.kt P3.lin.nt
  have B4 := P3.bk.fr f4 P3.lin.nt b1 b2
  have hself4 := k4 _ _ hself
  have hn4 := hn3.keep k4
  have g0 := B4.ob
  obtain ⟨ws, g1, g2⟩ := B4.rs
  have hw := Pd.len g2
  walk_at "y"
  have f5 : Fr (own2 A B) H (upd H4 B.r (.lst (ws ++ [.ref p]))) := by
    refine Fr.upd ((Fr.of_same s3).trans' (f4.mono fun x hx => ?_)) (.inl ?_)
    · simp [own2, hx]
    · simp [own2]
  have kt5 : KT H4 (upd H4 B.r (.lst (ws ++ [.ref p]))) := KT.upd KT.refl (not_tup_of_lst g1)
  have l5 : LinAt C (upd H4 B.r (.lst (ws ++ [.ref p]))) A (L ++ [⟨nm, am, mk, none⟩]) m := by
    refine l4.keep kt5 (upd_ne ?_) (fun x hx => upd_ne fun e => b2 (e ▸ hx))
    exact ne_of l4.ob g1 (by intro z; cases z)
  have B5 : BkAt (upd H4 B.r (.lst (ws ++ [.ref p]))) B (L ++ [⟨nm, am, mk, none⟩]) m :=
    ⟨by rw [upd_ne b3]; exact g0, _, upd_same, Paired.snoc (Pd.mono g2 fun _ _ => RowAt.keep kt5) ⟨p, nv, rfl, kt5 _ _ hself4, hn4.keep kt5⟩⟩
  have P5 : PAt C (upd H4 B.r (.lst (ws ++ [.ref p]))) A B (L ++ [⟨nm, am, mk, none⟩]) m := ⟨l5, B5, hP.nd, fun r hr => by
    rcases List.mem_append.mp hr with hr | hr
    · exact hP.ok r hr
    · simp at hr; subst hr; exact hok⟩
  have R5 : RowAt (upd H4 B.r (.lst (ws ++ [.ref p]))) (.ref p) ⟨nm, am, mk, none⟩ := ⟨p, nv, rfl, kt5 _ _ hself4, hn4.keep kt5⟩
  generalize upd H4 B.r (HO.lst (ws ++ [V.ref p])) = H5 at *
  have ei : (((ws ++ [V.ref p]).length : Nat) : Int) - 1 = (L.length : Int) := by simp [hw]
  rw [ei]
  refine sameI (d := .int L.length) (.int _) (.int _) (rfl) fun H6 s6 => ?_
  have P6 := P5.same s6
  have h6 := P6.lin.ob
  walk_at "y"
  refine ⟨A, _, m, L.length, ⟨nm, am, mk, none⟩, rfl, P6.lin, by simp, fun v hv => ?_⟩
  walk_at "y"
  refine sameI (d := Rw.d ⟨nm, am, mk, none⟩) (hv.im.dp) ((R5.keep (Same.kt s6)).im.dp) (Rw.okd hok) fun H7 s7 => ?_
  exact k _ H7 (P6.same s7) (by simp) (f5.trans' (Fr.of_same (s6.trans s7)))
theorem p_lenter (T : ClsFacts K C) (h : sp_lenter K C vs H Q E) : rd_lenter K C { nx := fun _ H' => Q .non H', rt := Q } (start ["lineage", "book", "n", "there", "index", "station", "row"] vs) H := by
  obtain ⟨A, B, L, m, a, rfl, hP, hT, hm0, hm, hL, hop, k⟩ := h
  unfold rd_lenter
  walk_at "y"
  refine ⟨B, L, m, rfl, hP.bk, by omega, fun p H1 hp s1 h1 => ?_⟩
  obtain ⟨ns, hn, hnl, hns⟩ := hT.same s1
  have P1 := hP.same s1
  obtain ⟨n0, n1, n2, n3, n4, n5, n6, n7, n8, n9, rfl⟩ := ten_lit hnl
  simp only [List.map] at hn
  have hpos : 0 < (ixs L isOpen).length := List.length_pos_iff.mpr hop
  walk_at "y"
  have hz : (0 : Int) < (((ixs L isOpen).map V.int).length : Nat) := by rw [List.length_map]; omega
  refine s_mod hz ?_
  obtain ⟨v, hv, hvm⟩ := atI_mem (xs := (ixs L isOpen).map V.int) (Int.emod_nonneg n2 (by omega)) (Int.emod_lt_of_pos n2 hz)
  obtain ⟨x, hx, rfl⟩ := List.mem_map.mp hvm
  obtain ⟨j, r, hj, hr, rfl⟩ := ixs_mem.mp hx
  have htk : r.tk = none := by simpa [isOpen] using hr
  have hb := P1.bk.ob
  obtain ⟨ws, g1, g2⟩ := P1.bk.rs
  have h0 := P1.lin.ob
  have hm' : (0 : Int) < (m : Int) := by omega
  walk_at "y"
  obtain ⟨t, ht⟩ := Int.eq_ofNat_of_zero_le (Int.emod_nonneg n3 (show (m : Int) ≠ 0 by omega))
  have htm : t < m := by have := Int.emod_lt_of_pos n3 hm'; omega
  rw [ht]
  refine ⟨A, L, m, j, t, r, rfl, P1.lin, hj, htk, htm, by omega, fun H2 l2 f2 => ?_⟩
  obtain ⟨b1, b2, b3⟩ := hP.sep
  have nt1 := P1.lin.nt
  have B2 := P1.bk.fr f2 nt1 b1 b2
  have hb2 := B2.ob
  obtain ⟨ws2, g3, g4⟩ := B2.rs
  have hw2 := Pd.len g4
  obtain ⟨v, hv2, a2, nv, rfl, ha2, hn2⟩ := Pd.get g4 hj
  have hv2' := atI_nat hv2
  have hjl : j < L.length := (List.getElem?_eq_some_iff.mp hj).1
  walk_at "y"
  refine ⟨by (show 4 ≤ 16777216; decide), fun q hq => ?_⟩
  have q1 : B.r ≠ q := ne_of_none g3 hq
  have q2 : B.b ≠ q := ne_of_none hb2 hq
  have hix : ixN ws2.length (j : Int) = some j := Evl.ixN_nat (by omega)
  walk_at "y"
  have hr' : L[j]? = some r := hj
  have s2q : Same H2 (upd H2 q (.tup [nv, .int r.am, oV r.mr, .int t])) := Same.new hq
  have kt3 : KT H2 (upd (upd H2 q (.tup [nv, .int r.am, oV r.mr, .int t])) B.r (.lst (ws2.set j (.ref q)))) := KT.upd (Same.kt s2q) (not_tup_of_lst g3)
  have f3 : Fr (own2 A B) H (upd (upd H2 q (.tup [nv, .int r.am, oV r.mr, .int t])) B.r (.lst (ws2.set j (.ref q)))) := by
    refine Fr.upd (((Fr.of_same s1).trans' (f2.mono fun x hx => ?_)).trans' (Fr.of_same s2q)) (.inl ?_)
    · simp [own2, hx]
    · simp [own2]
  have hold : ∀ x xs, H2 x = some (HO.lst xs) → x ≠ q := fun x xs hx => ne_of_none hx hq
  have l3 : LinAt C (upd (upd H2 q (.tup [nv, .int r.am, oV r.mr, .int t])) B.r (.lst (ws2.set j (.ref q)))) A (L.set j { r with tk := some t }) m := by
    refine l2.keep kt3 ?_ (fun x hx => ?_)
    · rw [upd_ne (ne_of l2.ob g3 (by intro z; cases z)), upd_ne (ne_of_none l2.ob hq)]
    · obtain ⟨xs, hxs⟩ := l2.lst x hx
      rw [upd_ne (show x ≠ B.r from fun e => b2 (e ▸ hx)), upd_ne (hold x xs hxs)]
  have R3 : RowAt (upd (upd H2 q (.tup [nv, .int r.am, oV r.mr, .int t])) B.r (.lst (ws2.set j (.ref q)))) (.ref q) { r with tk := some t } :=
    ⟨q, nv, rfl, by walk_at "hp", hn2.keep kt3⟩
  have B3 : BkAt (upd (upd H2 q (.tup [nv, .int r.am, oV r.mr, .int t])) B.r (.lst (ws2.set j (.ref q)))) B (L.set j { r with tk := some t }) m :=
    ⟨by walk_at "hp", _, upd_same, Pd.set R3 j (Pd.mono g4 fun _ _ => RowAt.keep kt3)⟩
  have hokr := hP.ok r (List.mem_of_getElem? hj)
  have P3 : PAt C (upd (upd H2 q (.tup [nv, .int r.am, oV r.mr, .int t])) B.r (.lst (ws2.set j (.ref q)))) A B (L.set j { r with tk := some t }) m := ⟨l3, B3, hP.nd, fun r' hr' => by
    rcases List.mem_or_eq_of_mem_set hr' with hr' | rfl
    · exact hP.ok r' hr'
    · exact hokr⟩
  have hb3 := P3.bk.ob
  have hr3 : (upd (upd H2 q (.tup [nv, .int r.am, oV r.mr, .int t])) B.r (.lst (ws2.set j (.ref q)))) B.r = some (.lst (ws2.set j (.ref q))) := upd_same
  have hx3 := P3.lin.ob
  generalize upd (upd H2 q (HO.tup [nv, V.int r.am, oV r.mr, V.int ↑t])) B.r (HO.lst (ws2.set j (V.ref q))) = H3 at *
  have hsq : atI (ws2.set j (V.ref q)) (j : Int) = some (V.ref q) := atI_nat (by simp [hw2, hjl])
  walk_at "y"
  refine ⟨A, _, m, j, { r with tk := some t }, rfl, P3.lin, by simp [hjl], fun v hv => ?_⟩
  walk_at "y"
  refine sameI (d := Rw.d { r with tk := some t }) (hv.im.dp) (R3.im.dp) (Rw.okd hokr) fun H7 s7 => ?_
  exact k _ H7 (P3.same s7) (by simp) (f3.trans' (Fr.of_same s7))
end
end Z

namespace Z
open PySem PySem.Spec PyProof.Rows L2 Y
local macro_rules | `(tactic| walk_at "ne") => `(tactic| first
  | assumption
  | (apply Ne.symm; assumption)
  | (refine ne_of_none ?_ (by assumption); first | assumption | exact upd_same)
  | (apply Ne.symm; refine ne_of_none ?_ (by assumption); first | assumption | exact upd_same))
local macro_rules | `(tactic| walk_at "hp") => `(tactic| first
  | assumption
  | exact upd_same
  | (refine Eq.trans (upd_ne ?nn) ?_; (case nn => walk_at "ne"); walk_at "hp"))
local macro_rules | `(tactic| walk_at "cmul") => `(tactic| first
  | exact Or.inr ⟨by decide, by decide⟩
  | exact Or.inl ⟨by decide, by decide⟩
  | exact Or.inr ⟨by omega, by omega⟩
  | exact Or.inl ⟨by omega, by omega⟩)
local macro_rules | `(tactic| walk_at "len") => `(tactic| first
  | exact of_decide_eq_true rfl
  | (show _ < 16777216; assumption)
  | (show _ ≤ 16777216; assumption)
  | (show _ ≤ 16777216; simp; done)
  | (show _ < 16777216; simp; omega)
  | (show _ ≤ 16777216; simp; omega))
local macro_rules | `(tactic| walk_at "cf") => `(tactic| assumption)
local macro_rules | `(tactic| walk_at "flen") => `(tactic| first | exact of_decide_eq_true rfl | decide | (show _ < 1000; decide) | (simp; done))
local macro_rules | `(tactic| walk_at "ty") => `(tactic| first
  | exact .base .non
  | exact .base (.bl _)
  | exact .base (.int _)
  | exact .base (.str _)
  | assumption
  | (refine .base (.lst ?_); walk_at "hp")
  | (refine .base (.tup ?_); walk_at "hp")
  | (refine .base (.dK ?_); walk_at "hp"))
local macro_rules | `(tactic| walk_at "kit") => `(tactic| first
  | exact kit_NoneType_bool
  | exact kit_NoneType_int
  | exact kit_NoneType_str
  | exact kit_NoneType_list
  | exact kit_NoneType_tuple
  | exact kit_NoneType_dict
  | exact kit_bool_bool
  | exact kit_bool_int
  | exact kit_bool_str
  | exact kit_bool_list
  | exact kit_bool_tuple
  | exact kit_bool_dict
  | exact kit_int_bool
  | exact kit_int_int
  | exact kit_int_str
  | exact kit_int_list
  | exact kit_int_tuple
  | exact kit_int_dict
  | exact kit_str_bool
  | exact kit_str_int
  | exact kit_str_str
  | exact kit_str_list
  | exact kit_str_tuple
  | exact kit_str_dict
  | exact kit_list_bool
  | exact kit_list_int
  | exact kit_list_str
  | exact kit_list_list
  | exact kit_list_tuple
  | exact kit_list_dict
  | exact kit_tuple_bool
  | exact kit_tuple_int
  | exact kit_tuple_str
  | exact kit_tuple_list
  | exact kit_tuple_tuple
  | exact kit_tuple_dict
  | exact kit_dict_bool
  | exact kit_dict_int
  | exact kit_dict_str
  | exact kit_dict_list
  | exact kit_dict_tuple
  | exact kit_dict_dict)
local macro_rules | `(tactic| walk_at "y1") => `(tactic| first
  | with_reducible apply s_seq
  | with_reducible apply s_asg
  | ((with_reducible apply s_var); (first | exact rfl | assumption))
  | with_reducible apply s_c
  | with_reducible apply s_op
  | with_reducible apply s_gname
  | with_reducible apply s_cons
  | with_reducible apply s_nil
  | with_reducible apply s_cb
  | with_reducible apply s_if
  | with_reducible apply s_test
  | with_reducible apply s_bl
  | with_reducible apply s_trubl
  | with_reducible apply s_tru
  | with_reducible apply s_and
  | with_reducible apply s_or
  | with_reducible apply s_not
  | with_reducible apply s_andV
  | with_reducible apply s_orV
  | with_reducible apply s_notV
  | with_reducible apply s_ifE
  | with_reducible apply s_true
  | with_reducible apply s_false
  | with_reducible apply s_nfalse
  | with_reducible apply s_ntrue
  | with_reducible apply s_drop
  | with_reducible apply s_ret
  | with_reducible apply s_retN
  | with_reducible apply s_next
  | with_reducible apply s_add
  | with_reducible apply s_sub
  | ((with_reducible apply s_mul); (walk_at "cmul"))
  | ((with_reducible apply s_fdiv); (exact ⟨by decide, by decide⟩))
  | ((with_reducible apply s_mod); (first | decide | omega))
  | ((with_reducible apply s_pow); (exact ⟨by decide, by decide, by decide⟩))
  | with_reducible apply s_neg
  | with_reducible apply s_lt
  | with_reducible apply s_le
  | with_reducible apply s_gt
  | with_reducible apply s_ge
  | with_reducible apply s_isN_non
  | with_reducible apply s_isN_int
  | with_reducible apply s_isN_str
  | with_reducible apply s_isN_ref
  | with_reducible apply s_notN_non
  | with_reducible apply s_notN_int
  | with_reducible apply s_notN_str
  | with_reducible apply s_notN_ref
  | with_reducible apply s_abs
  | with_reducible apply s_max2
  | with_reducible apply s_min2
  | with_reducible apply s_int1
  | with_reducible apply s_eqI
  | with_reducible apply s_eqNI
  | with_reducible apply s_neI
  | with_reducible apply s_eqS
  | with_reducible apply s_call
  | with_reducible apply s_mklst
  | with_reducible apply s_mktup
  | with_reducible apply s_bmL
  | with_reducible apply s_iRng1
  | with_reducible apply s_iRng2
  | with_reducible apply s_iEnum
  | with_reducible apply s_iter
  | with_reducible apply s_turn
  | with_reducible apply s_tyes
  | ((with_reducible refine' s_wipe ?yw ?yk); (case yw => exact rfl))
  | with_reducible apply s_gsub
  | with_reducible apply s_gcons
  | with_reducible apply s_gnil
  | with_reducible apply s_sfld
  | with_reducible apply s_meth
  | with_reducible apply s_make
  | with_reducible apply s_disp
  | with_reducible apply s_pnil
  | with_reducible apply s_pcons
  | ((with_reducible refine' s_gtup ?yh ?yl ?yk); (case yh => walk_at "hp"); (case yl => exact rfl))
  | ((with_reducible refine' s_setL ?yh ?yj ?yk); (case yh => walk_at "hp"); (case yj => first | assumption | exact rfl))
  | ((with_reducible refine' s_setDS ?yh ?yl ?yk); (case yh => walk_at "hp"); (case yl => walk_at "len"))
  | ((with_reducible refine' s_setf ?yh ?yc ?yn ?yl ?yk); (case yh => walk_at "hp"); (case yc => walk_at "cf"); (case yn => walk_at "cf"); (case yl => walk_at "flen"))
  | ((with_reducible refine' s_recv ?yh ?yl ?yk); (case yh => walk_at "hp"); (case yl => exact rfl))
  | ((with_reducible refine' s_ixDS ?yh ?ya ?yk); (case yh => walk_at "hp"); (case ya => first | assumption | exact rfl))
  | ((with_reducible refine' s_tyL ?yh ?yk); (case yh => walk_at "hp"))
  | ((with_reducible refine' s_append ?yh ?yl ?yk); (case yh => walk_at "hp"); (case yl => walk_at "len"))
  | ((with_reducible refine' s_lenL ?yh ?yk); (case yh => walk_at "hp"))
  | ((with_reducible refine' s_lenLs ?yh ?yk); (case yh => assumption))
  | ((with_reducible refine' s_lenT ?yh ?yk); (case yh => walk_at "hp"))
  | ((with_reducible refine' s_lenTs ?yh ?yk); (case yh => assumption))
  | ((with_reducible refine' s_lenE ?yh ?yk); (case yh => assumption))
  | ((with_reducible refine' s_ixE ?yh ?ya ?yk); (case yh => assumption); (case ya => first | assumption | exact rfl))
  | ((with_reducible refine' s_ixTs ?yh ?ya ?yk); (case yh => assumption); (case ya => first | assumption | exact rfl))
  | ((with_reducible refine' s_isi ?yt ?yb ?yk); (case yt => walk_at "ty"); (case yb => walk_at "kit"))
  | ((with_reducible refine' s_listof ?yh ?yk); (case yh => walk_at "hp"))
  | ((with_reducible refine' s_ixL ?yh ?ya ?yk); (case yh => walk_at "hp"); (case ya => first | assumption | exact rfl))
  | ((with_reducible refine' s_ixT ?yh ?ya ?yk); (case yh => walk_at "hp"); (case ya => first | assumption | exact rfl))
  | ((with_reducible refine' s_ixLs ?yh ?ya ?yk); (case yh => assumption); (case ya => first | assumption | exact rfl))
  | ((with_reducible refine' s_itrL ?yh ?yk); (case yh => walk_at "hp"))
  | ((with_reducible refine' s_itrLs ?yh ?yk); (case yh => assumption))
  | ((with_reducible refine' s_itrT ?yh ?yk); (case yh => walk_at "hp"))
  | ((with_reducible refine' s_enumL ?yh ?yk); (case yh => walk_at "hp"))
  | ((with_reducible refine' s_fldv ?yv ?yh ?yc ?yn ?yl ?yk); (case yv => exact rfl); (case yh => walk_at "hp"); (case yc => walk_at "cf"); (case yn => walk_at "cf"); (case yl => exact rfl)))
local macro_rules | `(tactic| walk_at "yl") => `(tactic| first
  | with_reducible apply s_for
  | with_reducible apply s_lc)
local macro_rules | `(tactic| walk_at "ys") => `(tactic| repeat walk_at "y1")
local macro_rules | `(tactic| walk_at "y") => `(tactic| repeat (first | walk_at "y1" | walk_at "yl"))

local macro_rules | `(tactic| walk_at "cf") => `(tactic| first | exact ClsFacts.cl (by assumption) | exact ClsFacts.nc (by assumption) | exact ClsFacts.ni (by assumption) | exact ClsFacts.no (by assumption))
section
variable {K : PySem.W.Frag} {C : Addr} {vs : List V} {H H' : Hp} {Q : VK} {E : XK} {n : Nat} {A : LA} {B : BA} {L : List Rw} {m : Nat}
theorem p_call_station {D : Ends} {n : V} {dd : Int} (hP : PAt C H A B L m) (hm : m ≤ 900) (k : ∀ (A' : LA) (L' : List Rw) (m' : Nat) (H' : Hp), PAt C H' A' B L' m' → A'.x = A.x → L'.length ≤ L.length + 1 → m' ≤ m + 1 → Fr (own2 A B) H H' → (∀ a ∈ own2 A' B, a ∈ own2 A B ∨ H a = none) → D.rt (.bl true) H') :
    (tSeq (tAsg (tMeth C "station" (sp_station C) [] E0 (tVar 0) tNil) (gName 4))
    (tSeq (tAsg (tOp r_add (tOp (rdIx K) (tVar 1) (tC (.str "many"))) (tC (.int 1))) (gSub (tVar 1) (tC (.str "many")) rdSet))
    (tRet (tCall (sp_same K 8) [] E0 (tCons (tVar 4) (tCons (tOp r_sub (tOp (rdIx K) (tVar 1) (tC (.str "many"))) (tC (.int 1))) tNil)))))) D [some (.ref A.x), some (.ref B.b), some n, some (.int dd), none] H := by
  have h0 := hP.lin.ob
  obtain ⟨b1, b2, b3⟩ := hP.sep
  walk_at "y"
  refine ⟨A, L, m, rfl, hP.lin, by omega, fun A' H1 l1 ex f1 hown => ?_⟩
  have nt := hP.lin.nt
  have B1 := hP.bk.fr f1 nt b1 b2
  have g0 := B1.ob
  obtain ⟨ws, g1, g2⟩ := B1.rs
  walk_at "y"
  have e1 : putK [(kRows, V.ref B.r), (kMany, V.int (m : Int))] (.inr "many" : Key) (V.int ((m : Int) + 1)) = [(kRows, V.ref B.r), (kMany, V.int ((m + 1 : Nat) : Int))] := by rfl
  show r_sub (V.int ((m : Int) + 1)) (V.int 1) _ _
  rw [e1]
  have bn : ∀ a ∈ A'.own, a ≠ B.b ∧ a ≠ B.r := fun a ha => by
    rcases hown a ha with h | h
    · exact ⟨fun e => b1 (e ▸ h), fun e => b2 (e ▸ h)⟩
    · obtain ⟨ws', g', _⟩ := hP.bk.rs
      exact ⟨(ne_of_none hP.bk.ob h).symm, (ne_of_none g' h).symm⟩
  have kt2 : KT H1 (upd H1 B.b (.dK [(kRows, .ref B.r), (kMany, .int ((m + 1 : Nat) : Int))])) := KT.upd KT.refl (not_tup_of_dK g0)
  have P2 : PAt C (upd H1 B.b (.dK [(kRows, .ref B.r), (kMany, .int ((m + 1 : Nat) : Int))])) A' B L (m + 1) := by
    refine ⟨l1.keep kt2 (upd_ne ?_) (fun a ha => upd_ne (bn a ha).1), ⟨upd_same, ws, by rw [upd_ne b3.symm]; exact g1, Pd.mono g2 fun _ _ => RowAt.keep kt2⟩, ?_, hP.ok⟩
    · exact ne_of l1.ob g0 (by intro z; cases z)
    · rw [own2, List.nodup_append]
      refine ⟨l1.nd, by simp [b3], fun a ha b hb => ?_⟩
      simp at hb
      rcases hb with rfl | rfl
      · exact (bn a ha).1
      · exact (bn a ha).2
  have f2 : Fr (own2 A B) H (upd H1 B.b (.dK [(kRows, .ref B.r), (kMany, .int ((m + 1 : Nat) : Int))])) := Fr.upd (f1.mono fun x hx => by simp [own2, hx]) (.inl (by simp [own2]))
  generalize upd H1 B.b (HO.dK [(kRows, V.ref B.r), (kMany, V.int ((m + 1 : Nat) : Int))]) = H2 at *
  have e3 : ((m : Int) + 1) - 1 = (m : Int) := by omega
  walk_at "y"
  rw [e3]
  refine sameI (d := .int m) (.int _) (.int _) (rfl) fun H3 s3 => ?_
  refine k A' L (m + 1) H3 (P2.same s3) ex (by omega) (Nat.le_refl _) (f2.trans' (Fr.of_same s3)) fun a ha => ?_
  rw [own2, List.mem_append] at ha ⊢
  rcases ha with ha | ha
  · rcases hown a ha with h | h
    · exact .inl (.inl h)
    · exact .inr h
  · exact .inl (.inr ha)
theorem p_call_rest {D : Ends} {a : Addr} {dd : Int} (hP : PAt C H A B L m) (hT : Ten H a) (hm : m ≤ 900) (hL : L.length ≤ 900) (hd : 0 < m ∨ dd = 1) (k : ∀ (A' : LA) (L' : List Rw) (m' : Nat) (H' : Hp), PAt C H' A' B L' m' → A'.x = A.x → L'.length ≤ L.length + 1 → m' ≤ m + 1 → Fr (own2 A B) H H' → (∀ a ∈ own2 A' B, a ∈ own2 A B ∨ H a = none) → D.rt (.bl true) H') :
    (tSeq (tIfS (tAnd (tTest (tOp r_gt (tVar 3) (tC (.int 2)))) (tTest (tOp (rdNe K) (tCall (sp_open K) [] E0 (tCons (tVar 1) tNil)) (tLst tNil)))) (tRet (tCall (sp_lenter K C) [] E0 (tCons (tVar 0) (tCons (tVar 1) (tCons (tVar 2) tNil))))) tNext)
    (tSeq (tIfS (tTest (tOp (rdEq K) (tVar 3) (tC (.int 1)))) (tRet (tCall (sp_add K C) [] E0 (tCons (tVar 0) (tCons (tVar 1) (tCons (tVar 2) (tCons (tC .non) tNil)))))) tNext)
    (tRet (tCall (sp_add K C) [] E0 (tCons (tVar 0) (tCons (tVar 1) (tCons (tVar 2) (tCons (tOp r_mod (tOp (rdIx K) (tVar 2) (tC (.int 3))) (tOp (rdIx K) (tVar 1) (tC (.str "many")))) tNil)))))))) D [some (.ref A.x), some (.ref B.b), some (.ref a), some (.int dd), none] H := by
  have none_ok : (∀ s, (none : Option Nat) = some s → s < m) := fun s e => by cases e
  have hadd : ∀ H1, Same H H1 → ∀ mk : Option Nat, (∀ s, mk = some s → s < m) → sp_add K C [.ref A.x, .ref B.b, .ref a, oV mk] H1 D.rt E0 := fun H1 s1 mk hmk =>
    ⟨A, B, L, m, a, mk, rfl, hP.same s1, hT.same s1, hmk, hL, fun L' H' P' e f => k A L' m H' P' rfl (by omega) (by omega) ((Fr.of_same s1).trans' f) (fun x hx => .inl hx)⟩
  -- behind the first test
  have rest : ∀ H1, Same H H1 → ((tSeq (tIfS (tTest (tOp (rdEq K) (tVar 3) (tC (.int 1)))) (tRet (tCall (sp_add K C) [] E0 (tCons (tVar 0) (tCons (tVar 1) (tCons (tVar 2) (tCons (tC .non) tNil)))))) tNext)
    (tRet (tCall (sp_add K C) [] E0 (tCons (tVar 0) (tCons (tVar 1) (tCons (tVar 2) (tCons (tOp r_mod (tOp (rdIx K) (tVar 2) (tC (.int 3))) (tOp (rdIx K) (tVar 1) (tC (.str "many")))) tNil))))))) D [some (.ref A.x), some (.ref B.b), some (.ref a), some (.int dd), none] H1) := fun H1 s1 => by
    have P1 := hP.same s1
    have g0 := P1.bk.ob
    obtain ⟨ns, hn, hnl, hns⟩ := hT.same s1
    obtain ⟨n0, n1, n2, n3, n4, n5, n6, n7, n8, n9, rfl⟩ := ten_lit hnl
    simp only [List.map] at hn
    walk_at "y"
    refine s_dec (fun h1 => ?_) (fun h1 => ?_)
    · walk_at "y"
      exact hadd H1 s1 none none_ok
    · have hm0 : 0 < m := hd.resolve_right h1
      have hm' : (0 : Int) < (m : Int) := by omega
      walk_at "y"
      obtain ⟨t, ht⟩ := Int.eq_ofNat_of_zero_le (Int.emod_nonneg n3 (show (m : Int) ≠ 0 by omega))
      rw [ht]
      exact hadd H1 s1 (some t) fun s e => by
        obtain rfl : t = s := Option.some.inj e
        have := Int.emod_lt_of_pos n3 hm'
        omega
  walk_at "y"
  refine s_dec (fun h1 => ?_) (fun h1 => ?_)
  · walk_at "y"
    refine ⟨B, L, m, rfl, hP.bk, by omega, fun p H1 hp s1 h1 => ?_⟩
    walk_at "y"
    refine ⟨Nat.zero_le _, fun q hq => ?_⟩
    have npq : p ≠ q := ne_of_none h1 hq
    refine s_neD (d := .list ((ixs L isOpen).map .int)) (e := .list []) (ints_dp (by rw [upd_ne npq]; exact h1)) (.lst (SqL.of upd_same) .nil) (ints_shaped _) (by decide +kernel) ?_
    rw [ints_eqv_nil]
    have s2 : Same H (upd H1 q (.lst [])) := s1.trans (Same.new hq)
    walk_at "y"
    refine s_ndec (fun hne => ?_) (fun he => ?_)
    · walk_at "y"
      have hm0 : 0 < m := hd.resolve_right (by omega)
      exact ⟨A, B, L, m, a, rfl, hP.same s2, hT.same s2, hm0, by omega, hL, hne, fun L' H' P' e f => k A L' m H' P' rfl (by omega) (by omega) ((Fr.of_same s2).trans' f) (fun x hx => .inl hx)⟩
    · walk_at "y1"
      exact rest _ s2
  · walk_at "y1"
    walk_at "y1"
    exact rest H (Same.refl H)
theorem p_call (T : ClsFacts K C) (h : sp_call K C vs H Q E) : rd_call K C { nx := fun _ H' => Q .non H', rt := Q } (start ["lineage", "book", "n", "deed", "told"] vs) H := by
  obtain ⟨A, B, L, m, a, rfl, hP, hT, hm, hL, k⟩ := h
  obtain ⟨ns, hn, hnl, hns⟩ := id hT
  obtain ⟨n0, n1, n2, n3, n4, n5, n6, n7, n8, n9, rfl⟩ := ten_lit hnl
  simp only [List.map] at hn
  have g0 := hP.bk.ob
  unfold rd_call
  walk_at "y"
  have hst := fun D hD => p_call_station (K := K) (D := D) (n := V.ref a) (dd := n1 % 5) hP hm (fun A' L' m' H' p1 p2 p3 p4 p5 p6 => by rw [show D.rt = Q from hD]; exact k A' L' m' H' p1 p2 p3 p4 p5 p6)
  have hre := fun D hD hd => p_call_rest (K := K) (D := D) (dd := n1 % 5) hP hT hm hL hd (fun A' L' m' H' p1 p2 p3 p4 p5 p6 => by rw [show D.rt = Q from hD]; exact k A' L' m' H' p1 p2 p3 p4 p5 p6)
  refine s_dec (fun h1 => ?_) (fun h1 => ?_)
  · walk_at "y1"
    exact hst _ rfl
  · walk_at "y"
    refine s_dec (fun h2 => ?_) (fun h2 => ?_)
    · walk_at "y"
      refine s_dec (fun h3 => ?_) (fun h3 => ?_)
      · walk_at "y1"
        exact hst _ rfl
      · walk_at "y1"
        exact hre _ rfl (.inr (by omega))
    · walk_at "y1"
      exact hre _ rfl (.inl (by omega))
end
end Z

namespace Z
open PySem PySem.Spec PyProof.Rows L2 Y
local macro_rules | `(tactic| walk_at "ne") => `(tactic| first
  | assumption
  | (apply Ne.symm; assumption)
  | (refine ne_of_none ?_ (by assumption); first | assumption | exact upd_same)
  | (apply Ne.symm; refine ne_of_none ?_ (by assumption); first | assumption | exact upd_same))
local macro_rules | `(tactic| walk_at "hp") => `(tactic| first
  | assumption
  | exact upd_same
  | (refine Eq.trans (upd_ne ?nn) ?_; (case nn => walk_at "ne"); walk_at "hp"))
local macro_rules | `(tactic| walk_at "cmul") => `(tactic| first
  | exact Or.inr ⟨by decide, by decide⟩
  | exact Or.inl ⟨by decide, by decide⟩
  | exact Or.inr ⟨by omega, by omega⟩
  | exact Or.inl ⟨by omega, by omega⟩)
local macro_rules | `(tactic| walk_at "len") => `(tactic| first
  | exact of_decide_eq_true rfl
  | (show _ < 16777216; assumption)
  | (show _ ≤ 16777216; assumption)
  | (show _ ≤ 16777216; simp; done)
  | (show _ < 16777216; simp; omega)
  | (show _ ≤ 16777216; simp; omega))
local macro_rules | `(tactic| walk_at "cf") => `(tactic| assumption)
local macro_rules | `(tactic| walk_at "flen") => `(tactic| first | exact of_decide_eq_true rfl | decide | (show _ < 1000; decide) | (simp; done))
local macro_rules | `(tactic| walk_at "ty") => `(tactic| first
  | exact .base .non
  | exact .base (.bl _)
  | exact .base (.int _)
  | exact .base (.str _)
  | assumption
  | (refine .base (.lst ?_); walk_at "hp")
  | (refine .base (.tup ?_); walk_at "hp")
  | (refine .base (.dK ?_); walk_at "hp"))
local macro_rules | `(tactic| walk_at "kit") => `(tactic| first
  | exact kit_NoneType_bool
  | exact kit_NoneType_int
  | exact kit_NoneType_str
  | exact kit_NoneType_list
  | exact kit_NoneType_tuple
  | exact kit_NoneType_dict
  | exact kit_bool_bool
  | exact kit_bool_int
  | exact kit_bool_str
  | exact kit_bool_list
  | exact kit_bool_tuple
  | exact kit_bool_dict
  | exact kit_int_bool
  | exact kit_int_int
  | exact kit_int_str
  | exact kit_int_list
  | exact kit_int_tuple
  | exact kit_int_dict
  | exact kit_str_bool
  | exact kit_str_int
  | exact kit_str_str
  | exact kit_str_list
  | exact kit_str_tuple
  | exact kit_str_dict
  | exact kit_list_bool
  | exact kit_list_int
  | exact kit_list_str
  | exact kit_list_list
  | exact kit_list_tuple
  | exact kit_list_dict
  | exact kit_tuple_bool
  | exact kit_tuple_int
  | exact kit_tuple_str
  | exact kit_tuple_list
  | exact kit_tuple_tuple
  | exact kit_tuple_dict
  | exact kit_dict_bool
  | exact kit_dict_int
  | exact kit_dict_str
  | exact kit_dict_list
  | exact kit_dict_tuple
  | exact kit_dict_dict)
local macro_rules | `(tactic| walk_at "y1") => `(tactic| first
  | with_reducible apply s_seq
  | with_reducible apply s_asg
  | ((with_reducible apply s_var); (first | exact rfl | assumption))
  | with_reducible apply s_c
  | with_reducible apply s_op
  | with_reducible apply s_gname
  | with_reducible apply s_cons
  | with_reducible apply s_nil
  | with_reducible apply s_cb
  | with_reducible apply s_if
  | with_reducible apply s_test
  | with_reducible apply s_bl
  | with_reducible apply s_trubl
  | with_reducible apply s_tru
  | with_reducible apply s_and
  | with_reducible apply s_or
  | with_reducible apply s_not
  | with_reducible apply s_andV
  | with_reducible apply s_orV
  | with_reducible apply s_notV
  | with_reducible apply s_ifE
  | with_reducible apply s_true
  | with_reducible apply s_false
  | with_reducible apply s_nfalse
  | with_reducible apply s_ntrue
  | with_reducible apply s_drop
  | with_reducible apply s_ret
  | with_reducible apply s_retN
  | with_reducible apply s_next
  | with_reducible apply s_add
  | with_reducible apply s_sub
  | ((with_reducible apply s_mul); (walk_at "cmul"))
  | ((with_reducible apply s_fdiv); (exact ⟨by decide, by decide⟩))
  | ((with_reducible apply s_mod); (first | decide | omega))
  | ((with_reducible apply s_pow); (exact ⟨by decide, by decide, by decide⟩))
  | with_reducible apply s_neg
  | with_reducible apply s_lt
  | with_reducible apply s_le
  | with_reducible apply s_gt
  | with_reducible apply s_ge
  | with_reducible apply s_isN_non
  | with_reducible apply s_isN_int
  | with_reducible apply s_isN_str
  | with_reducible apply s_isN_ref
  | with_reducible apply s_notN_non
  | with_reducible apply s_notN_int
  | with_reducible apply s_notN_str
  | with_reducible apply s_notN_ref
  | with_reducible apply s_abs
  | with_reducible apply s_max2
  | with_reducible apply s_min2
  | with_reducible apply s_int1
  | with_reducible apply s_eqI
  | with_reducible apply s_eqNI
  | with_reducible apply s_neI
  | with_reducible apply s_eqS
  | with_reducible apply s_call
  | with_reducible apply s_mklst
  | with_reducible apply s_mktup
  | with_reducible apply s_bmL
  | with_reducible apply s_iRng1
  | with_reducible apply s_iRng2
  | with_reducible apply s_iEnum
  | with_reducible apply s_iter
  | with_reducible apply s_turn
  | with_reducible apply s_tyes
  | ((with_reducible refine' s_wipe ?yw ?yk); (case yw => exact rfl))
  | with_reducible apply s_gsub
  | with_reducible apply s_gcons
  | with_reducible apply s_gnil
  | with_reducible apply s_sfld
  | with_reducible apply s_meth
  | with_reducible apply s_make
  | with_reducible apply s_disp
  | with_reducible apply s_pnil
  | with_reducible apply s_pcons
  | ((with_reducible refine' s_gtup ?yh ?yl ?yk); (case yh => walk_at "hp"); (case yl => exact rfl))
  | ((with_reducible refine' s_setL ?yh ?yj ?yk); (case yh => walk_at "hp"); (case yj => first | assumption | exact rfl))
  | ((with_reducible refine' s_setDS ?yh ?yl ?yk); (case yh => walk_at "hp"); (case yl => walk_at "len"))
  | ((with_reducible refine' s_setf ?yh ?yc ?yn ?yl ?yk); (case yh => walk_at "hp"); (case yc => walk_at "cf"); (case yn => walk_at "cf"); (case yl => walk_at "flen"))
  | ((with_reducible refine' s_recv ?yh ?yl ?yk); (case yh => walk_at "hp"); (case yl => exact rfl))
  | ((with_reducible refine' s_ixDS ?yh ?ya ?yk); (case yh => walk_at "hp"); (case ya => first | assumption | exact rfl))
  | ((with_reducible refine' s_tyL ?yh ?yk); (case yh => walk_at "hp"))
  | ((with_reducible refine' s_append ?yh ?yl ?yk); (case yh => walk_at "hp"); (case yl => walk_at "len"))
  | ((with_reducible refine' s_lenL ?yh ?yk); (case yh => walk_at "hp"))
  | ((with_reducible refine' s_lenLs ?yh ?yk); (case yh => assumption))
  | ((with_reducible refine' s_lenT ?yh ?yk); (case yh => walk_at "hp"))
  | ((with_reducible refine' s_lenTs ?yh ?yk); (case yh => assumption))
  | ((with_reducible refine' s_lenE ?yh ?yk); (case yh => assumption))
  | ((with_reducible refine' s_ixE ?yh ?ya ?yk); (case yh => assumption); (case ya => first | assumption | exact rfl))
  | ((with_reducible refine' s_ixTs ?yh ?ya ?yk); (case yh => assumption); (case ya => first | assumption | exact rfl))
  | ((with_reducible refine' s_isi ?yt ?yb ?yk); (case yt => walk_at "ty"); (case yb => walk_at "kit"))
  | ((with_reducible refine' s_listof ?yh ?yk); (case yh => walk_at "hp"))
  | ((with_reducible refine' s_ixL ?yh ?ya ?yk); (case yh => walk_at "hp"); (case ya => first | assumption | exact rfl))
  | ((with_reducible refine' s_ixT ?yh ?ya ?yk); (case yh => walk_at "hp"); (case ya => first | assumption | exact rfl))
  | ((with_reducible refine' s_ixLs ?yh ?ya ?yk); (case yh => assumption); (case ya => first | assumption | exact rfl))
  | ((with_reducible refine' s_itrL ?yh ?yk); (case yh => walk_at "hp"))
  | ((with_reducible refine' s_itrLs ?yh ?yk); (case yh => assumption))
  | ((with_reducible refine' s_itrT ?yh ?yk); (case yh => walk_at "hp"))
  | ((with_reducible refine' s_enumL ?yh ?yk); (case yh => walk_at "hp"))
  | ((with_reducible refine' s_fldv ?yv ?yh ?yc ?yn ?yl ?yk); (case yv => exact rfl); (case yh => walk_at "hp"); (case yc => walk_at "cf"); (case yn => walk_at "cf"); (case yl => exact rfl)))
local macro_rules | `(tactic| walk_at "yl") => `(tactic| first
  | with_reducible apply s_for
  | with_reducible apply s_lc)
local macro_rules | `(tactic| walk_at "ys") => `(tactic| repeat walk_at "y1")
local macro_rules | `(tactic| walk_at "y") => `(tactic| repeat (first | walk_at "y1" | walk_at "yl"))

local macro_rules | `(tactic| walk_at "cf") => `(tactic| first | exact ClsFacts.cl (by assumption) | exact ClsFacts.nc (by assumption) | exact ClsFacts.ni (by assumption) | exact ClsFacts.no (by assumption))
section
variable {K : PySem.W.Frag} {C : Addr} {vs : List V} {H H' : Hp} {Q : VK} {E : XK} {n : Nat} {A : LA} {B : BA} {L : List Rw} {m : Nat}
/-- a comprehension over the book's rows -/
theorem comp_rows {p : Rw → Bool} {tt : TT} {x0 x1 : V} {x3 x4 x5 x6 x7 : Option V} (h : BkAt H B L m) (hL : L.length ≤ 1000)
    (ht : ∀ (i : Nat) (r : Rw) (a : Addr) (nv : V) (vs : List V) (H1 : Hp) (QB : Bool → Hp → Prop), Same H H1 → L[i]? = some r → H1 B.r = some (.lst vs) → atI vs (i : Int) = some (.ref a) → H1 a = some (.tup [nv, .int r.am, oV r.mr, oV r.tk]) → QB (p r) H1 →
      tt [some x0, some x1, some (.ref B.r), x3, x4, some (.int i), x6, x7] H1 QB)
    (k : ∀ D H', H D = none → Same H H' → H' D = some (.lst ((ixs L p).map V.int)) → Q (.ref D) H') :
    tLc (iRng1 (tCons (tCB (rdLen K) (tCons (tVar 2) tNil)) tNil)) (gName 5) tt (tVar 5) [5] [some x0, some x1, some (.ref B.r), x3, x4, x5, x6, x7] H Q := by
  obtain ⟨vs, h1, h2⟩ := h.rs
  have hl := Pd.len h2
  walk_at "y"
  refine s_rng1 (by omega) (by omega) ?_
  refine l_range (fun D i acc H' => H' = upd H D (.lst ((ixs (L.take i) p).map V.int)) ∧ acc = (ixs (L.take i) p).map V.int) ?_ ?_ ?_
  · intro D hD
    exact ⟨rfl, rfl⟩
  · rintro D i acc H' hD hi hA hlen ⟨rfl, rfl⟩
    have hi' : i < L.length := by omega
    obtain ⟨v, hv, a, nv, rfl, ha, hn⟩ := Pd.get h2 (List.getElem?_eq_getElem hi')
    have et := ixs_take (p := p) (List.getElem?_eq_getElem hi')
    have nD : a ≠ D := ne_of_none ha hD
    have n1 : B.r ≠ D := ne_of_none h1 hD
    walk_at "y"
    have e0 : (0 : Int) + (i : Int) = (i : Int) := by omega
    rw [e0]
    refine ht i L[i] a nv vs _ _ (Same.new hD) (List.getElem?_eq_getElem hi') (by rw [upd_ne n1]; exact h1) (atI_nat hv) (by rw [upd_ne nD]; exact ha) ?_
    cases e : p L[i] with
    | true =>
      walk_at "y"
      refine LcPut.mk hA hlen (by omega) ?_
      refine ⟨?_, ?_⟩
      · rw [upd_upd, et, if_pos e, List.map_append]
        simp
      · rw [et, if_pos e, List.map_append]
        simp
    | false =>
      walk_at "y"
      refine LcSkip.mk hA hlen ?_
      refine ⟨?_, ?_⟩
      · rw [et, if_neg (by rw [e]; simp), List.append_nil]
      · rw [et, if_neg (by rw [e]; simp), List.append_nil]
  · rintro D acc H' hD hA hlen ⟨rfl, rfl⟩
    refine k D _ hD (Same.new hD) ?_
    rw [upd_same]
    have e : L.take (Int.toNat (vs.length : Int)) = L := by rw [Int.toNat_natCast, hl]; exact List.take_length
    rw [e]
/-- a list of immutable things -/
def LAt (H : Hp) (a : Addr) (D : PyData) : Prop := ∃ xs ds, H a = some (.lst xs) ∧ ImAll H xs ds ∧ D = .list ds ∧ okd 6 D = true ∧ xs.length ≤ 1000
theorem LAt.keep {a : Addr} {D : PyData} (k : KT H H') (e : H' a = H a) (h : LAt H a D) : LAt H' a D := by
  obtain ⟨xs, ds, h1, h2, h3⟩ := h
  exact ⟨xs, ds, by rw [e]; exact h1, h2.keep k, h3⟩
theorem LAt.same {a : Addr} {D : PyData} (s : Same H H') (h : LAt H a D) : LAt H' a D := by
  obtain ⟨xs, ds, h1, h2, h3⟩ := h
  exact ⟨xs, ds, s _ _ h1, h2.keep (Same.kt s), h3⟩
theorem LAt.dp {a : Addr} {D : PyData} (h : LAt H a D) : Dp K H (.ref a) D := by
  obtain ⟨xs, ds, h1, h2, rfl, _⟩ := h
  exact .lst (SqL.of h1) h2.dp
theorem LAt.ints {a : Addr} {ns : List Int} (h : H a = some (.lst (ns.map V.int))) (hl : ns.length ≤ 1000) : LAt H a (.list (ns.map .int)) := by
  have q : ∀ l : List Int, ImAll H (l.map V.int) (l.map PyData.int) := fun l => by
    induction l with
    | nil => exact .nil
    | cons x r ih => exact .cons (.int _) ih
  exact ⟨_, _, h, q ns, rfl, ints_ok ns (by omega), by rw [List.length_map]; exact hl⟩
theorem LAt.rows {a : Addr} {ws : List V} (h : H a = some (.lst ws)) (hr : Paired (RowAt H) ws L) (ho : ∀ r ∈ L, okd 3 r.nm = true) (hl : L.length ≤ 1000) : LAt H a (.list (L.map Rw.d)) := by
  have q : ∀ {ws : List V} {L : List Rw}, Paired (RowAt H) ws L → ImAll H ws (L.map Rw.d) := fun h => by
    induction h with
    | nil => exact .nil
    | cons x _ ih => exact .cons x.im ih
  refine ⟨_, _, h, q hr, rfl, ?_, by rw [Pd.len hr]; exact hl⟩
  simp only [okd, Bool.and_eq_true, decide_eq_true_eq, List.all_eq_true, List.length_map]
  refine ⟨by omega, fun x hx => ?_⟩
  obtain ⟨r, hr, rfl⟩ := List.mem_map.mp hx
  have h3 := ho r hr
  have h4 := okd_mono h3 (show 3 ≤ 4 by decide)
  have e1 : Y.okd 4 (oD r.mr) = true := by cases r.mr <;> rfl
  have e2 : Y.okd 4 (oD r.tk) = true := by cases r.tk <;> rfl
  simp only [Rw.d, Y.okd, Bool.and_eq_true, decide_eq_true_eq, List.all_eq_true]
  refine ⟨by (show 4 ≤ 100000; decide), fun x hx => ?_⟩
  simp only [List.mem_cons, List.not_mem_nil, or_false] at hx
  rcases hx with rfl | rfl | rfl | rfl
  · exact h4
  · rfl
  · exact e1
  · exact e2
theorem LAt.all : ∀ {tl : List Addr} {TT : List PyData}, Paired (LAt H) tl TT → DpAll K H (tl.map V.ref) TT
  | _, _, .nil => .nil
  | _, _, .cons h t => .cons h.dp (LAt.all t)
/-- what was told, what is due, while they are gathered -/
structure Gath (H0 H : Hp) (t d : Addr) (tl dl : List Addr) (T D : List PyData) : Prop where
  s : Same H0 H
  t0 : H0 t = none
  d0 : H0 d = none
  td : t ≠ d
  ht : H t = some (.lst (tl.map V.ref))
  hd : H d = some (.lst (dl.map V.ref))
  pt : Paired (LAt H) tl T
  pd : Paired (LAt H) dl D
  out : ∀ a ∈ tl ++ dl, H0 a = none ∧ a ≠ t ∧ a ≠ d
section
variable {H0 H1 : Hp} {t d q : Addr} {tl dl : List Addr} {T D : List PyData} {X : PyData}
theorem Gath.same (g : Gath H0 H t d tl dl T D) (s : Same H H') : Gath H0 H' t d tl dl T D :=
  ⟨g.s.trans s, g.t0, g.d0, g.td, s _ _ g.ht, s _ _ g.hd, Pd.mono g.pt fun _ _ => LAt.same s, Pd.mono g.pd fun _ _ => LAt.same s, g.out⟩
theorem Gath.addT (g : Gath H0 H t d tl dl T D) (s : Same H H1) (hq : H q = none) (l : LAt H1 q X) : Gath H0 (upd H1 t (.lst (tl.map V.ref ++ [.ref q]))) t d (tl ++ [q]) dl (T ++ [X]) D := by
  have g1 := g.same s
  have nt : q ≠ t := (ne_of_none g.ht hq).symm
  have nd : q ≠ d := (ne_of_none g.hd hq).symm
  have kt : KT H1 (upd H1 t (.lst (tl.map V.ref ++ [.ref q]))) := KT.upd KT.refl (not_tup_of_lst g1.ht)
  have st : ∀ a, a ≠ t → (upd H1 t (.lst (tl.map V.ref ++ [.ref q]))) a = H1 a := fun a h => upd_ne h
  refine ⟨Same.upd g1.s g.t0, g.t0, g.d0, g.td, ?_, by rw [st d g.td.symm]; exact g1.hd, ?_, ?_, ?_⟩
  · rw [upd_same, List.map_append]; rfl
  · exact Paired.snoc (Pd.monoMem g1.pt fun a b ha _ => LAt.keep kt (st a (g.out a (List.mem_append_left _ ha)).2.1)) (LAt.keep kt (st q nt) l)
  · exact Pd.monoMem g1.pd fun a b ha _ => LAt.keep kt (st a (g.out a (List.mem_append_right _ ha)).2.1)
  · intro a ha
    simp only [List.mem_append, List.mem_singleton] at ha
    rcases ha with (ha | rfl) | ha
    · exact g.out a (List.mem_append_left _ ha)
    · exact ⟨g.s.free hq, nt, nd⟩
    · exact g.out a (List.mem_append_right _ ha)
theorem Gath.addD (g : Gath H0 H t d tl dl T D) (s : Same H H1) (hq : H q = none) (l : LAt H1 q X) : Gath H0 (upd H1 d (.lst (dl.map V.ref ++ [.ref q]))) t d tl (dl ++ [q]) T (D ++ [X]) := by
  have g1 := g.same s
  have nt : q ≠ t := (ne_of_none g.ht hq).symm
  have nd : q ≠ d := (ne_of_none g.hd hq).symm
  have kt : KT H1 (upd H1 d (.lst (dl.map V.ref ++ [.ref q]))) := KT.upd KT.refl (not_tup_of_lst g1.hd)
  have st : ∀ a, a ≠ d → (upd H1 d (.lst (dl.map V.ref ++ [.ref q]))) a = H1 a := fun a h => upd_ne h
  refine ⟨Same.upd g1.s g.d0, g.t0, g.d0, g.td, by rw [st t g.td]; exact g1.ht, ?_, ?_, ?_, ?_⟩
  · rw [upd_same, List.map_append]; rfl
  · exact Pd.monoMem g1.pt fun a b ha _ => LAt.keep kt (st a (g.out a (List.mem_append_left _ ha)).2.2)
  · exact Paired.snoc (Pd.monoMem g1.pd fun a b ha _ => LAt.keep kt (st a (g.out a (List.mem_append_right _ ha)).2.2)) (LAt.keep kt (st q nd) l)
  · intro a ha
    simp only [List.mem_append, List.mem_singleton] at ha
    rcases ha with ha | ha | rfl
    · exact g.out a (List.mem_append_left _ ha)
    · exact g.out a (List.mem_append_right _ ha)
    · exact ⟨g.s.free hq, nt, nd⟩
end
theorem p_as_due (T : ClsFacts K C) (h : sp_due K C vs H Q E) : rd_as_due K C { nx := fun _ H' => Q .non H', rt := Q } (start ["lineage", "book", "rows", "told", "due", "k", "station", "row"] vs) H := by
  obtain ⟨A, B, L, m, rfl, hP, hm, hL, k⟩ := h
  have g0 := hP.bk.ob
  have h0 := hP.lin.ob
  have hkr : valV [(kRows, V.ref B.r), (kMany, V.int (m : Int))] (.inr "rows" : Key) = some (.ref B.r) := rfl
  have hkm : valV [(kRows, V.ref B.r), (kMany, V.int (m : Int))] (.inr "many" : Key) = some (.int m) := rfl
  unfold rd_as_due
  walk_at "y"
  refine ⟨A, L, m, rfl, hP.lin, fun p1 ws hp1 hws => ?_⟩
  have s1 : Same H (upd H p1 (.lst ws)) := Same.new hp1
  have r1 : (upd H p1 (.lst ws)) p1 = some (.lst ws) := upd_same
  generalize upd H p1 (HO.lst ws) = H1 at *
  have P1 := hP.same s1
  have h01 := P1.lin.ob
  walk_at "y"
  refine ⟨A, L, m, rfl, P1.lin, hL, fun p2 H2 hp2 s2 r2 => ?_⟩
  have P2 := P1.same s2
  have h02 := P2.lin.ob
  walk_at "y"
  refine ⟨A, L, m, rfl, P2.lin, hL, fun p3 H3 hp3 s3 r3 => ?_⟩
  walk_at "y"
  refine ⟨by (show 3 ≤ 16777216; decide), fun t ht => ?_⟩
  have s123 : Same H H3 := (s1.trans s2).trans s3
  have t0 : H t = none := s123.free ht
  have st : Same H3 (upd H3 t (.lst [.ref p1, .ref p2, .ref p3])) := Same.new ht
  have rt : (upd H3 t (.lst [.ref p1, .ref p2, .ref p3])) t = some (.lst [.ref p1, .ref p2, .ref p3]) := upd_same
  have l1 : LAt H3 p1 (.list (L.map Rw.d)) := LAt.same (s2.trans s3) (LAt.rows r1 (Pd.mono hws fun _ _ => RowAt.keep (Same.kt s1)) hP.ok hL)
  have io := ixs_len (p := isOut) L
  have ip := ixs_len (p := isOpen) L
  have l2 : LAt H3 p2 (.list ((ixs L isOut).map .int)) := LAt.same s3 (LAt.ints r2 (by omega))
  have l3 : LAt H3 p3 (.list ((ixs L isOpen).map .int)) := LAt.ints r3 (by omega)
  have n1 : p1 ≠ t := by obtain ⟨_, _, h, _⟩ := l1; exact ne_of_none h ht
  have n2 : p2 ≠ t := by obtain ⟨_, _, h, _⟩ := l2; exact ne_of_none h ht
  have n3 : p3 ≠ t := by obtain ⟨_, _, h, _⟩ := l3; exact ne_of_none h ht
  generalize upd H3 t (HO.lst [V.ref p1, V.ref p2, V.ref p3]) = H4 at *
  have P4 := hP.same (s123.trans st)
  obtain ⟨wr, w1, w2⟩ := P4.bk.rs
  walk_at "y"
  intro q1 hq1
  have su1 : Same H4 (upd H4 q1 (.lst wr)) := Same.new hq1
  have ru1 : (upd H4 q1 (.lst wr)) q1 = some (.lst wr) := upd_same
  have m1 : LAt (upd H4 q1 (.lst wr)) q1 (.list (L.map Rw.d)) := LAt.rows upd_same (Pd.mono w2 fun _ _ => RowAt.keep (Same.kt su1)) hP.ok hL
  generalize upd H4 q1 (HO.lst wr) = H5 at *
  have P5 := P4.same su1
  walk_at "y1"
  refine comp_rows (p := isOut) P5.bk hL (fun i r a nv vs' H1' QB sx hr hb hv ha hQ => ?_) (fun q2 H6 hq2 s6 ru2 => ?_)
  · walk_at "y"
    cases e : r.mr with
    | none =>
      walk_at "y"
      rw [isOut, e] at hQ
      exact hQ
    | some x =>
      walk_at "y"
      rw [isOut, e] at hQ
      exact hQ
  have P6 := P5.same s6
  walk_at "y"
  refine ⟨B, L, m, rfl, P6.bk, hL, fun q3 H7 hq3 s7 ru3 => ?_⟩
  walk_at "y"
  refine ⟨by (show 3 ≤ 16777216; decide), fun d hd => ?_⟩
  have s47 : Same H4 H7 := (su1.trans s6).trans s7
  have sd : Same H7 (upd H7 d (.lst [.ref q1, .ref q2, .ref q3])) := Same.new hd
  have s07 : Same H H7 := ((s123.trans st).trans s47)
  have m1' : LAt H7 q1 (.list (L.map Rw.d)) := LAt.same (s6.trans s7) m1
  have m2' : LAt H7 q2 (.list ((ixs L isOut).map .int)) := LAt.same s7 (LAt.ints ru2 (by omega))
  have m3' : LAt H7 q3 (.list ((ixs L isOpen).map .int)) := LAt.ints ru3 (by omega)
  have nn : ∀ {H : Hp} {a b : Addr} {X : PyData}, LAt H a X → H b = none → a ≠ b := fun l h => by
    obtain ⟨_, _, h', _⟩ := l
    exact ne_of_none h' h
  have k1 := LAt.same (st.trans s47) l1
  have k2 := LAt.same (st.trans s47) l2
  have k3 := LAt.same (st.trans s47) l3
  have t7 : H7 t = some (.lst [.ref p1, .ref p2, .ref p3]) := s47 _ _ rt
  have G : Gath H (upd H7 d (.lst [.ref q1, .ref q2, .ref q3])) t d [p1, p2, p3] [q1, q2, q3] [.list (L.map Rw.d), .list ((ixs L isOut).map .int), .list ((ixs L isOpen).map .int)] [.list (L.map Rw.d), .list ((ixs L isOut).map .int), .list ((ixs L isOpen).map .int)] := by
    refine ⟨s07.trans sd, t0, s07.free hd, ne_of_none t7 hd, sd _ _ t7, upd_same, ?_, ?_, ?_⟩
    · exact .cons (k1.same sd) (.cons (k2.same sd) (.cons (k3.same sd) .nil))
    · exact .cons (m1'.same sd) (.cons (m2'.same sd) (.cons (m3'.same sd) .nil))
    · intro a ha
      simp only [List.cons_append, List.nil_append, List.mem_cons, List.not_mem_nil, or_false] at ha
      have e4 : H4 t ≠ none := by rw [rt]; simp
      rcases ha with rfl | rfl | rfl | rfl | rfl | rfl
      · exact ⟨hp1, n1, nn k1 hd⟩
      · exact ⟨s1.free hp2, n2, nn k2 hd⟩
      · exact ⟨(s1.trans s2).free hp3, n3, nn k3 hd⟩
      · exact ⟨(s123.trans st).free hq1, (ne_of_none rt hq1).symm, nn m1' hd⟩
      · exact ⟨((s123.trans st).trans su1).free hq2, (ne_of_none (su1 _ _ rt) hq2).symm, nn m2' hd⟩
      · exact ⟨(((s123.trans st).trans su1).trans s6).free hq3, (ne_of_none ((su1.trans s6) _ _ rt) hq3).symm, nn m3' hd⟩
  clear hws r1 P1 h01 r2 P2 h02 r3 l1 l2 l3 rt P4 w1 w2 ru1 m1 P5 ru2 P6 ru3 m1' m2' m3' k1 k2 k3 t7 st su1 s6 s7 s47 s123 s1 s2 s3
  generalize upd H7 d (HO.lst [V.ref q1, V.ref q2, V.ref q3]) = H8 at *
  have P8 := hP.same G.s
  have g8 := P8.bk.ob
  walk_at "y"
  refine s_rng1 (by omega) (by omega) ?_
  refine f_range (fun i σ H' => ∃ (v5 v6 : Option V) (tl dl : List Addr) (TT : List PyData), σ = [some (.ref A.x), some (.ref B.b), some (.ref B.r), some (.ref t), some (.ref d), v5, v6, none] ∧ Gath H H' t d tl dl TT TT ∧ tl.length = 3 + 2 * i ∧ dl.length = 3 + 2 * i) ?_ ?_ ?_
  · exact ⟨none, none, _, _, _, rfl, G, rfl, rfl⟩
  · rintro i σ H9 hi ⟨v5, v6, tl, dl, TT, rfl, g, hl1, hl2⟩
    have P9 := hP.same g.s
    have h9 := P9.lin.ob
    have t9 := g.ht
    have d9 := g.hd
    have i1 := ixs_len (p := tkIs i) L
    have i2 := ixs_len (p := mkIs i) L
    have him : i < m := by omega
    have e0 : (0 : Int) + (i : Int) = (i : Int) := by omega
    have bl1 : (tl.map V.ref).length < 16777216 := by rw [List.length_map]; omega
    walk_at "y"
    rw [e0]
    refine ⟨A, L, m, i, rfl, P9.lin, him, fun a1 ha1 => ?_⟩
    have a1t : t ≠ a1 := ne_of_none t9 ha1
    have z1 : Same H9 (upd H9 a1 (.lst ((ixs L (tkIs i)).map V.int))) := Same.new ha1
    have g1 := g.addT z1 ha1 (LAt.ints upd_same (by omega))
    walk_at "y"
    generalize upd (upd H9 a1 (HO.lst ((ixs L (tkIs i)).map V.int))) t (HO.lst (tl.map V.ref ++ [V.ref a1])) = H10 at *
    have P10 := hP.same g1.s
    have d10 := g1.hd
    have bl2 : (dl.map V.ref).length < 16777216 := by rw [List.length_map]; omega
    walk_at "ys"
    refine comp_rows (p := tkIs i) P10.bk hL (fun j r a nv vs' H1' QB sx hr hb hv ha hQ => ?_) (fun a2 H11 ha2 s11 ra2 => ?_)
    · walk_at "y"
      cases e : r.tk with
      | none =>
        walk_at "y"
        rw [tkIs, e] at hQ
        exact hQ
      | some x =>
        walk_at "y"
        have ee : decide ((x : Int) = (i : Int)) = tkIs i r := by
          rw [tkIs, e]
          exact decide_eq_decide.mpr ⟨fun h => by rw [Int.ofNat.inj h], fun h => by rw [Option.some.inj h]⟩
        rw [ee]
        exact hQ
    have g2 := g1.addD s11 ha2 (LAt.ints ra2 (by omega))
    have d11 := s11 _ _ d10
    walk_at "y"
    generalize upd H11 d (HO.lst (dl.map V.ref ++ [V.ref a2])) = H12 at *
    have P12 := hP.same g2.s
    have h12 := P12.lin.ob
    have t12 := g2.ht
    have bl3 : ((tl ++ [a1]).map V.ref).length < 16777216 := by simp; omega
    walk_at "y"
    refine ⟨A, L, m, i, rfl, P12.lin, him, fun a3 ha3 => ?_⟩
    have a3t : t ≠ a3 := ne_of_none t12 ha3
    have z3 : Same H12 (upd H12 a3 (.lst ((ixs L (mkIs i)).map V.int))) := Same.new ha3
    have g3 := g2.addT z3 ha3 (LAt.ints upd_same (by omega))
    walk_at "y"
    generalize upd (upd H12 a3 (HO.lst ((ixs L (mkIs i)).map V.int))) t (HO.lst ((tl ++ [a1]).map V.ref ++ [V.ref a3])) = H13 at *
    have P13 := hP.same g3.s
    have d13 := g3.hd
    have bl4 : ((dl ++ [a2]).map V.ref).length < 16777216 := by simp; omega
    walk_at "ys"
    refine comp_rows (p := mkIs i) P13.bk hL (fun j r a nv vs' H1' QB sx hr hb hv ha hQ => ?_) (fun a4 H14 ha4 s14 ra4 => ?_)
    · walk_at "y"
      cases e : r.mr with
      | none =>
        walk_at "y"
        rw [mkIs, e] at hQ
        exact hQ
      | some x =>
        walk_at "y"
        have ee : decide ((x : Int) = (i : Int)) = mkIs i r := by
          rw [mkIs, e]
          exact decide_eq_decide.mpr ⟨fun h => by rw [Int.ofNat.inj h], fun h => by rw [Option.some.inj h]⟩
        rw [ee]
        exact hQ
    have g4 := g3.addD s14 ha4 (LAt.ints ra4 (by omega))
    have d14 := s14 _ _ d13
    walk_at "y"
    exact ⟨_, _, _, _, _, rfl, g4, by simp; omega, by simp; omega⟩
  · rintro σ H9 ⟨v5, v6, tl, dl, TT, rfl, g, hl1, hl2⟩
    rw [Int.toNat_natCast] at hl1 hl2
    have P9 := hP.same g.s
    walk_at "y"
    have okT : okd 7 (.list TT) = true := by
      simp only [okd, Bool.and_eq_true, decide_eq_true_eq, List.all_eq_true]
      refine ⟨by rw [← Pd.len g.pt]; omega, fun x hx => ?_⟩
      obtain ⟨a, _, _, _, _, _, ho, _⟩ := Paired.right g.pt x hx
      exact ho
    refine sameI (d := .list TT) (.lst (SqL.of g.ht) (LAt.all g.pt)) (.lst (SqL.of g.hd) (LAt.all g.pd)) (okT) fun H10 s10 => ?_
    have P10 := P9.same s10
    have h10 := P10.lin.ob
    have b10 := P10.bk.ob
    walk_at "y"
    refine ⟨A, L, m, rfl, P10.lin, ?_⟩
    walk_at "y"
    refine sameI (d := .int m) (.int _) (.int _) (rfl) fun H11 s11 => ?_
    have P11 := P10.same s11
    have t11 := s11 _ _ (s10 _ _ g.ht)
    have pl11 : Paired (LAt H11) tl TT := Pd.mono g.pt fun _ _ => LAt.same (s10.trans s11)
    have s011 : Same H H11 := g.s.trans (s10.trans s11)
    have hout := g.out
    clear g s10 s11 P9 P10 h10 b10 P8 g8 G sd
    obtain ⟨wr', w1', w2'⟩ := P11.bk.rs
    have hwl := Pd.len w2'
    walk_at "y"
    refine s_rng1 (by omega) (by omega) ?_
    refine f_range (fun i σ H' => ∃ (v5 : Option V), σ = [some (.ref A.x), some (.ref B.b), some (.ref B.r), some (.ref t), some (.ref d), v5, v6, none] ∧ Same H11 H') ?_ ?_ ?_
    · exact ⟨_, rfl, Same.refl _⟩
    · rintro i σ H12 hi ⟨v5, rfl, s12⟩
      have P12 := P11.same s12
      have h12 := P12.lin.ob
      have hi' : i < L.length := by omega
      have e0 : (0 : Int) + (i : Int) = (i : Int) := by omega
      walk_at "y"
      rw [e0]
      refine ⟨A, L, m, i, L[i], rfl, P12.lin, List.getElem?_eq_getElem hi', fun v hv => ?_⟩
      obtain ⟨wr2, w3, w4⟩ := P12.bk.rs
      obtain ⟨u, hu, hR⟩ := Pd.get w4 (List.getElem?_eq_getElem hi')
      have hu' := atI_nat hu
      walk_at "y"
      refine sameI (d := L[i].d) (hv.im.dp) (hR.im.dp) (Rw.okd (hP.ok _ (List.getElem_mem hi'))) fun H13 s13 => ?_
      walk_at "y"
      exact ⟨_, rfl, s12.trans s13⟩
    · rintro σ H12 ⟨v5, rfl, s12⟩
      have t12 := s12 _ _ t11
      have pl12 : Paired (LAt H12) tl TT := Pd.mono pl11 fun _ _ => LAt.same s12
      have s012 : Same H H12 := s011.trans s12
      walk_at "y"
      refine f_list (xs := tl.map V.ref) (fun i σ H' => ∃ (v7 : Option V), σ = [some (.ref A.x), some (.ref B.b), some (.ref B.r), some (.ref t), some (.ref d), v5, v6, v7] ∧ Same H H' ∧ H' t = some (.lst (tl.map V.ref)) ∧ ∀ a ∈ tl, ∃ xs, H' a = some (.lst xs) ∧ xs.length ≤ 1000 + 2 * i) ?_ ?_ ?_ ?_
      · refine ⟨_, rfl, s012, t12, fun a ha => ?_⟩
        obtain ⟨j, hj⟩ := List.getElem?_of_mem ha
        obtain ⟨X, _, xs, ds, h1, _, _, _, h2⟩ := Pd.getl pl12 hj
        exact ⟨xs, h1, by omega⟩
      · rintro i σ H' hi ⟨v7, rfl, _, h, _⟩
        exact SqL.of h
      · rintro i x σ H' hx ⟨v7, rfl, s', ht', hall⟩
        obtain ⟨a, ha, rfl⟩ : ∃ a, a ∈ tl ∧ x = V.ref a := by
          rw [List.getElem?_map] at hx
          cases e : tl[i]? with
          | none => rw [e] at hx; cases hx
          | some a => rw [e] at hx; exact ⟨a, List.mem_of_getElem? e, (Option.some.inj hx).symm⟩
        have hil : i < tl.length := by
          have := (List.getElem?_eq_some_iff.mp hx).1
          rw [List.length_map] at this
          exact this
        obtain ⟨xs, hxs, hlx⟩ := hall a ha
        have hb1 : xs.length < 16777216 := by omega
        walk_at "y"
        refine s_insert hxs hb1 (by decide) (by decide) ?_
        have hb2 : (xs.take (Int.toNat 0) ++ [V.int 7] ++ xs.drop (Int.toNat 0)).length < 16777216 := by simp; omega
        walk_at "y"
        obtain ⟨a0, at_, ad⟩ := hout a (List.mem_append_left _ ha)
        have out2 : ∀ b, b ≠ a → (upd (upd H' a (.lst (xs.take (Int.toNat 0) ++ [V.int 7] ++ xs.drop (Int.toNat 0)))) a (.lst (xs.take (Int.toNat 0) ++ [V.int 7] ++ xs.drop (Int.toNat 0) ++ [V.int 8]))) b = H' b := fun b hb => by rw [upd_ne hb, upd_ne hb]
        refine ⟨_, rfl, Same.upd (Same.upd s' a0) a0, ?_, fun b hb => ?_⟩
        · rw [out2 t at_.symm]
          exact ht'
        · by_cases e : b = a
          · subst e
            exact ⟨_, upd_same, by simp; omega⟩
          · obtain ⟨ys, y1, y2⟩ := hall b hb
            exact ⟨ys, by rw [out2 b e]; exact y1, by omega⟩
      · rintro σ H' ⟨v7, rfl, s', _⟩
        walk_at "y"
        exact k _ s'
end
end Z

namespace Z
open PySem PySem.Spec PyProof.Rows L2 Y
local macro_rules | `(tactic| walk_at "ne") => `(tactic| first
  | assumption
  | (apply Ne.symm; assumption)
  | (refine ne_of_none ?_ (by assumption); first | assumption | exact upd_same)
  | (apply Ne.symm; refine ne_of_none ?_ (by assumption); first | assumption | exact upd_same))
local macro_rules | `(tactic| walk_at "hp") => `(tactic| first
  | assumption
  | exact upd_same
  | (refine Eq.trans (upd_ne ?nn) ?_; (case nn => walk_at "ne"); walk_at "hp"))
local macro_rules | `(tactic| walk_at "cmul") => `(tactic| first
  | exact Or.inr ⟨by decide, by decide⟩
  | exact Or.inl ⟨by decide, by decide⟩
  | exact Or.inr ⟨by omega, by omega⟩
  | exact Or.inl ⟨by omega, by omega⟩)
local macro_rules | `(tactic| walk_at "len") => `(tactic| first
  | exact of_decide_eq_true rfl
  | (show _ < 16777216; assumption)
  | (show _ ≤ 16777216; assumption)
  | (show _ ≤ 16777216; simp; done)
  | (show _ < 16777216; simp; omega)
  | (show _ ≤ 16777216; simp; omega))
local macro_rules | `(tactic| walk_at "cf") => `(tactic| assumption)
local macro_rules | `(tactic| walk_at "flen") => `(tactic| first | exact of_decide_eq_true rfl | decide | (show _ < 1000; decide) | (simp; done))
local macro_rules | `(tactic| walk_at "ty") => `(tactic| first
  | exact .base .non
  | exact .base (.bl _)
  | exact .base (.int _)
  | exact .base (.str _)
  | assumption
  | (refine .base (.lst ?_); walk_at "hp")
  | (refine .base (.tup ?_); walk_at "hp")
  | (refine .base (.dK ?_); walk_at "hp"))
local macro_rules | `(tactic| walk_at "kit") => `(tactic| first
  | exact kit_NoneType_bool
  | exact kit_NoneType_int
  | exact kit_NoneType_str
  | exact kit_NoneType_list
  | exact kit_NoneType_tuple
  | exact kit_NoneType_dict
  | exact kit_bool_bool
  | exact kit_bool_int
  | exact kit_bool_str
  | exact kit_bool_list
  | exact kit_bool_tuple
  | exact kit_bool_dict
  | exact kit_int_bool
  | exact kit_int_int
  | exact kit_int_str
  | exact kit_int_list
  | exact kit_int_tuple
  | exact kit_int_dict
  | exact kit_str_bool
  | exact kit_str_int
  | exact kit_str_str
  | exact kit_str_list
  | exact kit_str_tuple
  | exact kit_str_dict
  | exact kit_list_bool
  | exact kit_list_int
  | exact kit_list_str
  | exact kit_list_list
  | exact kit_list_tuple
  | exact kit_list_dict
  | exact kit_tuple_bool
  | exact kit_tuple_int
  | exact kit_tuple_str
  | exact kit_tuple_list
  | exact kit_tuple_tuple
  | exact kit_tuple_dict
  | exact kit_dict_bool
  | exact kit_dict_int
  | exact kit_dict_str
  | exact kit_dict_list
  | exact kit_dict_tuple
  | exact kit_dict_dict)
local macro_rules | `(tactic| walk_at "y1") => `(tactic| first
  | with_reducible apply s_seq
  | with_reducible apply s_asg
  | ((with_reducible apply s_var); (first | exact rfl | assumption))
  | with_reducible apply s_c
  | with_reducible apply s_op
  | with_reducible apply s_gname
  | with_reducible apply s_cons
  | with_reducible apply s_nil
  | with_reducible apply s_cb
  | with_reducible apply s_if
  | with_reducible apply s_test
  | with_reducible apply s_bl
  | with_reducible apply s_trubl
  | with_reducible apply s_tru
  | with_reducible apply s_and
  | with_reducible apply s_or
  | with_reducible apply s_not
  | with_reducible apply s_andV
  | with_reducible apply s_orV
  | with_reducible apply s_notV
  | with_reducible apply s_ifE
  | with_reducible apply s_true
  | with_reducible apply s_false
  | with_reducible apply s_nfalse
  | with_reducible apply s_ntrue
  | with_reducible apply s_drop
  | with_reducible apply s_ret
  | with_reducible apply s_retN
  | with_reducible apply s_next
  | with_reducible apply s_add
  | with_reducible apply s_sub
  | ((with_reducible apply s_mul); (walk_at "cmul"))
  | ((with_reducible apply s_fdiv); (exact ⟨by decide, by decide⟩))
  | ((with_reducible apply s_mod); (first | decide | omega))
  | ((with_reducible apply s_pow); (exact ⟨by decide, by decide, by decide⟩))
  | with_reducible apply s_neg
  | with_reducible apply s_lt
  | with_reducible apply s_le
  | with_reducible apply s_gt
  | with_reducible apply s_ge
  | with_reducible apply s_isN_non
  | with_reducible apply s_isN_int
  | with_reducible apply s_isN_str
  | with_reducible apply s_isN_ref
  | with_reducible apply s_notN_non
  | with_reducible apply s_notN_int
  | with_reducible apply s_notN_str
  | with_reducible apply s_notN_ref
  | with_reducible apply s_abs
  | with_reducible apply s_max2
  | with_reducible apply s_min2
  | with_reducible apply s_int1
  | with_reducible apply s_eqI
  | with_reducible apply s_eqNI
  | with_reducible apply s_neI
  | with_reducible apply s_eqS
  | with_reducible apply s_call
  | with_reducible apply s_mklst
  | with_reducible apply s_mktup
  | with_reducible apply s_bmL
  | with_reducible apply s_iRng1
  | with_reducible apply s_iRng2
  | with_reducible apply s_iEnum
  | with_reducible apply s_iter
  | with_reducible apply s_turn
  | with_reducible apply s_tyes
  | ((with_reducible refine' s_wipe ?yw ?yk); (case yw => exact rfl))
  | with_reducible apply s_gsub
  | with_reducible apply s_gcons
  | with_reducible apply s_gnil
  | with_reducible apply s_sfld
  | with_reducible apply s_meth
  | with_reducible apply s_make
  | with_reducible apply s_disp
  | with_reducible apply s_pnil
  | with_reducible apply s_pcons
  | ((with_reducible refine' s_gtup ?yh ?yl ?yk); (case yh => walk_at "hp"); (case yl => exact rfl))
  | ((with_reducible refine' s_setL ?yh ?yj ?yk); (case yh => walk_at "hp"); (case yj => first | assumption | exact rfl))
  | ((with_reducible refine' s_setDS ?yh ?yl ?yk); (case yh => walk_at "hp"); (case yl => walk_at "len"))
  | ((with_reducible refine' s_setf ?yh ?yc ?yn ?yl ?yk); (case yh => walk_at "hp"); (case yc => walk_at "cf"); (case yn => walk_at "cf"); (case yl => walk_at "flen"))
  | ((with_reducible refine' s_recv ?yh ?yl ?yk); (case yh => walk_at "hp"); (case yl => exact rfl))
  | ((with_reducible refine' s_ixDS ?yh ?ya ?yk); (case yh => walk_at "hp"); (case ya => first | assumption | exact rfl))
  | ((with_reducible refine' s_tyL ?yh ?yk); (case yh => walk_at "hp"))
  | ((with_reducible refine' s_append ?yh ?yl ?yk); (case yh => walk_at "hp"); (case yl => walk_at "len"))
  | ((with_reducible refine' s_lenL ?yh ?yk); (case yh => walk_at "hp"))
  | ((with_reducible refine' s_lenLs ?yh ?yk); (case yh => assumption))
  | ((with_reducible refine' s_lenT ?yh ?yk); (case yh => walk_at "hp"))
  | ((with_reducible refine' s_lenTs ?yh ?yk); (case yh => assumption))
  | ((with_reducible refine' s_lenE ?yh ?yk); (case yh => assumption))
  | ((with_reducible refine' s_ixE ?yh ?ya ?yk); (case yh => assumption); (case ya => first | assumption | exact rfl))
  | ((with_reducible refine' s_ixTs ?yh ?ya ?yk); (case yh => assumption); (case ya => first | assumption | exact rfl))
  | ((with_reducible refine' s_isi ?yt ?yb ?yk); (case yt => walk_at "ty"); (case yb => walk_at "kit"))
  | ((with_reducible refine' s_listof ?yh ?yk); (case yh => walk_at "hp"))
  | ((with_reducible refine' s_ixL ?yh ?ya ?yk); (case yh => walk_at "hp"); (case ya => first | assumption | exact rfl))
  | ((with_reducible refine' s_ixT ?yh ?ya ?yk); (case yh => walk_at "hp"); (case ya => first | assumption | exact rfl))
  | ((with_reducible refine' s_ixLs ?yh ?ya ?yk); (case yh => assumption); (case ya => first | assumption | exact rfl))
  | ((with_reducible refine' s_itrL ?yh ?yk); (case yh => walk_at "hp"))
  | ((with_reducible refine' s_itrLs ?yh ?yk); (case yh => assumption))
  | ((with_reducible refine' s_itrT ?yh ?yk); (case yh => walk_at "hp"))
  | ((with_reducible refine' s_enumL ?yh ?yk); (case yh => walk_at "hp"))
  | ((with_reducible refine' s_fldv ?yv ?yh ?yc ?yn ?yl ?yk); (case yv => exact rfl); (case yh => walk_at "hp"); (case yc => walk_at "cf"); (case yn => walk_at "cf"); (case yl => exact rfl)))
local macro_rules | `(tactic| walk_at "yl") => `(tactic| first
  | with_reducible apply s_for
  | with_reducible apply s_lc)
local macro_rules | `(tactic| walk_at "ys") => `(tactic| repeat walk_at "y1")
local macro_rules | `(tactic| walk_at "y") => `(tactic| repeat (first | walk_at "y1" | walk_at "yl"))

local macro_rules | `(tactic| walk_at "cf") => `(tactic| first | exact ClsFacts.cl (by assumption) | exact ClsFacts.nc (by assumption) | exact ClsFacts.ni (by assumption) | exact ClsFacts.no (by assumption))
section
variable {K : PySem.W.Frag} {C : Addr} {vs : List V} {H H' : Hp} {Q : VK} {E : XK} {n : Nat}
theorem PAt.fr {A : LA} {B : BA} {L : List Rw} {m : Nat} {F : List Addr} (h : PAt C H A B L m) (f : Fr F H H') (nt : NT F H) (hx : A.x ∉ F) (ho : ∀ a ∈ own2 A B, a ∉ F) : PAt C H' A B L m :=
  ⟨h.lin.fr f nt hx fun a ha => ho a (by simp [own2, ha]), h.bk.fr f nt (ho _ (by simp [own2])) (ho _ (by simp [own2])), h.nd, h.ok⟩
theorem PAt.there {A : LA} {B : BA} {L : List Rw} {m : Nat} (h : PAt C H A B L m) : ∀ a ∈ own2 A B, (∃ xs, H a = some (.lst xs)) ∨ ∃ xs, H a = some (.dK xs) := fun a ha => by
  simp only [own2, List.mem_append, List.mem_cons, List.not_mem_nil, or_false] at ha
  rcases ha with ha | rfl | rfl
  · exact .inl (h.lin.lst a ha)
  · exact .inr ⟨_, h.bk.ob⟩
  · obtain ⟨vs, h1, _⟩ := h.bk.rs
    exact .inl ⟨_, h1⟩
theorem PAt.notin {A : LA} {B : BA} {L : List Rw} {m : Nat} (h : PAt C H A B L m) {x : Addr} {o : HO} (hx : H x = some o) (n1 : ∀ xs, o ≠ .lst xs) (n2 : ∀ xs, o ≠ .dK xs) : x ∉ own2 A B := fun hm => by
  rcases h.there x hm with ⟨xs, q⟩ | ⟨xs, q⟩
  · rw [hx] at q; exact n1 xs (Option.some.inj q)
  · rw [hx] at q; exact n2 xs (Option.some.inj q)
theorem PAt.tracked {A : LA} {B : BA} {L : List Rw} {m : Nat} (h : PAt C H A B L m) {x : Addr} (hx : H x = none) : x ∉ own2 A B := fun hm => by
  rcases h.there x hm with ⟨xs, q⟩ | ⟨xs, q⟩ <;> (rw [hx] at q; cases q)
/-- two lineages with their books -/
structure Wd (C : Addr) (H0 H : Hp) (A0 : LA) (B0 : BA) (L0 : List Rw) (m0 : Nat) (A1 : LA) (B1 : BA) (L1 : List Rw) (m1 : Nat) (ll bl pf : Addr) (fs : List Int) : Prop where
  s : Same H0 H
  p0 : PAt C H A0 B0 L0 m0
  p1 : PAt C H A1 B1 L1 m1
  hl : H ll = some (.lst [.ref A0.x, .ref A1.x])
  hb : H bl = some (.lst [.ref B0.b, .ref B1.b])
  hf : H pf = some (.lst (fs.map V.int))
  dj : ∀ x ∈ own2 A0 B0, x ∉ own2 A1 B1
  f0 : ∀ x ∈ own2 A0 B0, H0 x = none
  f1 : ∀ x ∈ own2 A1 B1, H0 x = none
  n0 : ll ∉ own2 A0 B0 ∧ bl ∉ own2 A0 B0 ∧ pf ∉ own2 A0 B0
  n1 : ll ∉ own2 A1 B1 ∧ bl ∉ own2 A1 B1 ∧ pf ∉ own2 A1 B1
def WE (C : Addr) (H0 H : Hp) (ll bl pf : Addr) (fs : List Int) (cnt : Nat) : Prop := ∃ A0 B0 L0 m0 A1 B1 L1 m1, Wd C H0 H A0 B0 L0 m0 A1 B1 L1 m1 ll bl pf fs ∧ L0.length ≤ cnt ∧ L1.length ≤ cnt ∧ m0 ≤ cnt ∧ m1 ≤ cnt
section
variable {H0 : Hp} {A0 A1 : LA} {B0 B1 : BA} {L0 L1 : List Rw} {m0 m1 : Nat} {ll bl pf a : Addr} {fs : List Int}
theorem Wd.same (w : Wd C H0 H A0 B0 L0 m0 A1 B1 L1 m1 ll bl pf fs) (s : Same H H') : Wd C H0 H' A0 B0 L0 m0 A1 B1 L1 m1 ll bl pf fs :=
  ⟨w.s.trans s, w.p0.same s, w.p1.same s, s _ _ w.hl, s _ _ w.hb, s _ _ w.hf, w.dj, w.f0, w.f1, w.n0, w.n1⟩
theorem WE.same {cnt : Nat} (w : WE C H0 H ll bl pf fs cnt) (s : Same H H') : WE C H0 H' ll bl pf fs cnt := by
  obtain ⟨A0, B0, L0, m0, A1, B1, L1, m1, w, h⟩ := w
  exact ⟨A0, B0, L0, m0, A1, B1, L1, m1, w.same s, h⟩
theorem WE.mono {cnt cnt' : Nat} (w : WE C H0 H ll bl pf fs cnt) (h : cnt ≤ cnt') : WE C H0 H ll bl pf fs cnt' := by
  obtain ⟨A0, B0, L0, m0, A1, B1, L1, m1, w, h1, h2, h3, h4⟩ := w
  exact ⟨A0, B0, L0, m0, A1, B1, L1, m1, w, by omega, by omega, by omega, by omega⟩
theorem same_of_fr {F : List Addr} (s : Same H0 H) (f : Fr F H H') (h : ∀ x ∈ F, H0 x = none) : Same H0 H' := fun b o hb => f b o (s b o hb) fun hm => by rw [h b hm] at hb; cases hb
theorem Wd.step0 {A0' : LA} {L0' : List Rw} {m0' : Nat} (w : Wd C H0 H A0 B0 L0 m0 A1 B1 L1 m1 ll bl pf fs) (p : PAt C H' A0' B0 L0' m0') (ex : A0'.x = A0.x) (f : Fr (own2 A0 B0) H H') (ho : ∀ a ∈ own2 A0' B0, a ∈ own2 A0 B0 ∨ H a = none) :
    Wd C H0 H' A0' B0 L0' m0' A1 B1 L1 m1 ll bl pf fs := by
  have dj' : ∀ x ∈ own2 A1 B1, x ∉ own2 A0 B0 := fun x h1 h0 => w.dj x h0 h1
  have nn : ∀ x, (∃ o, H x = some o) → x ∉ own2 A0 B0 → x ∉ own2 A0' B0 := fun x ⟨o, hx⟩ hn hm => by
    rcases ho x hm with q | q
    · exact hn q
    · rw [hx] at q; cases q
  refine ⟨same_of_fr w.s f w.f0, p, w.p1.fr f w.p0.nt ?_ dj', ?_, f _ _ w.hb w.n0.2.1, f _ _ w.hf w.n0.2.2, ?_, ?_, w.f1, ⟨nn _ ⟨_, w.hl⟩ w.n0.1, nn _ ⟨_, w.hb⟩ w.n0.2.1, nn _ ⟨_, w.hf⟩ w.n0.2.2⟩, w.n1⟩
  · exact w.p0.notin w.p1.lin.ob (by intro xs h; cases h) (by intro xs h; cases h)
  · rw [ex]; exact f _ _ w.hl w.n0.1
  · intro x hx h1
    rcases ho x hx with q | q
    · exact w.dj x q h1
    · exact w.p1.tracked q h1
  · intro x hx
    rcases ho x hx with q | q
    · exact w.f0 x q
    · exact w.s.free q
theorem Wd.step1 {A1' : LA} {L1' : List Rw} {m1' : Nat} (w : Wd C H0 H A0 B0 L0 m0 A1 B1 L1 m1 ll bl pf fs) (p : PAt C H' A1' B1 L1' m1') (ex : A1'.x = A1.x) (f : Fr (own2 A1 B1) H H') (ho : ∀ a ∈ own2 A1' B1, a ∈ own2 A1 B1 ∨ H a = none) :
    Wd C H0 H' A0 B0 L0 m0 A1' B1 L1' m1' ll bl pf fs := by
  have nn : ∀ x, (∃ o, H x = some o) → x ∉ own2 A1 B1 → x ∉ own2 A1' B1 := fun x ⟨o, hx⟩ hn hm => by
    rcases ho x hm with q | q
    · exact hn q
    · rw [hx] at q; cases q
  refine ⟨same_of_fr w.s f w.f1, w.p0.fr f w.p1.nt ?_ w.dj, p, ?_, f _ _ w.hb w.n1.2.1, f _ _ w.hf w.n1.2.2, ?_, w.f0, ?_, w.n0, ⟨nn _ ⟨_, w.hl⟩ w.n1.1, nn _ ⟨_, w.hb⟩ w.n1.2.1, nn _ ⟨_, w.hf⟩ w.n1.2.2⟩⟩
  · exact w.p1.notin w.p0.lin.ob (by intro xs h; cases h) (by intro xs h; cases h)
  · rw [ex]; exact f _ _ w.hl w.n1.1
  · intro x hx h1
    rcases ho x h1 with q | q
    · exact w.dj x hx q
    · exact w.p0.tracked q hx
  · intro x hx
    rcases ho x hx with q | q
    · exact w.f1 x q
    · exact w.s.free q
/-- the lineage and the book at j -/
theorem WE.pick {cnt : Nat} {j : Int} (w : WE C H0 H ll bl pf fs cnt) (hc : cnt ≤ 900) (hj : j = 0 ∨ j = 1) :
    ∃ x b xs ys, H ll = some (.lst xs) ∧ H bl = some (.lst ys) ∧ atI xs j = some (.ref x) ∧ atI ys j = some (.ref b) ∧
      (∀ H2 a (Q : VK) (E : XK), Same H H2 → Ten H2 a → (∀ H', WE C H0 H' ll bl pf fs (cnt + 1) → Q (.bl true) H') → sp_call K C [.ref x, .ref b, .ref a] H2 Q E) ∧
      ∀ H2 (Q : VK) (E : XK), Same H H2 → (∀ H', Same H2 H' → Q (.bl true) H') → sp_due K C [.ref x, .ref b] H2 Q E := by
  obtain ⟨A0, B0, L0, m0, A1, B1, L1, m1, w, h1, h2, h3, h4⟩ := w
  rcases hj with rfl | rfl
  · refine ⟨_, _, _, _, w.hl, w.hb, rfl, rfl, fun H2 a Q E s hT k => ?_, fun H2 Q E s k => ?_⟩
    · have w := w.same s
      exact ⟨A0, B0, L0, m0, a, rfl, w.p0, hT, by omega, by omega, fun A' L' m' H' p ex q1 q2 f ho => k H' ⟨A', B0, L', m', A1, B1, L1, m1, w.step0 p ex f ho, by omega, by omega, by omega, by omega⟩⟩
    · have w := w.same s
      exact ⟨A0, B0, L0, m0, rfl, w.p0, by omega, by omega, k⟩
  · refine ⟨_, _, _, _, w.hl, w.hb, rfl, rfl, fun H2 a Q E s hT k => ?_, fun H2 Q E s k => ?_⟩
    · have w := w.same s
      exact ⟨A1, B1, L1, m1, a, rfl, w.p1, hT, by omega, by omega, fun A' L' m' H' p ex q1 q2 f ho => k H' ⟨A0, B0, L0, m0, A', B1, L', m', w.step1 p ex f ho, by omega, by omega, by omega, by omega⟩⟩
    · have w := w.same s
      exact ⟨A1, B1, L1, m1, rfl, w.p1, by omega, by omega, k⟩
theorem WE.first {cnt : Nat} (w : WE C H0 H ll bl pf fs cnt) : H pf = some (.lst (fs.map V.int)) := by
  obtain ⟨A0, B0, L0, m0, A1, B1, L1, m1, w, _⟩ := w
  exact w.hf
theorem WE.s {cnt : Nat} (w : WE C H0 H ll bl pf fs cnt) : Same H0 H := by
  obtain ⟨A0, B0, L0, m0, A1, B1, L1, m1, w, _⟩ := w
  exact w.s
theorem WE.rows {cnt : Nat} (w : WE C H0 H ll bl pf fs cnt) : ∃ b0 b1 r0 r1 : Addr, ∃ n0 n1 : Nat, ∃ w0 w1, H bl = some (.lst [.ref b0, .ref b1]) ∧ H b0 = some (.dK [(kRows, .ref r0), (kMany, .int n0)]) ∧ H b1 = some (.dK [(kRows, .ref r1), (kMany, .int n1)]) ∧ H r0 = some (.lst w0) ∧ H r1 = some (.lst w1) := by
  obtain ⟨A0, B0, L0, m0, A1, B1, L1, m1, w, _⟩ := w
  obtain ⟨w0, g0, _⟩ := w.p0.bk.rs
  obtain ⟨w1, g1, _⟩ := w.p1.bk.rs
  exact ⟨_, _, _, _, _, _, w0, w1, w.hb, w.p0.bk.ob, w.p1.bk.ob, g0, g1⟩
end
theorem dues_ok {H0 : Hp} {ll bl pf a : Addr} {fs : List Int} {cnt : Nat} {x4 x5 x6 x7 : Option V} {D : Ends} (w : WE C H0 H ll bl pf fs cnt) (hc : cnt ≤ 900) (k : ∀ H', WE C H0 H' ll bl pf fs cnt → D.nx [some (.ref a), some (.ref pf), some (.ref ll), some (.ref bl), x4, x5, x6, x7] H') :
    (tIfS (tOr (tNot (tTru K (tCall (sp_due K C) [] E0 (tCons (tOp (rdIx K) (tVar 2) (tC (.int 0))) (tCons (tOp (rdIx K) (tVar 3) (tC (.int 0))) tNil))))) (tNot (tTru K (tCall (sp_due K C) [] E0 (tCons (tOp (rdIx K) (tVar 2) (tC (.int 1))) (tCons (tOp (rdIx K) (tVar 3) (tC (.int 1))) tNil)))))) (tRet (tC (.bl false))) tNext) D [some (.ref a), some (.ref pf), some (.ref ll), some (.ref bl), x4, x5, x6, x7] H := by
  obtain ⟨x, b, xs, ys, e1, e2, e3, e4, _, e6⟩ := w.pick (K := K) (j := 0) hc (.inl rfl)
  walk_at "y"
  refine e6 _ _ _ (Same.refl _) fun H1 s1 => ?_
  have w1 := w.same s1
  clear e1 e2 e3 e4 e6
  obtain ⟨x, b, xs, ys, e1, e2, e3, e4, _, e6⟩ := w1.pick (K := K) (j := 1) hc (.inr rfl)
  walk_at "y"
  refine e6 _ _ _ (Same.refl _) fun H2 s2 => ?_
  walk_at "y"
  exact k _ (w1.same s2)
theorem same_made {x dx : Addr} {o o' : HO} (hx : H x = none) (hd : H dx = none) (f : Fr [x] (upd (upd H dx o) x o') H') : Same H H' := fun b u hb => by
  have h1 : b ≠ x := ne_of_none hb hx
  have h2 : b ≠ dx := ne_of_none hb hd
  exact f b u (by rw [upd_ne h1, upd_ne h2]; exact hb) (by simpa using h1)
theorem p_law (T : ClsFacts K C) (h : sp_law K C vs H Q E) : rd_law K C { nx := fun _ H' => Q .non H', rt := Q } (start ["script", "first", "lineages", "books", "at", "k", "n", "turn"] vs) H := by
  obtain ⟨a, ns, rfl, hO, hS, hlen, k⟩ := h
  unfold rd_law
  walk_at "y"
  refine ⟨a, ns, 0, rfl, hS, fun c => ?_⟩
  walk_at "y"
  refine ⟨c, 4, rfl, by decide, fun pf fs hpf hfl hfs => ?_⟩
  have s1 : Same H (upd H pf (.lst (fs.map V.int))) := Same.new hpf
  have f1 : (upd H pf (.lst (fs.map V.int))) pf = some (.lst (fs.map V.int)) := upd_same
  generalize upd H pf (HO.lst (fs.map V.int)) = H1 at *
  walk_at "y"
  intro x0 dx0 hx0 hdx0 hne0
  refine ⟨x0, dx0, rfl, upd_same, fun A0 H2 l0 ex0 fr0 fr0' => ⟨rfl, ?_⟩⟩
  have o0 : ∀ x ∈ A0.own, H1 x = none := fun x hx => none_upd (none_upd (fr0 x hx))
  have s2 : Same H1 H2 := same_made hx0 hdx0 fr0'
  clear fr0 fr0'
  walk_at "y"
  intro x1 dx1 hx1 hdx1 hne1
  refine ⟨x1, dx1, rfl, upd_same, fun A1 H3 l1 ex1 fr1 fr1' => ⟨rfl, ?_⟩⟩
  have o1 : ∀ x ∈ A1.own, H2 x = none := fun x hx => none_upd (none_upd (fr1 x hx))
  have s3 : Same H2 H3 := same_made hx1 hdx1 fr1'
  clear fr1 fr1'
  have l0' := l0.same s3
  rw [← ex0, ← ex1]
  walk_at "y"
  refine ⟨by (show 2 ≤ 16777216; decide), fun ll hll => ?_⟩
  have s4 : Same H3 (upd H3 ll (.lst [.ref A0.x, .ref A1.x])) := Same.new hll
  have f4 : (upd H3 ll (.lst [.ref A0.x, .ref A1.x])) ll = some (.lst [.ref A0.x, .ref A1.x]) := upd_same
  generalize upd H3 ll (HO.lst [V.ref A0.x, V.ref A1.x]) = H4 at *
  walk_at "y"
  intro b0 hb0
  walk_at "y"
  refine ⟨Nat.zero_le _, fun r0 hr0 => ?_⟩
  have br0 : b0 ≠ r0 := ne_of_none upd_same hr0
  have hr0' : H4 r0 = none := none_upd hr0
  walk_at "y"
  refine ⟨by rw [upd_ne br0, upd_same], [(kRows, .ref r0), (kMany, .int 0)], rfl, by (show 2 ≤ 15; decide), ?_⟩
  have s5 : Same H4 (upd (upd (upd H4 b0 (.dK [])) r0 (.lst [])) b0 (.dK [(kRows, .ref r0), (kMany, .int 0)])) := Same.upd (Same.upd (Same.new hb0) hr0') hb0
  have k0 : BkAt (upd (upd (upd H4 b0 (.dK [])) r0 (.lst [])) b0 (.dK [(kRows, .ref r0), (kMany, .int 0)])) ⟨b0, r0⟩ [] 0 := ⟨upd_same, [], by rw [upd_ne br0.symm, upd_same], .nil⟩
  have em : ∀ r, mergeK [] [(kRows, V.ref r), (kMany, V.int 0)] = [(kRows, V.ref r), (kMany, V.int 0)] := fun _ => rfl
  rw [em]
  generalize upd (upd (upd H4 b0 (HO.dK [])) r0 (HO.lst [])) b0 (HO.dK [(kRows, V.ref r0), (kMany, V.int 0)]) = H5 at *
  walk_at "y"
  intro b1 hb1
  walk_at "y"
  refine ⟨Nat.zero_le _, fun r1 hr1 => ?_⟩
  have br1 : b1 ≠ r1 := ne_of_none upd_same hr1
  have hr1' : H5 r1 = none := none_upd hr1
  walk_at "y"
  refine ⟨by rw [upd_ne br1, upd_same], [(kRows, .ref r1), (kMany, .int 0)], rfl, by (show 2 ≤ 15; decide), ?_⟩
  have s6 : Same H5 (upd (upd (upd H5 b1 (.dK [])) r1 (.lst [])) b1 (.dK [(kRows, .ref r1), (kMany, .int 0)])) := Same.upd (Same.upd (Same.new hb1) hr1') hb1
  have k1 : BkAt (upd (upd (upd H5 b1 (.dK [])) r1 (.lst [])) b1 (.dK [(kRows, .ref r1), (kMany, .int 0)])) ⟨b1, r1⟩ [] 0 := ⟨upd_same, [], by rw [upd_ne br1.symm, upd_same], .nil⟩
  rw [em]
  generalize upd (upd (upd H5 b1 (HO.dK [])) r1 (HO.lst [])) b1 (HO.dK [(kRows, V.ref r1), (kMany, V.int 0)]) = H6 at *
  walk_at "y"
  refine ⟨by (show 2 ≤ 16777216; decide), fun bl hbl => ?_⟩
  have s7 : Same H6 (upd H6 bl (.lst [.ref b0, .ref b1])) := Same.new hbl
  have f7 : (upd H6 bl (.lst [.ref b0, .ref b1])) bl = some (.lst [.ref b0, .ref b1]) := upd_same
  generalize upd H6 bl (HO.lst [V.ref b0, V.ref b1]) = H7 at *
  have W : WE C H H7 ll bl pf fs 0 := by
    have t0 : ∀ x ∈ A0.own, ∃ o, H2 x = some o := fun x hx => by
      obtain ⟨xs, q⟩ := l0.lst x hx
      exact ⟨_, q⟩
    have t1 : ∀ x ∈ A1.own, ∃ o, H3 x = some o := fun x hx => by
      obtain ⟨xs, q⟩ := l1.lst x hx
      exact ⟨_, q⟩
    have ap : ∀ {Ha Hb : Hp} {x y : Addr}, (∃ o, Ha x = some o) → Same Ha Hb → Hb y = none → x ≠ y := fun ⟨o, h1⟩ s h2 => ne_of_none (s _ _ h1) h2
    have s34 := s3.trans s4
    have s35 := s4.trans s5
    have b0t : ∃ o, H5 b0 = some o := ⟨_, k0.ob⟩
    have r0t : ∃ o, H5 r0 = some o := by
      obtain ⟨vs, h, _⟩ := k0.rs
      exact ⟨_, h⟩
    have b1t : ∃ o, H6 b1 = some o := ⟨_, k1.ob⟩
    have r1t : ∃ o, H6 r1 = some o := by
      obtain ⟨vs, h, _⟩ := k1.rs
      exact ⟨_, h⟩
    have s25 : Same H2 H5 := s34.trans s5
    have s36 : Same H3 H6 := s35.trans s6
    have s57 : Same H5 H7 := s6.trans s7
    have l07 : LinAt C H7 A0 [] 0 := l0.same (s25.trans s57)
    have l17 : LinAt C H7 A1 [] 0 := l1.same (s36.trans s7)
    have bk0 := k0.same s57
    have bk1 := k1.same s7
    have n00 : ∀ x ∈ A0.own, x ≠ b0 ∧ x ≠ r0 ∧ x ≠ b1 ∧ x ≠ r1 ∧ x ≠ ll ∧ x ≠ bl := fun x hx => ⟨ap (t0 x hx) s34 hb0, ap (t0 x hx) s34 hr0', ap (t0 x hx) s25 hb1, ap (t0 x hx) s25 hr1', ap (t0 x hx) s3 hll, ap (t0 x hx) (s25.trans s6) hbl⟩
    have n11 : ∀ x ∈ A1.own, x ≠ b0 ∧ x ≠ r0 ∧ x ≠ b1 ∧ x ≠ r1 ∧ x ≠ ll ∧ x ≠ bl := fun x hx => ⟨ap (t1 x hx) s4 hb0, ap (t1 x hx) s4 hr0', ap (t1 x hx) s35 hb1, ap (t1 x hx) s35 hr1', ap (t1 x hx) (Same.refl _) hll, ap (t1 x hx) s36 hbl⟩
    have n01 : ∀ x ∈ A0.own, x ∉ A1.own := fun x hx h1 => ap (t0 x hx) (Same.refl _) (o1 x h1) rfl
    have e1 : b0 ≠ b1 := ap b0t (Same.refl _) hb1
    have e2 : b0 ≠ r1 := ap b0t (Same.refl _) hr1'
    have e3 : r0 ≠ b1 := ap r0t (Same.refl _) hb1
    have e4 : r0 ≠ r1 := ap r0t (Same.refl _) hr1'
    have llt : ∃ o, H4 ll = some o := ⟨_, f4⟩
    have pft : ∃ o, H1 pf = some o := ⟨_, f1⟩
    have s13 : Same H1 H3 := s2.trans s3
    have s14 : Same H1 H4 := s13.trans s4
    have q1 : ll ≠ b0 := ap llt (Same.refl _) hb0
    have q2 : ll ≠ r0 := ap llt (Same.refl _) hr0'
    have q3 : ll ≠ b1 := ap llt s5 hb1
    have q4 : ll ≠ r1 := ap llt s5 hr1'
    have q5 : bl ≠ b0 := (ap b0t s6 hbl).symm
    have q6 : bl ≠ r0 := (ap r0t s6 hbl).symm
    have q7 : bl ≠ b1 := (ap b1t (Same.refl _) hbl).symm
    have q8 : bl ≠ r1 := (ap r1t (Same.refl _) hbl).symm
    have q9 : pf ≠ b0 := ap pft s14 hb0
    have q10 : pf ≠ r0 := ap pft s14 hr0'
    have q11 : pf ≠ b1 := ap pft (s14.trans s5) hb1
    have q12 : pf ≠ r1 := ap pft (s14.trans s5) hr1'
    have z4 : Same H H4 := s1.trans s14
    have z5 : Same H H5 := z4.trans s5
    refine ⟨A0, ⟨b0, r0⟩, [], 0, A1, ⟨b1, r1⟩, [], 0, ⟨z5.trans s57, ⟨l07, bk0, ?_, fun r hr => by cases hr⟩, ⟨l17, bk1, ?_, fun r hr => by cases hr⟩, (s5.trans s57) _ _ f4, f7, ((s14.trans s5).trans s57) _ _ f1, ?_, ?_, ?_, ?_, ?_⟩, Nat.le_refl _, Nat.le_refl _, Nat.le_refl _, Nat.le_refl _⟩
    · rw [own2, List.nodup_append]
      refine ⟨l0.nd, by simp [br0], fun x hx y hy => ?_⟩
      simp at hy
      rcases hy with rfl | rfl
      · exact (n00 x hx).1
      · exact (n00 x hx).2.1
    · rw [own2, List.nodup_append]
      refine ⟨l1.nd, by simp [br1], fun x hx y hy => ?_⟩
      simp at hy
      rcases hy with rfl | rfl
      · exact (n11 x hx).2.2.1
      · exact (n11 x hx).2.2.2.1
    · intro x hx h1
      simp only [own2, List.mem_append, List.mem_cons, List.not_mem_nil, or_false] at hx h1
      rcases hx with hx | rfl | rfl
      · rcases h1 with h1 | h1 | h1
        · exact n01 x hx h1
        · exact (n00 x hx).2.2.1 h1
        · exact (n00 x hx).2.2.2.1 h1
      · rcases h1 with h1 | h1 | h1
        · exact (n11 _ h1).1 rfl
        · exact e1 h1
        · exact e2 h1
      · rcases h1 with h1 | h1 | h1
        · exact (n11 _ h1).2.1 rfl
        · exact e3 h1
        · exact e4 h1
    · intro x hx
      simp only [own2, List.mem_append, List.mem_cons, List.not_mem_nil, or_false] at hx
      rcases hx with hx | rfl | rfl
      · exact s1.free (o0 x hx)
      · exact z4.free hb0
      · exact z4.free hr0'
    · intro x hx
      simp only [own2, List.mem_append, List.mem_cons, List.not_mem_nil, or_false] at hx
      rcases hx with hx | rfl | rfl
      · exact (s1.trans s2).free (o1 x hx)
      · exact z5.free hb1
      · exact z5.free hr1'
    · simp only [own2, List.mem_append, List.mem_cons, List.not_mem_nil, or_false, not_or]
      exact ⟨⟨fun h => (n00 _ h).2.2.2.2.1 rfl, q1, q2⟩, ⟨fun h => (n00 _ h).2.2.2.2.2 rfl, q5, q6⟩, fun h => ap pft (Same.refl _) (o0 _ h) rfl, q9, q10⟩
    · simp only [own2, List.mem_append, List.mem_cons, List.not_mem_nil, or_false, not_or]
      exact ⟨⟨fun h => (n11 _ h).2.2.2.2.1 rfl, q3, q4⟩, ⟨fun h => (n11 _ h).2.2.2.2.2 rfl, q7, q8⟩, fun h => ap pft s2 (o1 _ h) rfl, q11, q12⟩
  clear k0 k1 s2 s3 s4 s5 s6 s7 l0 l1 l0' o0 o1 f1 f4 f7
  obtain ⟨f0, f1, f2, f3, rfl⟩ : ∃ f0 f1 f2 f3, fs = [f0, f1, f2, f3] := by
    match fs, hfl with
    | [a, b, c, d], _ => exact ⟨a, b, c, d, rfl⟩
  have hf := W.first
  simp only [List.map] at hf
  have b3 := hfs f3 (by simp)
  have b2 := hfs f2 (by simp)
  walk_at "y"
  -- behind the first loop
  have tail : ∀ (σ : L2.St) (x4 x5 : Option V) (H8 : Hp), WE C H H8 ll bl pf [f0, f1, f2, f3] 251 → σ = [some (.ref a), some (.ref pf), some (.ref ll), some (.ref bl), x4, x5, none, none] →
      (tSeq (tFor (iRng2 (tCons (tC (.int 1)) (tCons (tCB r_min2 (tCons (tC (.int 62)) (tCons (tCB r_max2 (tCons (tC (.int 4)) (tCons (tCB (rdLen K) (tCons (tVar 0) tNil)) tNil))) tNil))) tNil))) (gName 5) (tSeq (tAsg (tCall (sp_draw K) [] E0 (tCons (tVar 0) (tCons (tVar 5) (tCons (tC (.int 10)) tNil)))) (gName 6))
    (tSeq (tAsg (tOp r_mod (tOp (rdIx K) (tVar 6) (tC (.int 0))) (tC (.int 2))) (gName 4))
    (tSeq (tIfS (tNot (tTru K (tCall (sp_call K C) [] E0 (tCons (tOp (rdIx K) (tVar 2) (tVar 4)) (tCons (tOp (rdIx K) (tVar 3) (tVar 4)) (tCons (tVar 6) tNil)))))) (tRet (tC (.bl false))) tNext)
    (tIfS (tAnd (tTest (tOp (rdEq K) (tOp r_mod (tVar 5) (tC (.int 4))) (tC (.int 0)))) (tTest (tOp r_lt (tOp r_add (tCB (rdLen K) (tCons (tOp (rdIx K) (tOp (rdIx K) (tVar 3) (tC (.int 0))) (tC (.str "rows"))) tNil)) (tCB (rdLen K) (tCons (tOp (rdIx K) (tOp (rdIx K) (tVar 3) (tC (.int 1))) (tC (.str "rows"))) tNil))) (tC (.int 80))))) (tIfS (tOr (tNot (tTru K (tCall (sp_due K C) [] E0 (tCons (tOp (rdIx K) (tVar 2) (tC (.int 0))) (tCons (tOp (rdIx K) (tVar 3) (tC (.int 0))) tNil))))) (tNot (tTru K (tCall (sp_due K C) [] E0 (tCons (tOp (rdIx K) (tVar 2) (tC (.int 1))) (tCons (tOp (rdIx K) (tVar 3) (tC (.int 1))) tNil)))))) (tRet (tC (.bl false))) tNext) tNext)))))
    (tSeq (tFor (iRng1 (tCons (tC (.int 2)) tNil)) (gName 7) (tIfS (tOr (tNot (tTru K (tCall (sp_due K C) [] E0 (tCons (tOp (rdIx K) (tVar 2) (tC (.int 0))) (tCons (tOp (rdIx K) (tVar 3) (tC (.int 0))) tNil))))) (tNot (tTru K (tCall (sp_due K C) [] E0 (tCons (tOp (rdIx K) (tVar 2) (tC (.int 1))) (tCons (tOp (rdIx K) (tVar 3) (tC (.int 1))) tNil)))))) (tRet (tC (.bl false))) tNext))
    (tRet (tC (.bl true))))) { nx := fun _ H' => Q .non H', rt := Q } σ H8 := by
    rintro σ x4 x5 H8 W8 rfl
    have hS8 := Same.seq W8.s hS
    walk_at "y"
    have hb : ∀ t : Int, (if (if ((ns.map V.int).length : Int) > 4 then ((ns.map V.int).length : Int) else 4) < 62 then (if ((ns.map V.int).length : Int) > 4 then ((ns.map V.int).length : Int) else 4) else 62) = t → 4 ≤ t ∧ t ≤ 62 := fun t e => by
      subst e
      split
      · split <;> omega
      · omega
    generalize (if (if ((ns.map V.int).length : Int) > 4 then ((ns.map V.int).length : Int) else 4) < 62 then (if ((ns.map V.int).length : Int) > 4 then ((ns.map V.int).length : Int) else 4) else 62) = t at *
    have hb := hb t rfl
    refine s_rng2 (by omega) ?_
    refine f_range (fun i σ H' => ∃ (x4 x5 x6 : Option V), σ = [some (.ref a), some (.ref pf), some (.ref ll), some (.ref bl), x4, x5, x6, none] ∧ WE C H H' ll bl pf [f0, f1, f2, f3] (251 + i)) ?_ ?_ ?_
    · exact ⟨_, _, _, rfl, W8⟩
    · rintro i σ H9 hi ⟨x4, x5, x6, rfl, W9⟩
      have hS9 := Same.seq W9.s hS
      have e1 : (1 : Int) + (i : Int) = ((1 + i : Nat) : Int) := by omega
      walk_at "y"
      rw [e1]
      refine ⟨a, ns, 1 + i, 10, rfl, hS9, by omega, by decide, fun q qs hq hql hqs => ?_⟩
      have W10 := W9.same (Same.new (o := .lst (qs.map V.int)) hq)
      have q10 : (upd H9 q (.lst (qs.map V.int))) q = some (.lst (qs.map V.int)) := upd_same
      have T10 : Ten (upd H9 q (.lst (qs.map V.int))) q := ⟨qs, upd_same, hql, hqs⟩
      obtain ⟨n0, n1, n2, n3, n4, n5, n6, n7, n8, n9, rfl⟩ := ten_lit hql
      simp only [List.map] at q10 W10 T10 ⊢
      generalize upd H9 q (HO.lst [V.int n0, V.int n1, V.int n2, V.int n3, V.int n4, V.int n5, V.int n6, V.int n7, V.int n8, V.int n9]) = H10 at *
      obtain ⟨x, b, xs, ys, g1, g2, g3, g4, g5, g6⟩ := W10.pick (K := K) (j := n0 % 2) (by omega) (by omega)
      walk_at "y"
      refine g5 _ q _ _ (Same.refl _) T10 fun H11 W11 => ?_
      walk_at "y"
      have dues := fun (Q : VK) (E : XK) (j : Int) (hj : j = 0 ∨ j = 1) => W11.pick (K := K) (j := j) (by omega) hj
      obtain ⟨b0, b1, r0, r1, _, _, w0, w1, y1, y2, y3, y4, y5⟩ := W11.rows
      refine s_dec (fun h1 => ?_) (fun h1 => ?_)
      · walk_at "y"
        refine s_dec (fun h2 => ?_) (fun h2 => ?_)
        · exact dues_ok W11 (by omega) fun H12 W12 => ⟨_, _, _, rfl, W12⟩
        · walk_at "y"
          exact ⟨_, _, _, rfl, W11⟩
      · walk_at "y"
        exact ⟨_, _, _, rfl, W11⟩
    · rintro σ H9 ⟨x4, x5, x6, rfl, W9⟩
      walk_at "y"
      refine s_rng1 (by decide) (by decide) ?_
      refine f_range (fun i σ H' => ∃ (x7 : Option V), σ = [some (.ref a), some (.ref pf), some (.ref ll), some (.ref bl), x4, x5, x6, x7] ∧ WE C H H' ll bl pf [f0, f1, f2, f3] 400) ?_ ?_ ?_
      · exact ⟨_, rfl, W9.mono (by omega)⟩
      · rintro i σ H10 hi ⟨x7, rfl, W10⟩
        walk_at "y1"
        exact dues_ok W10 (by omega) fun H12 W12 => ⟨_, rfl, W12⟩
      · rintro σ H10 ⟨x7, rfl, W10⟩
        walk_at "y"
        exact k _
  refine s_dec (fun h1 => ?_) (fun h1 => ?_)
  · walk_at "y"
    refine s_rng1 (by omega) (by omega) ?_
    refine f_range (fun i σ H' => ∃ (x5 : Option V), σ = [some (.ref a), some (.ref pf), some (.ref ll), some (.ref bl), some (.int (f1 % 2)), x5, none, none] ∧ WE C H H' ll bl pf [f0, f1, f2, f3] i) ?_ ?_ ?_
    · exact ⟨none, rfl, W⟩
    · rintro i σ H8 hi ⟨x5, rfl, W8⟩
      have hf8 := W8.first
      simp only [List.map] at hf8
      obtain ⟨x, b, xs, ys, e1, e2, e3, e4, e5, e6⟩ := W8.pick (K := K) (j := f1 % 2) (by omega) (by omega)
      walk_at "y"
      refine ⟨_, 10, rfl, by decide, fun q qs hq hql hqs => ?_⟩
      walk_at "y"
      refine e5 _ q _ _ (Same.new hq) ⟨qs, upd_same, hql, hqs⟩ fun H9 W9 => ?_
      walk_at "y"
      exact ⟨_, rfl, W9⟩
    · rintro σ H8 ⟨x5, rfl, W8⟩
      walk_at "y1"
      exact tail _ _ _ _ (W8.mono (by omega)) rfl
  · walk_at "y1"
    walk_at "y1"
    exact tail _ _ _ _ (W.mono (by omega)) rfl
end
end Z

namespace Z
open PySem PySem.Spec PyProof.Rows L2 Y
def top (i : Nat) : Stmt := PySem.Challenge.pw_oathcoin_k68_carriers.main.body.getD i (.Pass ⟨0, 0, 0, 0⟩)
structure Txt (mg : Str → Option Value) : Prop where
  len : mg "len" = none
  range : mg "range" = none
  enumerate : mg "enumerate" = none
  list : mg "list" = none
  tuple : mg "tuple" = none
  str : mg "str" = none
  int : mg "int" = none
  bool : mg "bool" = none
  abs : mg "abs" = none
  min : mg "min" = none
  max : mg "max" = none
  sorted : mg "sorted" = none
  isinstance : mg "isinstance" = none
abbrev s_init : Stmt := inClass (top 1) 0
abbrev s_station : Stmt := inClass (top 1) 1
abbrev s_put : Stmt := inClass (top 1) 2
abbrev s_enter : Stmt := inClass (top 1) 3
abbrev s_stations : Stmt := inClass (top 1) 4
abbrev s_carriers : Stmt := inClass (top 1) 5
abbrev s_carrier : Stmt := inClass (top 1) 6
abbrev s_entering : Stmt := inClass (top 1) 7
abbrev s_leaving : Stmt := inClass (top 1) 8
abbrev s_outside : Stmt := inClass (top 1) 9
abbrev s_present : Stmt := inClass (top 1) 10
abbrev s_cell : Stmt := top 3
abbrev s_numbers : Stmt := top 4
abbrev s_draw : Stmt := top 5
abbrev s_same : Stmt := top 6
abbrev s_name : Stmt := top 7
abbrev s_amount : Stmt := top 8
abbrev s_open : Stmt := top 9
abbrev s_add : Stmt := top 10
abbrev s_lenter : Stmt := top 11
abbrev s_call : Stmt := top 12
abbrev s_as_due : Stmt := top 13
abbrev s_law : Stmt := top 14
section
variable {P : Program} {w : World} {K : PySem.W.Frag} {mg : Str → Option Value} {base : Heap} {C : Addr}
theorem sc_init : FnScope ["self"] ["self"] (defScope s_init) := ⟨rfl, rfl, rfl, by decide +kernel, rfl, by decide +kernel, by decide +kernel⟩
theorem d_init  {f : Addr} {cdv : Value} {A : Around} {outer : List Env} {s : Shared} {H : Hp} {E : XK} (T : Txt mg) (hr : Room 0 (A.deeper (envOfC "Lineage.__init__" (defScope s_init) s.heap.objs.size f cdv))) :
    PSs (cxOf CX0 P w K mg base ["self"] "Lineage.__init__" (defScope s_init) f cdv A outer s H E).nox (defBody s_init) (rd_init K C) :=
  have hu := hu1 hr
  have hu64 := hu64 hr
  (pss_cons (ps_fld (pv 0) (pe_lst pa_nil) rfl)
      (pss_cons (ps_fld (pv 0) (pe_lst pa_nil) rfl)
      (pss_one (ps_fld (pv 0) (pe_lst pa_nil) rfl))))
theorem sc_station : FnScope ["self"] ["self"] (defScope s_station) := ⟨rfl, rfl, rfl, by decide +kernel, rfl, by decide +kernel, by decide +kernel⟩
theorem d_station  {f : Addr} {cdv : Value} {A : Around} {outer : List Env} {s : Shared} {H : Hp} {E : XK} (T : Txt mg) (hr : Room 0 (A.deeper (envOfC "Lineage.station" (defScope s_station) s.heap.objs.size f cdv))) :
    PSs (cxOf CX0 P w K mg base ["self"] "Lineage.station" (defScope s_station) f cdv A outer s H E).nox (defBody s_station) (rd_station K C) :=
  have hu := hu1 hr
  have hu64 := hu64 hr
  (pss_cons (ps_expr (pe_bm PySem.F.plainAttrs_list PySem.F.slot_list_append PySem.F.type_list_append mt_append (pe_fld (pv 0) rfl) (pa_cons (pe_lst pa_nil) pa_nil)))
      (pss_cons (ps_expr (pe_bm PySem.F.plainAttrs_list PySem.F.slot_list_append PySem.F.type_list_append mt_append (pe_fld (pv 0) rfl) (pa_cons (pe_lst pa_nil) pa_nil)))
      (pss_one (ps_ret (pe_op o_sub (pe_callB y_len (by rfl) T.len (by decide +kernel) (pa_cons (pe_fld (pv 0) rfl) pa_nil)) pe_int)))))
theorem sc_put : FnScope ["self", "name", "amount", "maker", "index"] ["self", "name", "amount", "maker"] (defScope s_put) := ⟨rfl, rfl, rfl, by decide +kernel, rfl, by decide +kernel, by decide +kernel⟩
theorem d_put  {f : Addr} {cdv : Value} {A : Around} {outer : List Env} {s : Shared} {H : Hp} {E : XK} (T : Txt mg) (hr : Room 0 (A.deeper (envOfC "Lineage.put" (defScope s_put) s.heap.objs.size f cdv))) :
    PSs (cxOf CX0 P w K mg base ["self", "name", "amount", "maker", "index"] "Lineage.put" (defScope s_put) f cdv A outer s H E).nox (defBody s_put) (rd_put K C) :=
  have hu := hu1 hr
  have hu64 := hu64 hr
  (pss_cons (ps_set (i := 4) sc_put.nd rfl (Or.inl rfl) (pe_callB y_len (by rfl) T.len (by decide +kernel) (pa_cons (pe_fld (pv 0) rfl) pa_nil)))
      (pss_cons (ps_expr (pe_bm PySem.F.plainAttrs_list PySem.F.slot_list_append PySem.F.type_list_append mt_append (pe_fld (pv 0) rfl) (pa_cons (pe_tup (pa_cons (pv 1) (pa_cons (pv 2) (pa_cons (pv 3) (pa_cons pe_non pa_nil))))) pa_nil)))
      (pss_cons (ps_if (pt_cmpR o_notN (pv 3) pe_non (nomark _)) (pss_one (ps_expr (pe_bm PySem.F.plainAttrs_list PySem.F.slot_list_append PySem.F.type_list_append mt_append (pe_ix (y_ix hu) (pe_fld (pv 0) rfl) (pv 3) (fun _ _ => rfl)) (pa_cons (pv 4) pa_nil)))) pss_nil)
      (pss_one (ps_ret (pv 4))))))
theorem sc_enter : FnScope ["self", "index", "station", "name", "amount", "maker", "_"] ["self", "index", "station"] (defScope s_enter) := ⟨rfl, rfl, rfl, by decide +kernel, rfl, by decide +kernel, by decide +kernel⟩
theorem d_enter  {f : Addr} {cdv : Value} {A : Around} {outer : List Env} {s : Shared} {H : Hp} {E : XK} (T : Txt mg) (hr : Room 0 (A.deeper (envOfC "Lineage.enter" (defScope s_enter) s.heap.objs.size f cdv))) :
    PSs (cxOf CX0 P w K mg base ["self", "index", "station", "name", "amount", "maker", "_"] "Lineage.enter" (defScope s_enter) f cdv A outer s H E).nox (defBody s_enter) (rd_enter K C) :=
  have hu := hu1 hr
  have hu64 := hu64 hr
  (pss_cons (ps_asg (pe_ix (y_ix hu) (pe_fld (pv 0) rfl) (pv 1) (fun _ _ => rfl)) (pg_tup rfl (pgs_cons (pg_name (i := 3) sc_enter.nd rfl (Or.inl rfl)) (pgs_cons (pg_name (i := 4) sc_enter.nd rfl (Or.inl rfl)) (pgs_cons (pg_name (i := 5) sc_enter.nd rfl (Or.inl rfl)) (pgs_cons (pg_name (i := 6) sc_enter.nd rfl (Or.inl rfl)) pgs_nil))))))
      (pss_cons (ps_asg (pe_tup (pa_cons (pv 3) (pa_cons (pv 4) (pa_cons (pv 5) (pa_cons (pv 2) pa_nil))))) (pg_sub (pe_fld (pv 0) rfl) (pv 1) (y_set hu)))
      (pss_one (ps_expr (pe_bm PySem.F.plainAttrs_list PySem.F.slot_list_append PySem.F.type_list_append mt_append (pe_ix (y_ix hu) (pe_fld (pv 0) rfl) (pv 2) (fun _ _ => rfl)) (pa_cons (pv 1) pa_nil))))))
theorem sc_stations : FnScope ["self"] ["self"] (defScope s_stations) := ⟨rfl, rfl, rfl, by decide +kernel, rfl, by decide +kernel, by decide +kernel⟩
theorem d_stations  {f : Addr} {cdv : Value} {A : Around} {outer : List Env} {s : Shared} {H : Hp} {E : XK} (T : Txt mg) (hr : Room 0 (A.deeper (envOfC "Lineage.stations" (defScope s_stations) s.heap.objs.size f cdv))) :
    PSs (cxOf CX0 P w K mg base ["self"] "Lineage.stations" (defScope s_stations) f cdv A outer s H E).nox (defBody s_stations) (rd_stations K C) :=
  have hu := hu1 hr
  have hu64 := hu64 hr
  (pss_one (ps_ret (pe_callB y_len (by rfl) T.len (by decide +kernel) (pa_cons (pe_fld (pv 0) rfl) pa_nil))))
theorem sc_carriers : FnScope ["self"] ["self"] (defScope s_carriers) := ⟨rfl, rfl, rfl, by decide +kernel, rfl, by decide +kernel, by decide +kernel⟩
theorem d_carriers  {f : Addr} {cdv : Value} {A : Around} {outer : List Env} {s : Shared} {H : Hp} {E : XK} (T : Txt mg) (hr : Room 0 (A.deeper (envOfC "Lineage.carriers" (defScope s_carriers) s.heap.objs.size f cdv))) :
    PSs (cxOf CX0 P w K mg base ["self"] "Lineage.carriers" (defScope s_carriers) f cdv A outer s H E).nox (defBody s_carriers) (rd_carriers K C) :=
  have hu := hu1 hr
  have hu64 := hu64 hr
  (pss_one (ps_ret (pe_callTy call_list_of (by rfl) T.list (by decide +kernel) (pa_cons (pe_fld (pv 0) rfl) pa_nil))))
theorem sc_carrier : FnScope ["self", "index"] ["self", "index"] (defScope s_carrier) := ⟨rfl, rfl, rfl, by decide +kernel, rfl, by decide +kernel, by decide +kernel⟩
theorem d_carrier  {f : Addr} {cdv : Value} {A : Around} {outer : List Env} {s : Shared} {H : Hp} {E : XK} (T : Txt mg) (hr : Room 0 (A.deeper (envOfC "Lineage.carrier" (defScope s_carrier) s.heap.objs.size f cdv))) :
    PSs (cxOf CX0 P w K mg base ["self", "index"] "Lineage.carrier" (defScope s_carrier) f cdv A outer s H E).nox (defBody s_carrier) (rd_carrier K C) :=
  have hu := hu1 hr
  have hu64 := hu64 hr
  (pss_one (ps_ret (pe_ix (y_ix hu) (pe_fld (pv 0) rfl) (pv 1) (fun _ _ => rfl))))
theorem sc_entering : FnScope ["self", "station"] ["self", "station"] (defScope s_entering) := ⟨rfl, rfl, rfl, by decide +kernel, rfl, by decide +kernel, by decide +kernel⟩
theorem d_entering  {f : Addr} {cdv : Value} {A : Around} {outer : List Env} {s : Shared} {H : Hp} {E : XK} (T : Txt mg) (hr : Room 0 (A.deeper (envOfC "Lineage.entering" (defScope s_entering) s.heap.objs.size f cdv))) :
    PSs (cxOf CX0 P w K mg base ["self", "station"] "Lineage.entering" (defScope s_entering) f cdv A outer s H E).nox (defBody s_entering) (rd_entering K C) :=
  have hu := hu1 hr
  have hu64 := hu64 hr
  (pss_one (ps_ret (pe_callB cr_sortedI (by rfl) T.sorted (by decide +kernel) (pa_cons (pe_ix (y_ix hu) (pe_fld (pv 0) rfl) (pv 1) (fun _ _ => rfl)) pa_nil))))
theorem sc_leaving : FnScope ["self", "station"] ["self", "station"] (defScope s_leaving) := ⟨rfl, rfl, rfl, by decide +kernel, rfl, by decide +kernel, by decide +kernel⟩
theorem d_leaving  {f : Addr} {cdv : Value} {A : Around} {outer : List Env} {s : Shared} {H : Hp} {E : XK} (T : Txt mg) (hr : Room 0 (A.deeper (envOfC "Lineage.leaving" (defScope s_leaving) s.heap.objs.size f cdv))) :
    PSs (cxOf CX0 P w K mg base ["self", "station"] "Lineage.leaving" (defScope s_leaving) f cdv A outer s H E).nox (defBody s_leaving) (rd_leaving K C) :=
  have hu := hu1 hr
  have hu64 := hu64 hr
  (pss_one (ps_ret (pe_callTy call_list_of (by rfl) T.list (by decide +kernel) (pa_cons (pe_ix (y_ix hu) (pe_fld (pv 0) rfl) (pv 1) (fun _ _ => rfl)) pa_nil))))
theorem sc_outside : FnScope ["self", "index", "carrier"] ["self"] (defScope s_outside) := ⟨rfl, rfl, rfl, by decide +kernel, rfl, by decide +kernel, by decide +kernel⟩
theorem d_outside  {f : Addr} {cdv : Value} {A : Around} {outer : List Env} {s : Shared} {H : Hp} {E : XK} (T : Txt mg) (hr : Room 0 (A.deeper (envOfC "Lineage.outside" (defScope s_outside) s.heap.objs.size f cdv))) :
    PSs (cxOf CX0 P w K mg base ["self", "index", "carrier"] "Lineage.outside" (defScope s_outside) f cdv A outer s H E).nox (defBody s_outside) (rd_outside K C) :=
  have hu := hu1 hr
  have hu64 := hu64 hr
  (pss_one (ps_ret (pe_lc (own := [("index", 1), ("carrier", 2)]) (g := (gTup K 2 (gCons (gName 1) (gCons (gName 2) gNil)))) (tt := (tTest (tOp r_isN (tOp (rdIx K) (tVar 2) (tC (.int 2))) (tC .non)))) (te := (tVar 1)) (by rfl) sc_outside.nd (pi_enum (by rfl) T.enumerate (pa_cons (pe_fld (pv 0) rfl) pa_nil)) (blkOk_by (own := [("index", 1), ("carrier", 2)]) (N := ["self", "index", "carrier"]) (sc := defScope s_outside) (by decide +kernel)) (fun _ _ _ _ _ => (pg_tup rfl (pgs_cons (pg_name (i := 1) sc_outside.nd rfl (Or.inl rfl)) (pgs_cons (pg_name (i := 2) sc_outside.nd rfl (Or.inl rfl)) pgs_nil)))) (fun _ _ _ _ _ => (pts_one (pt_cmpR o_isN (pe_ix (y_ix hu) (pv 2) pe_int (fun _ _ => rfl)) pe_non (nomark _)))) (fun _ _ _ _ _ => (pv 1)))))
theorem sc_present : FnScope ["self", "index", "carrier"] ["self"] (defScope s_present) := ⟨rfl, rfl, rfl, by decide +kernel, rfl, by decide +kernel, by decide +kernel⟩
theorem d_present  {f : Addr} {cdv : Value} {A : Around} {outer : List Env} {s : Shared} {H : Hp} {E : XK} (T : Txt mg) (hr : Room 0 (A.deeper (envOfC "Lineage.present" (defScope s_present) s.heap.objs.size f cdv))) :
    PSs (cxOf CX0 P w K mg base ["self", "index", "carrier"] "Lineage.present" (defScope s_present) f cdv A outer s H E).nox (defBody s_present) (rd_present K C) :=
  have hu := hu1 hr
  have hu64 := hu64 hr
  (pss_one (ps_ret (pe_lc (own := [("index", 1), ("carrier", 2)]) (g := (gTup K 2 (gCons (gName 1) (gCons (gName 2) gNil)))) (tt := (tTest (tOp r_isN (tOp (rdIx K) (tVar 2) (tC (.int 3))) (tC .non)))) (te := (tVar 1)) (by rfl) sc_present.nd (pi_enum (by rfl) T.enumerate (pa_cons (pe_fld (pv 0) rfl) pa_nil)) (blkOk_by (own := [("index", 1), ("carrier", 2)]) (N := ["self", "index", "carrier"]) (sc := defScope s_present) (by decide +kernel)) (fun _ _ _ _ _ => (pg_tup rfl (pgs_cons (pg_name (i := 1) sc_present.nd rfl (Or.inl rfl)) (pgs_cons (pg_name (i := 2) sc_present.nd rfl (Or.inl rfl)) pgs_nil)))) (fun _ _ _ _ _ => (pts_one (pt_cmpR o_isN (pe_ix (y_ix hu) (pv 2) pe_int (fun _ _ => rfl)) pe_non (nomark _)))) (fun _ _ _ _ _ => (pv 1)))))
theorem sc_cell : FnScope ["script", "k"] ["script", "k"] (defScope s_cell) := ⟨rfl, rfl, rfl, by decide +kernel, rfl, by decide +kernel, by decide +kernel⟩
theorem d_cell  {f : Addr} {cdv : Value} {A : Around} {outer : List Env} {s : Shared} {H : Hp} {E : XK} (T : Txt mg) (hr : Room 0 (A.deeper (envOfC "_law_cell" (defScope s_cell) s.heap.objs.size f cdv))) :
    PSs (cxOf CX0 P w K mg base ["script", "k"] "_law_cell" (defScope s_cell) f cdv A outer s H E).nox (defBody s_cell) (rd_cell K C) :=
  have hu := hu1 hr
  have hu64 := hu64 hr
  (pss_cons (ps_if (pt_cmpR o_lt (pv 1) (pe_callB y_len (by rfl) T.len (by decide +kernel) (pa_cons (pv 0) pa_nil)) (nomark _)) (pss_one (ps_ret (pe_ix (y_ix hu) (pv 0) (pv 1) (fun _ _ => rfl)))) pss_nil)
      (pss_one (ps_ret pe_int)))
theorem sc_numbers : FnScope ["cell", "many", "rest", "whole", "numbers", "k", "mixed"] ["cell", "many"] (defScope s_numbers) := ⟨rfl, rfl, rfl, by decide +kernel, rfl, by decide +kernel, by decide +kernel⟩
theorem d_numbers  {f : Addr} {cdv : Value} {A : Around} {outer : List Env} {s : Shared} {H : Hp} {E : XK} (T : Txt mg) (hr : Room 0 (A.deeper (envOfC "_law_numbers" (defScope s_numbers) s.heap.objs.size f cdv))) :
    PSs (cxOf CX0 P w K mg base ["cell", "many", "rest", "whole", "numbers", "k", "mixed"] "_law_numbers" (defScope s_numbers) f cdv A outer s H E).nox (defBody s_numbers) (rd_numbers K C) :=
  have hu := hu1 hr
  have hu64 := hu64 hr
  (pss_cons (ps_set (i := 2) sc_numbers.nd rfl (Or.inl rfl) (pe_callB call_abs (by rfl) T.abs (by decide +kernel) (pa_cons (pv 0) pa_nil)))
      (pss_cons (ps_set (i := 3) sc_numbers.nd rfl (Or.inl rfl) (pv 2))
      (pss_cons (ps_set (i := 4) sc_numbers.nd rfl (Or.inl rfl) (pe_lst pa_nil))
      (pss_cons (ps_for PassesOwn.never rfl (pi_range1 rfl T.range (pa_cons (pv 1) pa_nil)) (pg_name (i := 5) sc_numbers.nd rfl (Or.inl rfl)) (pss_one (ps_if (PW.pt (pw_and (pt_cmpR o_ge (pv 3) (pe_op o_pow pe_int pe_int) (nomark _)) (pw_and1 (pt_cmpR o_gt (pv 2) pe_int (nomark _))))) (pss_cons (ps_expr (pe_bm PySem.F.plainAttrs_list PySem.F.slot_list_append PySem.F.type_list_append mt_append (pv 4) (pa_cons (pe_op o_mod (pe_callTy call_int1 (by rfl) T.int (by decide +kernel) (pa_cons (pv 2) pa_nil)) pe_int) pa_nil)))
      (pss_one (ps_set (i := 2) sc_numbers.nd rfl (Or.inl rfl) (pe_op o_fdiv (pv 2) pe_int)))) (pss_cons (ps_set (i := 6) sc_numbers.nd rfl (Or.inl rfl) (pe_op o_mod (pe_callTy call_int1 (by rfl) T.int (by decide +kernel) (pa_cons (pe_op o_add (pe_op o_add (pe_op o_mul (pv 3) pe_int) (pe_op o_mul (pv 5) pe_int)) pe_int) pa_nil)) pe_int))
      (pss_cons (ps_set (i := 6) sc_numbers.nd rfl (Or.inl rfl) (pe_op o_mod (pe_callTy call_int1 (by rfl) T.int (by decide +kernel) (pa_cons (pe_op o_add (pe_op o_add (pe_op o_mul (pv 6) (pv 6)) (pe_op o_mul pe_int (pv 5))) pe_int) pa_nil)) pe_int))
      (pss_one (ps_expr (pe_bm PySem.F.plainAttrs_list PySem.F.slot_list_append PySem.F.type_list_append mt_append (pv 4) (pa_cons (pe_op o_mod (pe_callTy call_int1 (by rfl) T.int (by decide +kernel) (pa_cons (pe_op o_fdiv (pv 6) pe_int) pa_nil)) pe_int) pa_nil)))))))))
      (pss_one (ps_ret (pv 4)))))))
theorem sc_draw : FnScope ["script", "k", "many"] ["script", "k", "many"] (defScope s_draw) := ⟨rfl, rfl, rfl, by decide +kernel, rfl, by decide +kernel, by decide +kernel⟩
theorem d_draw  {f : Addr} {cdv : Value} {A : Around} {outer : List Env} {s : Shared} {H : Hp} {E : XK} (T : Txt mg) (G_numbers : Hf P w K mg base 1 "_law_numbers" ["cell", "many"] (sp_numbers)) (G_cell : Hf P w K mg base 1 "_law_cell" ["script", "k"] (sp_cell K)) (hr : Room 1 (A.deeper (envOfC "_law_draw" (defScope s_draw) s.heap.objs.size f cdv))) :
    PSs (cxOf CX0 P w K mg base ["script", "k", "many"] "_law_draw" (defScope s_draw) f cdv A outer s H E).nox (defBody s_draw) (rd_draw K C) :=
  have hu := hu1 hr
  have hu64 := hu64 hr
  (pss_cons (ps_if (pt_cmpR o_lt (pv 1) (pe_callB y_len (by rfl) T.len (by decide +kernel) (pa_cons (pv 0) pa_nil)) (nomark _)) (pss_one (ps_ret (y_call G_numbers hr (by rfl) (pa_cons (pe_ix (y_ix hu) (pv 0) (pv 1) (fun _ _ => rfl)) (pa_cons (pv 2) pa_nil))))) pss_nil)
      (pss_one (ps_ret (y_call G_numbers hr (by rfl) (pa_cons (pe_op o_add (pe_op o_mod (pe_callTy call_int1 (by rfl) T.int (by decide +kernel) (pa_cons (y_call G_cell hr (by rfl) (pa_cons (pv 0) (pa_cons pe_int pa_nil))) pa_nil)) pe_int) (pe_op o_mul pe_int (pv 1))) (pa_cons (pv 2) pa_nil))))))
theorem sc_same : FnScope ["told", "due", "k"] ["told", "due"] (defScope s_same) := ⟨rfl, rfl, rfl, by decide +kernel, rfl, by decide +kernel, by decide +kernel⟩
theorem d_same {n : Nat} {f : Addr} {cdv : Value} {A : Around} {outer : List Env} {s : Shared} {H : Hp} {E : XK} (T : Txt mg) (G_same : Hf P w K mg base (n + 1) "_law_same" ["told", "due"] (sp_same K n)) (hr : Room (n + 1) (A.deeper (envOfC "_law_same" (defScope s_same) s.heap.objs.size f cdv))) :
    PSs (cxOf CX0 P w K mg base ["told", "due", "k"] "_law_same" (defScope s_same) f cdv A outer s H E).nox (defBody s_same) (rd_same K C n) :=
  have hu := hu1 hr
  have hu64 := hu64 hr
  (pss_cons (ps_if (pt_cmpR o_isN (pv 1) pe_non (nomark _)) (pss_one (ps_ret (pe_cmpR o_isN (pv 0) pe_non (nomark _)))) pss_nil)
      (pss_cons (ps_if (y_truth (pe_callB call_isi (by rfl) T.isinstance (by decide +kernel) (pa_cons (pv 1) (pa_cons (pe_bltn (v := .ty "str") (by rfl) T.str boot_str rfl) pa_nil))) (by intro _; rfl)) (pss_one (ps_ret (pe_and (pe_callB call_isi (by rfl) T.isinstance (by decide +kernel) (pa_cons (pv 0) (pa_cons (pe_bltn (v := .ty "str") (by rfl) T.str boot_str rfl) pa_nil))) (pe_one (pe_cmpR (y_eq hu64) (pv 0) (pv 1) (nomark _)))))) pss_nil)
      (pss_cons (ps_if (y_truth (pe_callB call_isi (by rfl) T.isinstance (by decide +kernel) (pa_cons (pv 1) (pa_cons (pe_bltn (v := .ty "int") (by rfl) T.int boot_int rfl) pa_nil))) (by intro _; rfl)) (pss_one (ps_ret (pe_and (pe_callB call_isi (by rfl) T.isinstance (by decide +kernel) (pa_cons (pv 0) (pa_cons (pe_bltn (v := .ty "int") (by rfl) T.int boot_int rfl) pa_nil))) (pe_and (pe_not (pe_callB call_isi (by rfl) T.isinstance (by decide +kernel) (pa_cons (pv 0) (pa_cons (pe_bltn (v := .ty "bool") (by rfl) T.bool boot_bool rfl) pa_nil)))) (pe_one (pe_cmpR (y_eq hu64) (pv 0) (pv 1) (nomark _))))))) pss_nil)
      (pss_cons (ps_if (PW.pt (pw_and (y_truth (pe_callB call_isi (by rfl) T.isinstance (by decide +kernel) (pa_cons (pv 1) (pa_cons (pe_bltn (v := .ty "list") (by rfl) T.list boot_list rfl) pa_nil))) (by intro _; rfl)) (pw_and1 (pt_not (y_truth (pe_callB call_isi (by rfl) T.isinstance (by decide +kernel) (pa_cons (pv 0) (pa_cons (pe_bltn (v := .ty "list") (by rfl) T.list boot_list rfl) pa_nil))) (by intro _; rfl)))))) (pss_one (ps_ret pe_bl)) pss_nil)
      (pss_cons (ps_if (PW.pt (pw_and (y_truth (pe_callB call_isi (by rfl) T.isinstance (by decide +kernel) (pa_cons (pv 1) (pa_cons (pe_bltn (v := .ty "tuple") (by rfl) T.tuple boot_tuple rfl) pa_nil))) (by intro _; rfl)) (pw_and1 (pt_not (y_truth (pe_callB call_isi (by rfl) T.isinstance (by decide +kernel) (pa_cons (pv 0) (pa_cons (pe_bltn (v := .ty "tuple") (by rfl) T.tuple boot_tuple rfl) pa_nil))) (by intro _; rfl)))))) (pss_one (ps_ret pe_bl)) pss_nil)
      (pss_cons (ps_if (pt_cmpR (y_ne hu64) (pe_callB y_len (by rfl) T.len (by decide +kernel) (pa_cons (pv 0) pa_nil)) (pe_callB y_len (by rfl) T.len (by decide +kernel) (pa_cons (pv 1) pa_nil)) (nomark _)) (pss_one (ps_ret pe_bl)) pss_nil)
      (pss_one (ps_ret (pe_cmpR (y_eq hu64) (pe_lc (own := [("k", 2)]) (g := (gName 2)) (tt := (tNot (tTru K (tCall (sp_same K n) [] E0 (tCons (tOp (rdIx K) (tVar 0) (tVar 2)) (tCons (tOp (rdIx K) (tVar 1) (tVar 2)) tNil)))))) (te := (tVar 2)) (by rfl) sc_same.nd (pi_range1 rfl T.range (pa_cons (pe_callB y_len (by rfl) T.len (by decide +kernel) (pa_cons (pv 1) pa_nil)) pa_nil)) (blkOk_by (own := [("k", 2)]) (N := ["told", "due", "k"]) (sc := defScope s_same) (by decide +kernel)) (fun _ _ _ _ _ => (pg_name (i := 2) sc_same.nd rfl (Or.inl rfl))) (fun _ _ _ _ _ => (pts_one (pt_not (y_truth (y_call G_same hr (by rfl) (pa_cons (pe_ix (y_ix hu) (pv 0) (pv 2) (fun _ _ => rfl)) (pa_cons (pe_ix (y_ix hu) (pv 1) (pv 2) (fun _ _ => rfl)) pa_nil)) (hk := Nat.le_refl _)) (by intro _; rfl))))) (fun _ _ _ _ _ => (pv 2))) (pe_lst pa_nil) (nomark _))))))))))
theorem sc_name : FnScope ["n", "words", "word"] ["n"] (defScope s_name) := ⟨rfl, rfl, rfl, by decide +kernel, rfl, by decide +kernel, by decide +kernel⟩
theorem d_name  {f : Addr} {cdv : Value} {A : Around} {outer : List Env} {s : Shared} {H : Hp} {E : XK} (T : Txt mg) (hr : Room 0 (A.deeper (envOfC "_law_name" (defScope s_name) s.heap.objs.size f cdv))) :
    PSs (cxOf CX0 P w K mg base ["n", "words", "word"] "_law_name" (defScope s_name) f cdv A outer s H E).nox (defBody s_name) (rd_name K C) :=
  have hu := hu1 hr
  have hu64 := hu64 hr
  (pss_cons (ps_set (i := 1) sc_name.nd rfl (Or.inl rfl) (pe_lst (pa_cons pe_str (pa_cons pe_str (pa_cons pe_str (pa_cons pe_str (pa_cons pe_str (pa_cons pe_str (pa_cons pe_str (pa_cons pe_str (pa_cons pe_str (pa_cons pe_str pa_nil))))))))))))
      (pss_cons (ps_set (i := 2) sc_name.nd rfl (Or.inl rfl) (pe_ix (y_ix hu) (pv 1) (pe_op o_mod (pe_ix (y_ix hu) (pv 0) pe_int (fun _ _ => rfl)) pe_int) (fun _ _ => rfl)))
      (pss_cons (ps_if (pt_cmpR (y_eq hu64) (pe_op o_mod (pe_ix (y_ix hu) (pv 0) pe_int (fun _ _ => rfl)) pe_int) pe_int (nomark _)) (pss_one (ps_ret (pe_tup (pa_cons (pv 2) pa_nil)))) pss_nil)
      (pss_cons (ps_if (pt_cmpR (y_eq hu64) (pe_op o_mod (pe_ix (y_ix hu) (pv 0) pe_int (fun _ _ => rfl)) pe_int) pe_int (nomark _)) (pss_one (ps_ret (pe_tup (pa_cons (pv 2) (pa_cons (pe_op o_mod (pe_ix (y_ix hu) (pv 0) pe_int (fun _ _ => rfl)) pe_int) pa_nil))))) pss_nil)
      (pss_cons (ps_if (pt_cmpR (y_eq hu64) (pe_op o_mod (pe_ix (y_ix hu) (pv 0) pe_int (fun _ _ => rfl)) pe_int) pe_int (nomark _)) (pss_one (ps_ret (pe_tup (pa_cons (pv 2) (pa_cons (pe_tup (pa_cons (pe_op o_mod (pe_ix (y_ix hu) (pv 0) pe_int (fun _ _ => rfl)) pe_int) (pa_cons (pe_op o_mod (pe_ix (y_ix hu) (pv 0) pe_int (fun _ _ => rfl)) pe_int) pa_nil))) pa_nil))))) pss_nil)
      (pss_one (ps_ret (pe_tup (pa_cons (pv 2) (pa_cons (pe_op o_add (pe_op o_mul (pe_ix (y_ix hu) (pv 0) pe_int (fun _ _ => rfl)) (pe_op o_pow pe_int pe_int)) (pe_ix (y_ix hu) (pv 0) pe_int (fun _ _ => rfl))) (pa_cons (pe_op o_mod (pe_ix (y_ix hu) (pv 0) pe_int (fun _ _ => rfl)) pe_int) pa_nil)))))))))))
theorem sc_amount : FnScope ["n"] ["n"] (defScope s_amount) := ⟨rfl, rfl, rfl, by decide +kernel, rfl, by decide +kernel, by decide +kernel⟩
theorem d_amount  {f : Addr} {cdv : Value} {A : Around} {outer : List Env} {s : Shared} {H : Hp} {E : XK} (T : Txt mg) (hr : Room 0 (A.deeper (envOfC "_law_amount" (defScope s_amount) s.heap.objs.size f cdv))) :
    PSs (cxOf CX0 P w K mg base ["n"] "_law_amount" (defScope s_amount) f cdv A outer s H E).nox (defBody s_amount) (rd_amount K C) :=
  have hu := hu1 hr
  have hu64 := hu64 hr
  (pss_one (ps_ret (pe_ix (y_ix hu) (pe_lst (pa_cons pe_int (pa_cons (pe_op o_add pe_int (pe_ix (y_ix hu) (pv 0) pe_int (fun _ _ => rfl))) (pa_cons (pe_op o_add (pe_op o_pow pe_int pe_int) (pe_op o_mul (pe_ix (y_ix hu) (pv 0) pe_int (fun _ _ => rfl)) (pe_op o_pow pe_int pe_int))) (pa_cons (pe_op o_sub (pe_op o_sub (pe_op o_pow pe_int pe_int) pe_int) (pe_ix (y_ix hu) (pv 0) pe_int (fun _ _ => rfl))) pa_nil))))) (pe_op o_mod (pe_ix (y_ix hu) (pv 0) pe_int (fun _ _ => rfl)) pe_int) (fun _ _ => rfl))))
theorem sc_open : FnScope ["book", "k"] ["book"] (defScope s_open) := ⟨rfl, rfl, rfl, by decide +kernel, rfl, by decide +kernel, by decide +kernel⟩
theorem d_open  {f : Addr} {cdv : Value} {A : Around} {outer : List Env} {s : Shared} {H : Hp} {E : XK} (T : Txt mg) (hr : Room 0 (A.deeper (envOfC "_law_open" (defScope s_open) s.heap.objs.size f cdv))) :
    PSs (cxOf CX0 P w K mg base ["book", "k"] "_law_open" (defScope s_open) f cdv A outer s H E).nox (defBody s_open) (rd_open K C) :=
  have hu := hu1 hr
  have hu64 := hu64 hr
  (pss_one (ps_ret (pe_lc (own := [("k", 1)]) (g := (gName 1)) (tt := (tTest (tOp r_isN (tOp (rdIx K) (tOp (rdIx K) (tOp (rdIx K) (tVar 0) (tC (.str "rows"))) (tVar 1)) (tC (.int 3))) (tC .non)))) (te := (tVar 1)) (by rfl) sc_open.nd (pi_range1 rfl T.range (pa_cons (pe_callB y_len (by rfl) T.len (by decide +kernel) (pa_cons (pe_ix (y_ix hu) (pv 0) pe_str (fun _ _ => rfl)) pa_nil)) pa_nil)) (blkOk_by (own := [("k", 1)]) (N := ["book", "k"]) (sc := defScope s_open) (by decide +kernel)) (fun _ _ _ _ _ => (pg_name (i := 1) sc_open.nd rfl (Or.inl rfl))) (fun _ _ _ _ _ => (pts_one (pt_cmpR o_isN (pe_ix (y_ix hu) (pe_ix (y_ix hu) (pe_ix (y_ix hu) (pv 0) pe_str (fun _ _ => rfl)) (pv 1) (fun _ _ => rfl)) pe_int (fun _ _ => rfl)) pe_non (nomark _)))) (fun _ _ _ _ _ => (pv 1)))))
theorem sc_add : FnScope ["lineage", "book", "n", "maker", "row", "told", "index"] ["lineage", "book", "n", "maker"] (defScope s_add) := ⟨rfl, rfl, rfl, by decide +kernel, rfl, by decide +kernel, by decide +kernel⟩
theorem d_add  {f : Addr} {cdv : Value} {A : Around} {outer : List Env} {s : Shared} {H : Hp} {E : XK} (T : Txt mg) (G_name : Hf P w K mg base 1 "_law_name" ["n"] (sp_name)) (G_amount : Hf P w K mg base 1 "_law_amount" ["n"] (sp_amount)) (G_m_put : Hm P w K mg base 1 C "put" ["self", "name", "amount", "maker"] (sp_put C)) (G_same : Hf P w K mg base 9 "_law_same" ["told", "due"] (sp_same K 8)) (G_m_carrier : Hm P w K mg base 1 C "carrier" ["self", "index"] (sp_carrier C)) (hr : Room 9 (A.deeper (envOfC "_law_add" (defScope s_add) s.heap.objs.size f cdv))) :
    PSs (cxOf CX0 P w K mg base ["lineage", "book", "n", "maker", "row", "told", "index"] "_law_add" (defScope s_add) f cdv A outer s H E).nox (defBody s_add) (rd_add K C) :=
  have hu := hu1 hr
  have hu64 := hu64 hr
  (pss_cons (ps_set (i := 4) sc_add.nd rfl (Or.inl rfl) (pe_tup (pa_cons (y_call G_name hr (by rfl) (pa_cons (pv 2) pa_nil)) (pa_cons (y_call G_amount hr (by rfl) (pa_cons (pv 2) pa_nil)) (pa_cons (pv 3) (pa_cons pe_non pa_nil))))))
      (pss_cons (ps_set (i := 5) sc_add.nd rfl (Or.inl rfl) (y_meth G_m_put hr (pv 0) (pa_cons (pe_ix (y_ix hu) (pv 4) pe_int (fun _ _ => rfl)) (pa_cons (pe_ix (y_ix hu) (pv 4) pe_int (fun _ _ => rfl)) (pa_cons (pv 3) pa_nil)))))
      (pss_cons (ps_expr (pe_bm PySem.F.plainAttrs_list PySem.F.slot_list_append PySem.F.type_list_append mt_append (pe_ix (y_ix hu) (pv 1) pe_str (fun _ _ => rfl)) (pa_cons (pv 4) pa_nil)))
      (pss_cons (ps_set (i := 6) sc_add.nd rfl (Or.inl rfl) (pe_op o_sub (pe_callB y_len (by rfl) T.len (by decide +kernel) (pa_cons (pe_ix (y_ix hu) (pv 1) pe_str (fun _ _ => rfl)) pa_nil)) pe_int))
      (pss_one (ps_ret (pe_and (y_call G_same hr (by rfl) (pa_cons (pv 5) (pa_cons (pv 6) pa_nil))) (pe_one (y_call G_same hr (by rfl) (pa_cons (y_meth G_m_carrier hr (pv 0) (pa_cons (pv 6) pa_nil)) (pa_cons (pv 4) pa_nil)))))))))))
theorem sc_lenter : FnScope ["lineage", "book", "n", "there", "index", "station", "row"] ["lineage", "book", "n"] (defScope s_lenter) := ⟨rfl, rfl, rfl, by decide +kernel, rfl, by decide +kernel, by decide +kernel⟩
theorem d_lenter  {f : Addr} {cdv : Value} {A : Around} {outer : List Env} {s : Shared} {H : Hp} {E : XK} (T : Txt mg) (G_open : Hf P w K mg base 1 "_law_open" ["book"] (sp_open K)) (G_m_enter : Hm P w K mg base 1 C "enter" ["self", "index", "station"] (sp_enter C)) (G_same : Hf P w K mg base 9 "_law_same" ["told", "due"] (sp_same K 8)) (G_m_carrier : Hm P w K mg base 1 C "carrier" ["self", "index"] (sp_carrier C)) (hr : Room 9 (A.deeper (envOfC "_law_enter" (defScope s_lenter) s.heap.objs.size f cdv))) :
    PSs (cxOf CX0 P w K mg base ["lineage", "book", "n", "there", "index", "station", "row"] "_law_enter" (defScope s_lenter) f cdv A outer s H E).nox (defBody s_lenter) (rd_lenter K C) :=
  have hu := hu1 hr
  have hu64 := hu64 hr
  (pss_cons (ps_set (i := 3) sc_lenter.nd rfl (Or.inl rfl) (y_call G_open hr (by rfl) (pa_cons (pv 1) pa_nil)))
      (pss_cons (ps_set (i := 4) sc_lenter.nd rfl (Or.inl rfl) (pe_ix (y_ix hu) (pv 3) (pe_op o_mod (pe_ix (y_ix hu) (pv 2) pe_int (fun _ _ => rfl)) (pe_callB y_len (by rfl) T.len (by decide +kernel) (pa_cons (pv 3) pa_nil))) (fun _ _ => rfl)))
      (pss_cons (ps_set (i := 5) sc_lenter.nd rfl (Or.inl rfl) (pe_op o_mod (pe_ix (y_ix hu) (pv 2) pe_int (fun _ _ => rfl)) (pe_ix (y_ix hu) (pv 1) pe_str (fun _ _ => rfl))))
      (pss_cons (ps_expr (y_meth G_m_enter hr (pv 0) (pa_cons (pv 4) (pa_cons (pv 5) pa_nil))))
      (pss_cons (ps_set (i := 6) sc_lenter.nd rfl (Or.inl rfl) (pe_ix (y_ix hu) (pe_ix (y_ix hu) (pv 1) pe_str (fun _ _ => rfl)) (pv 4) (fun _ _ => rfl)))
      (pss_cons (ps_asg (pe_tup (pa_cons (pe_ix (y_ix hu) (pv 6) pe_int (fun _ _ => rfl)) (pa_cons (pe_ix (y_ix hu) (pv 6) pe_int (fun _ _ => rfl)) (pa_cons (pe_ix (y_ix hu) (pv 6) pe_int (fun _ _ => rfl)) (pa_cons (pv 5) pa_nil))))) (pg_sub (pe_ix (y_ix hu) (pv 1) pe_str (fun _ _ => rfl)) (pv 4) (y_set hu)))
      (pss_one (ps_ret (y_call G_same hr (by rfl) (pa_cons (y_meth G_m_carrier hr (pv 0) (pa_cons (pv 4) pa_nil)) (pa_cons (pe_ix (y_ix hu) (pe_ix (y_ix hu) (pv 1) pe_str (fun _ _ => rfl)) (pv 4) (fun _ _ => rfl)) pa_nil)))))))))))
theorem sc_call : FnScope ["lineage", "book", "n", "deed", "told"] ["lineage", "book", "n"] (defScope s_call) := ⟨rfl, rfl, rfl, by decide +kernel, rfl, by decide +kernel, by decide +kernel⟩
theorem d_call  {f : Addr} {cdv : Value} {A : Around} {outer : List Env} {s : Shared} {H : Hp} {E : XK} (T : Txt mg) (G_m_station : Hm P w K mg base 1 C "station" ["self"] (sp_station C)) (G_same : Hf P w K mg base 9 "_law_same" ["told", "due"] (sp_same K 8)) (G_open : Hf P w K mg base 1 "_law_open" ["book"] (sp_open K)) (G_lenter : Hf P w K mg base 10 "_law_enter" ["lineage", "book", "n"] (sp_lenter K C)) (G_add : Hf P w K mg base 10 "_law_add" ["lineage", "book", "n", "maker"] (sp_add K C)) (hr : Room 10 (A.deeper (envOfC "_law_call" (defScope s_call) s.heap.objs.size f cdv))) :
    PSs (cxOf CX0 P w K mg base ["lineage", "book", "n", "deed", "told"] "_law_call" (defScope s_call) f cdv A outer s H E).nox (defBody s_call) (rd_call K C) :=
  have hu := hu1 hr
  have hu64 := hu64 hr
  (pss_cons (ps_set (i := 3) sc_call.nd rfl (Or.inl rfl) (pe_op o_mod (pe_ix (y_ix hu) (pv 2) pe_int (fun _ _ => rfl)) pe_int))
      (pss_cons (ps_if (PW.pt (pw_or (pt_cmpR (y_eq hu64) (pv 3) pe_int (nomark _)) (pw_or1 (PW.pt (pw_and (pt_cmpR (y_eq hu64) (pe_ix (y_ix hu) (pv 1) pe_str (fun _ _ => rfl)) pe_int (nomark _)) (pw_and1 (pt_cmpR o_gt (pv 3) pe_int (nomark _)))))))) (pss_cons (ps_set (i := 4) sc_call.nd rfl (Or.inl rfl) (y_meth0 G_m_station hr (pv 0)))
      (pss_cons (ps_asg (pe_op o_add (pe_ix (y_ix hu) (pv 1) pe_str (fun _ _ => rfl)) pe_int) (pg_sub (pv 1) pe_str (y_set hu)))
      (pss_one (ps_ret (y_call G_same hr (by rfl) (pa_cons (pv 4) (pa_cons (pe_op o_sub (pe_ix (y_ix hu) (pv 1) pe_str (fun _ _ => rfl)) pe_int) pa_nil))))))) pss_nil)
      (pss_cons (ps_if (PW.pt (pw_and (pt_cmpR o_gt (pv 3) pe_int (nomark _)) (pw_and1 (pt_cmpR (y_ne hu64) (y_call G_open hr (by rfl) (pa_cons (pv 1) pa_nil)) (pe_lst pa_nil) (nomark _))))) (pss_one (ps_ret (y_call G_lenter hr (by rfl) (pa_cons (pv 0) (pa_cons (pv 1) (pa_cons (pv 2) pa_nil)))))) pss_nil)
      (pss_cons (ps_if (pt_cmpR (y_eq hu64) (pv 3) pe_int (nomark _)) (pss_one (ps_ret (y_call G_add hr (by rfl) (pa_cons (pv 0) (pa_cons (pv 1) (pa_cons (pv 2) (pa_cons pe_non pa_nil))))))) pss_nil)
      (pss_one (ps_ret (y_call G_add hr (by rfl) (pa_cons (pv 0) (pa_cons (pv 1) (pa_cons (pv 2) (pa_cons (pe_op o_mod (pe_ix (y_ix hu) (pv 2) pe_int (fun _ _ => rfl)) (pe_ix (y_ix hu) (pv 1) pe_str (fun _ _ => rfl))) pa_nil)))))))))))
theorem sc_as_due : FnScope ["lineage", "book", "rows", "told", "due", "k", "station", "row"] ["lineage", "book"] (defScope s_as_due) := ⟨rfl, rfl, rfl, by decide +kernel, rfl, by decide +kernel, by decide +kernel⟩
theorem d_as_due  {f : Addr} {cdv : Value} {A : Around} {outer : List Env} {s : Shared} {H : Hp} {E : XK} (T : Txt mg) (G_m_carriers : Hm P w K mg base 1 C "carriers" ["self"] (sp_carriers C)) (G_m_outside : Hm P w K mg base 1 C "outside" ["self"] (sp_outside C)) (G_m_present : Hm P w K mg base 1 C "present" ["self"] (sp_present C)) (G_open : Hf P w K mg base 1 "_law_open" ["book"] (sp_open K)) (G_m_entering : Hm P w K mg base 1 C "entering" ["self", "station"] (sp_entering C)) (G_m_leaving : Hm P w K mg base 1 C "leaving" ["self", "station"] (sp_leaving C)) (G_same : Hf P w K mg base 9 "_law_same" ["told", "due"] (sp_same K 8)) (G_m_stations : Hm P w K mg base 1 C "stations" ["self"] (sp_stations C)) (G_m_carrier : Hm P w K mg base 1 C "carrier" ["self", "index"] (sp_carrier C)) (hr : Room 9 (A.deeper (envOfC "_law_as_due" (defScope s_as_due) s.heap.objs.size f cdv))) :
    PSs (cxOf CX0 P w K mg base ["lineage", "book", "rows", "told", "due", "k", "station", "row"] "_law_as_due" (defScope s_as_due) f cdv A outer s H E).nox (defBody s_as_due) (rd_as_due K C) :=
  have hu := hu1 hr
  have hu64 := hu64 hr
  (pss_cons (ps_set (i := 2) sc_as_due.nd rfl (Or.inr rfl) (pe_ix (y_ix hu) (pv 1) pe_str (fun _ _ => rfl)))
      (pss_cons (ps_set (i := 3) sc_as_due.nd rfl (Or.inl rfl) (pe_lst (pa_cons (y_meth0 G_m_carriers hr (pv 0)) (pa_cons (y_meth0 G_m_outside hr (pv 0)) (pa_cons (y_meth0 G_m_present hr (pv 0)) pa_nil)))))
      (pss_cons (ps_set (i := 4) sc_as_due.nd rfl (Or.inl rfl) (pe_lst (pa_cons (pe_callTy call_list_of (by rfl) T.list (by decide +kernel) (pa_cons (pv 2) pa_nil)) (pa_cons (pe_lc (own := [("k", 5)]) (g := (gName 5)) (tt := (tTest (tOp r_isN (tOp (rdIx K) (tOp (rdIx K) (tVar 2) (tVar 5)) (tC (.int 2))) (tC .non)))) (te := (tVar 5)) (by rfl) sc_as_due.nd (pi_range1 rfl T.range (pa_cons (pe_callB y_len (by rfl) T.len (by decide +kernel) (pa_cons (pv 2) pa_nil)) pa_nil)) (blkOk_by (own := [("k", 5)]) (N := ["lineage", "book", "rows", "told", "due", "k", "station", "row"]) (sc := defScope s_as_due) (by decide +kernel)) (fun _ _ _ _ _ => (pg_name (i := 5) sc_as_due.nd rfl (Or.inl rfl))) (fun _ _ _ _ _ => (pts_one (pt_cmpR o_isN (pe_ix (y_ix hu) (pe_ix (y_ix hu) (pv 2) (pv 5) (fun _ _ => rfl)) pe_int (fun _ _ => rfl)) pe_non (nomark _)))) (fun _ _ _ _ _ => (pv 5))) (pa_cons (y_call G_open hr (by rfl) (pa_cons (pv 1) pa_nil)) pa_nil)))))
      (pss_cons (ps_for PassesOwn.never rfl (pi_range1 rfl T.range (pa_cons (pe_ix (y_ix hu) (pv 1) pe_str (fun _ _ => rfl)) pa_nil)) (pg_name (i := 6) sc_as_due.nd rfl (Or.inr rfl)) (pss_cons (ps_expr (pe_bm PySem.F.plainAttrs_list PySem.F.slot_list_append PySem.F.type_list_append mt_append (pv 3) (pa_cons (y_meth G_m_entering hr (pv 0) (pa_cons (pv 6) pa_nil)) pa_nil)))
      (pss_cons (ps_expr (pe_bm PySem.F.plainAttrs_list PySem.F.slot_list_append PySem.F.type_list_append mt_append (pv 4) (pa_cons (pe_lc (own := [("k", 5)]) (g := (gName 5)) (tt := (tTest (tOp (rdEq K) (tOp (rdIx K) (tOp (rdIx K) (tVar 2) (tVar 5)) (tC (.int 3))) (tVar 6)))) (te := (tVar 5)) (by rfl) sc_as_due.nd (pi_range1 rfl T.range (pa_cons (pe_callB y_len (by rfl) T.len (by decide +kernel) (pa_cons (pv 2) pa_nil)) pa_nil)) (blkOk_by (own := [("k", 5)]) (N := ["lineage", "book", "rows", "told", "due", "k", "station", "row"]) (sc := defScope s_as_due) (by decide +kernel)) (fun _ _ _ _ _ => (pg_name (i := 5) sc_as_due.nd rfl (Or.inl rfl))) (fun _ _ _ _ _ => (pts_one (pt_cmpR (y_eq hu64) (pe_ix (y_ix hu) (pe_ix (y_ix hu) (pv 2) (pv 5) (fun _ _ => rfl)) pe_int (fun _ _ => rfl)) (pv 6) (nomark _)))) (fun _ _ _ _ _ => (pv 5))) pa_nil)))
      (pss_cons (ps_expr (pe_bm PySem.F.plainAttrs_list PySem.F.slot_list_append PySem.F.type_list_append mt_append (pv 3) (pa_cons (y_meth G_m_leaving hr (pv 0) (pa_cons (pv 6) pa_nil)) pa_nil)))
      (pss_one (ps_expr (pe_bm PySem.F.plainAttrs_list PySem.F.slot_list_append PySem.F.type_list_append mt_append (pv 4) (pa_cons (pe_lc (own := [("k", 5)]) (g := (gName 5)) (tt := (tTest (tOp (rdEq K) (tOp (rdIx K) (tOp (rdIx K) (tVar 2) (tVar 5)) (tC (.int 2))) (tVar 6)))) (te := (tVar 5)) (by rfl) sc_as_due.nd (pi_range1 rfl T.range (pa_cons (pe_callB y_len (by rfl) T.len (by decide +kernel) (pa_cons (pv 2) pa_nil)) pa_nil)) (blkOk_by (own := [("k", 5)]) (N := ["lineage", "book", "rows", "told", "due", "k", "station", "row"]) (sc := defScope s_as_due) (by decide +kernel)) (fun _ _ _ _ _ => (pg_name (i := 5) sc_as_due.nd rfl (Or.inl rfl))) (fun _ _ _ _ _ => (pts_one (pt_cmpR (y_eq hu64) (pe_ix (y_ix hu) (pe_ix (y_ix hu) (pv 2) (pv 5) (fun _ _ => rfl)) pe_int (fun _ _ => rfl)) (pv 6) (nomark _)))) (fun _ _ _ _ _ => (pv 5))) pa_nil))))))))
      (pss_cons (ps_if (PW.pt (pw_or (pt_not (y_truth (y_call G_same hr (by rfl) (pa_cons (pv 3) (pa_cons (pv 4) pa_nil))) (by intro _; rfl))) (pw_or1 (pt_not (y_truth (y_call G_same hr (by rfl) (pa_cons (y_meth0 G_m_stations hr (pv 0)) (pa_cons (pe_ix (y_ix hu) (pv 1) pe_str (fun _ _ => rfl)) pa_nil))) (by intro _; rfl)))))) (pss_one (ps_ret pe_bl)) pss_nil)
      (pss_cons (ps_for PassesOwn.never rfl (pi_range1 rfl T.range (pa_cons (pe_callB y_len (by rfl) T.len (by decide +kernel) (pa_cons (pv 2) pa_nil)) pa_nil)) (pg_name (i := 5) sc_as_due.nd rfl (Or.inl rfl)) (pss_one (ps_if (pt_not (y_truth (y_call G_same hr (by rfl) (pa_cons (y_meth G_m_carrier hr (pv 0) (pa_cons (pv 5) pa_nil)) (pa_cons (pe_ix (y_ix hu) (pv 2) (pv 5) (fun _ _ => rfl)) pa_nil))) (by intro _; rfl))) (pss_one (ps_ret pe_bl)) pss_nil)))
      (pss_cons (ps_for PassesOwn.never rfl (y_iter (pv 3)) (pg_name (i := 7) sc_as_due.nd rfl (Or.inl rfl)) (pss_cons (ps_expr (pe_bm PySem.F.plainAttrs_list PySem.F.slot_list_insert PySem.F.type_list_insert mt_insert (pv 7) (pa_cons pe_int (pa_cons pe_int pa_nil))))
      (pss_one (ps_expr (pe_bm PySem.F.plainAttrs_list PySem.F.slot_list_append PySem.F.type_list_append mt_append (pv 7) (pa_cons pe_int pa_nil))))))
      (pss_one (ps_ret pe_bl)))))))))
theorem sc_law : FnScope ["script", "first", "lineages", "books", "at", "k", "n", "turn"] ["script"] (defScope s_law) := ⟨rfl, rfl, rfl, by decide +kernel, rfl, by decide +kernel, by decide +kernel⟩
theorem d_law  {f : Addr} {cdv : Value} {A : Around} {outer : List Env} {s : Shared} {H : Hp} {E : XK} (T : Txt mg) (G_numbers : Hf P w K mg base 1 "_law_numbers" ["cell", "many"] (sp_numbers)) (G_cell : Hf P w K mg base 1 "_law_cell" ["script", "k"] (sp_cell K)) (M_Lineage : Hc P w K mg base 1 "Lineage" C ["self"] (sp_init C)) (G_call : Hf P w K mg base 11 "_law_call" ["lineage", "book", "n"] (sp_call K C)) (G_draw : Hf P w K mg base 2 "_law_draw" ["script", "k", "many"] (sp_draw K)) (G_as_due : Hf P w K mg base 10 "_law_as_due" ["lineage", "book"] (sp_due K C)) (hr : Room 11 (A.deeper (envOfC "law" (defScope s_law) s.heap.objs.size f cdv))) :
    PSs (cxOf CX0 P w K mg base ["script", "first", "lineages", "books", "at", "k", "n", "turn"] "law" (defScope s_law) f cdv A outer s H E).nox (defBody s_law) (rd_law K C) :=
  have hu := hu1 hr
  have hu64 := hu64 hr
  (pss_cons (ps_set (i := 1) sc_law.nd rfl (Or.inl rfl) (y_call G_numbers hr (by rfl) (pa_cons (y_call G_cell hr (by rfl) (pa_cons (pv 0) (pa_cons pe_int pa_nil))) (pa_cons pe_int pa_nil))))
      (pss_cons (ps_set (i := 2) sc_law.nd rfl (Or.inl rfl) (pe_lst (pa_cons (y_make0 M_Lineage hr (by rfl)) (pa_cons (y_make0 M_Lineage hr (by rfl)) pa_nil))))
      (pss_cons (ps_set (i := 3) sc_law.nd rfl (Or.inl rfl) (pe_lst (pa_cons (pe_disp (pps_cons pe_str (pe_lst pa_nil) (pps_cons pe_str pe_int pps_nil)) (by rfl) (by rfl) (fun z => by cases z) (by decide)) (pa_cons (pe_disp (pps_cons pe_str (pe_lst pa_nil) (pps_cons pe_str pe_int pps_nil)) (by rfl) (by rfl) (fun z => by cases z) (by decide)) pa_nil))))
      (pss_cons (ps_if (pt_cmpR (y_eq hu64) (pe_op o_mod (pe_ix (y_ix hu) (pv 1) pe_int (fun _ _ => rfl)) pe_int) pe_int (nomark _)) (pss_cons (ps_set (i := 4) sc_law.nd rfl (Or.inl rfl) (pe_op o_mod (pe_ix (y_ix hu) (pv 1) pe_int (fun _ _ => rfl)) pe_int))
      (pss_one (ps_for PassesOwn.never rfl (pi_range1 rfl T.range (pa_cons (pe_op o_mod (pe_ix (y_ix hu) (pv 1) pe_int (fun _ _ => rfl)) pe_int) pa_nil)) (pg_name (i := 5) sc_law.nd rfl (Or.inl rfl)) (pss_one (ps_if (pt_not (y_truth (y_call G_call hr (by rfl) (pa_cons (pe_ix (y_ix hu) (pv 2) (pv 4) (fun _ _ => rfl)) (pa_cons (pe_ix (y_ix hu) (pv 3) (pv 4) (fun _ _ => rfl)) (pa_cons (y_call G_numbers hr (by rfl) (pa_cons (pe_callTy call_int1 (by rfl) T.int (by decide +kernel) (pa_cons (pe_op o_add (pe_op o_mul (pe_ix (y_ix hu) (pv 1) pe_int (fun _ _ => rfl)) pe_int) (pe_op o_mul (pv 5) pe_int)) pa_nil)) (pa_cons pe_int pa_nil))) pa_nil)))) (by intro _; rfl))) (pss_one (ps_ret pe_bl)) pss_nil))))) pss_nil)
      (pss_cons (ps_for PassesOwn.never rfl (pi_range2 (by rfl) T.range (pa_cons pe_int (pa_cons (pe_callB (call_min2 rfl) (by rfl) T.min (by decide +kernel) (pa_cons pe_int (pa_cons (pe_callB (call_max2 rfl) (by rfl) T.max (by decide +kernel) (pa_cons pe_int (pa_cons (pe_callB y_len (by rfl) T.len (by decide +kernel) (pa_cons (pv 0) pa_nil)) pa_nil))) pa_nil))) pa_nil))) (pg_name (i := 5) sc_law.nd rfl (Or.inl rfl)) (pss_cons (ps_set (i := 6) sc_law.nd rfl (Or.inl rfl) (y_call G_draw hr (by rfl) (pa_cons (pv 0) (pa_cons (pv 5) (pa_cons pe_int pa_nil)))))
      (pss_cons (ps_set (i := 4) sc_law.nd rfl (Or.inl rfl) (pe_op o_mod (pe_ix (y_ix hu) (pv 6) pe_int (fun _ _ => rfl)) pe_int))
      (pss_cons (ps_if (pt_not (y_truth (y_call G_call hr (by rfl) (pa_cons (pe_ix (y_ix hu) (pv 2) (pv 4) (fun _ _ => rfl)) (pa_cons (pe_ix (y_ix hu) (pv 3) (pv 4) (fun _ _ => rfl)) (pa_cons (pv 6) pa_nil)))) (by intro _; rfl))) (pss_one (ps_ret pe_bl)) pss_nil)
      (pss_one (ps_if (PW.pt (pw_and (pt_cmpR (y_eq hu64) (pe_op o_mod (pv 5) pe_int) pe_int (nomark _)) (pw_and1 (pt_cmpR o_lt (pe_op o_add (pe_callB y_len (by rfl) T.len (by decide +kernel) (pa_cons (pe_ix (y_ix hu) (pe_ix (y_ix hu) (pv 3) pe_int (fun _ _ => rfl)) pe_str (fun _ _ => rfl)) pa_nil)) (pe_callB y_len (by rfl) T.len (by decide +kernel) (pa_cons (pe_ix (y_ix hu) (pe_ix (y_ix hu) (pv 3) pe_int (fun _ _ => rfl)) pe_str (fun _ _ => rfl)) pa_nil))) pe_int (nomark _))))) (pss_one (ps_if (PW.pt (pw_or (pt_not (y_truth (y_call G_as_due hr (by rfl) (pa_cons (pe_ix (y_ix hu) (pv 2) pe_int (fun _ _ => rfl)) (pa_cons (pe_ix (y_ix hu) (pv 3) pe_int (fun _ _ => rfl)) pa_nil))) (by intro _; rfl))) (pw_or1 (pt_not (y_truth (y_call G_as_due hr (by rfl) (pa_cons (pe_ix (y_ix hu) (pv 2) pe_int (fun _ _ => rfl)) (pa_cons (pe_ix (y_ix hu) (pv 3) pe_int (fun _ _ => rfl)) pa_nil))) (by intro _; rfl)))))) (pss_one (ps_ret pe_bl)) pss_nil)) pss_nil))))))
      (pss_cons (ps_for PassesOwn.never rfl (pi_range1 rfl T.range (pa_cons pe_int pa_nil)) (pg_name (i := 7) sc_law.nd rfl (Or.inl rfl)) (pss_one (ps_if (PW.pt (pw_or (pt_not (y_truth (y_call G_as_due hr (by rfl) (pa_cons (pe_ix (y_ix hu) (pv 2) pe_int (fun _ _ => rfl)) (pa_cons (pe_ix (y_ix hu) (pv 3) pe_int (fun _ _ => rfl)) pa_nil))) (by intro _; rfl))) (pw_or1 (pt_not (y_truth (y_call G_as_due hr (by rfl) (pa_cons (pe_ix (y_ix hu) (pv 2) pe_int (fun _ _ => rfl)) (pa_cons (pe_ix (y_ix hu) (pv 3) pe_int (fun _ _ => rfl)) pa_nil))) (by intro _; rfl)))))) (pss_one (ps_ret pe_bl)) pss_nil)))
      (pss_one (ps_ret pe_bl))))))))
end
end Z

namespace Z
open PySem PySem.Spec PyProof.Rows L2 Y
abbrev FnP (K : PySem.W.Frag) (x qual : Str) (st : Stmt) (f : Addr) (fd : FuncData) : Prop := FunD K x qual (defArgs st) (defBody st) (defScope st) [] [] f fd
section
variable {P : Program} {w : World} {K : PySem.W.Frag} {mg : Str → Option Value} {base : Heap} {C : Addr}
theorem ok_init  {f : Addr} {fd : FuncData} (F : FnP K "__init__" "Lineage.__init__" s_init f fd) (T : Txt mg) (CF : ClsFacts K C) : FnOk P w K mg base CX0 (0 + 1) f fd ["self"] (sp_init C) :=
  FunD.ok F sc_init (fun vs H Q E h => by obtain ⟨_, _, rfl, _⟩ := h; rfl) (fun cdv A outer s H vs Q E hr h => ⟨rd_init K C, PSs.nox (d_init T hr), p_init CF h⟩)
theorem ok_station  {f : Addr} {fd : FuncData} (F : FnP K "station" "Lineage.station" s_station f fd) (T : Txt mg) (CF : ClsFacts K C) : FnOk P w K mg base CX0 (0 + 1) f fd ["self"] (sp_station C) :=
  FunD.ok F sc_station (fun vs H Q E h => by obtain ⟨_, _, _, rfl, _⟩ := h; rfl) (fun cdv A outer s H vs Q E hr h => ⟨rd_station K C, PSs.nox (d_station T hr), p_station CF h⟩)
theorem ok_put  {f : Addr} {fd : FuncData} (F : FnP K "put" "Lineage.put" s_put f fd) (T : Txt mg) (CF : ClsFacts K C) : FnOk P w K mg base CX0 (0 + 1) f fd ["self", "name", "amount", "maker"] (sp_put C) :=
  FunD.ok F sc_put (fun vs H Q E h => by obtain ⟨_, _, _, _, _, _, _, rfl, _⟩ := h; rfl) (fun cdv A outer s H vs Q E hr h => ⟨rd_put K C, PSs.nox (d_put T hr), p_put CF h⟩)
theorem ok_enter  {f : Addr} {fd : FuncData} (F : FnP K "enter" "Lineage.enter" s_enter f fd) (T : Txt mg) (CF : ClsFacts K C) : FnOk P w K mg base CX0 (0 + 1) f fd ["self", "index", "station"] (sp_enter C) :=
  FunD.ok F sc_enter (fun vs H Q E h => by obtain ⟨_, _, _, _, _, _, rfl, _⟩ := h; rfl) (fun cdv A outer s H vs Q E hr h => ⟨rd_enter K C, PSs.nox (d_enter T hr), p_enter CF h⟩)
theorem ok_stations  {f : Addr} {fd : FuncData} (F : FnP K "stations" "Lineage.stations" s_stations f fd) (T : Txt mg) (CF : ClsFacts K C) : FnOk P w K mg base CX0 (0 + 1) f fd ["self"] (sp_stations C) :=
  FunD.ok F sc_stations (fun vs H Q E h => by obtain ⟨_, _, _, rfl, _⟩ := h; rfl) (fun cdv A outer s H vs Q E hr h => ⟨rd_stations K C, PSs.nox (d_stations T hr), p_stations CF h⟩)
theorem ok_carriers  {f : Addr} {fd : FuncData} (F : FnP K "carriers" "Lineage.carriers" s_carriers f fd) (T : Txt mg) (CF : ClsFacts K C) : FnOk P w K mg base CX0 (0 + 1) f fd ["self"] (sp_carriers C) :=
  FunD.ok F sc_carriers (fun vs H Q E h => by obtain ⟨_, _, _, rfl, _⟩ := h; rfl) (fun cdv A outer s H vs Q E hr h => ⟨rd_carriers K C, PSs.nox (d_carriers T hr), p_carriers CF h⟩)
theorem ok_carrier  {f : Addr} {fd : FuncData} (F : FnP K "carrier" "Lineage.carrier" s_carrier f fd) (T : Txt mg) (CF : ClsFacts K C) : FnOk P w K mg base CX0 (0 + 1) f fd ["self", "index"] (sp_carrier C) :=
  FunD.ok F sc_carrier (fun vs H Q E h => by obtain ⟨_, _, _, _, _, rfl, _⟩ := h; rfl) (fun cdv A outer s H vs Q E hr h => ⟨rd_carrier K C, PSs.nox (d_carrier T hr), p_carrier CF h⟩)
theorem ok_entering  {f : Addr} {fd : FuncData} (F : FnP K "entering" "Lineage.entering" s_entering f fd) (T : Txt mg) (CF : ClsFacts K C) : FnOk P w K mg base CX0 (0 + 1) f fd ["self", "station"] (sp_entering C) :=
  FunD.ok F sc_entering (fun vs H Q E h => by obtain ⟨_, _, _, _, rfl, _⟩ := h; rfl) (fun cdv A outer s H vs Q E hr h => ⟨rd_entering K C, PSs.nox (d_entering T hr), p_entering CF h⟩)
theorem ok_leaving  {f : Addr} {fd : FuncData} (F : FnP K "leaving" "Lineage.leaving" s_leaving f fd) (T : Txt mg) (CF : ClsFacts K C) : FnOk P w K mg base CX0 (0 + 1) f fd ["self", "station"] (sp_leaving C) :=
  FunD.ok F sc_leaving (fun vs H Q E h => by obtain ⟨_, _, _, _, rfl, _⟩ := h; rfl) (fun cdv A outer s H vs Q E hr h => ⟨rd_leaving K C, PSs.nox (d_leaving T hr), p_leaving CF h⟩)
theorem ok_outside  {f : Addr} {fd : FuncData} (F : FnP K "outside" "Lineage.outside" s_outside f fd) (T : Txt mg) (CF : ClsFacts K C) : FnOk P w K mg base CX0 (0 + 1) f fd ["self"] (sp_outside C) :=
  FunD.ok F sc_outside (fun vs H Q E h => by obtain ⟨_, _, _, rfl, _⟩ := h; rfl) (fun cdv A outer s H vs Q E hr h => ⟨rd_outside K C, PSs.nox (d_outside T hr), p_outside CF h⟩)
theorem ok_present  {f : Addr} {fd : FuncData} (F : FnP K "present" "Lineage.present" s_present f fd) (T : Txt mg) (CF : ClsFacts K C) : FnOk P w K mg base CX0 (0 + 1) f fd ["self"] (sp_present C) :=
  FunD.ok F sc_present (fun vs H Q E h => by obtain ⟨_, _, _, rfl, _⟩ := h; rfl) (fun cdv A outer s H vs Q E hr h => ⟨rd_present K C, PSs.nox (d_present T hr), p_present CF h⟩)
theorem ok_cell  {f : Addr} {fd : FuncData} (F : FnP K "_law_cell" "_law_cell" s_cell f fd) (T : Txt mg) (CF : ClsFacts K C) : FnOk P w K mg base CX0 (0 + 1) f fd ["script", "k"] (sp_cell K) :=
  FunD.ok F sc_cell (fun vs H Q E h => by obtain ⟨_, _, _, rfl, _⟩ := h; rfl) (fun cdv A outer s H vs Q E hr h => ⟨rd_cell K C, PSs.nox (d_cell T hr), p_cell h⟩)
theorem ok_numbers  {f : Addr} {fd : FuncData} (F : FnP K "_law_numbers" "_law_numbers" s_numbers f fd) (T : Txt mg) (CF : ClsFacts K C) : FnOk P w K mg base CX0 (0 + 1) f fd ["cell", "many"] (sp_numbers) :=
  FunD.ok F sc_numbers (fun vs H Q E h => by obtain ⟨_, _, rfl, _⟩ := h; rfl) (fun cdv A outer s H vs Q E hr h => ⟨rd_numbers K C, PSs.nox (d_numbers T hr), p_numbers h⟩)
theorem ok_draw  {f : Addr} {fd : FuncData} (F : FnP K "_law_draw" "_law_draw" s_draw f fd) (T : Txt mg) (CF : ClsFacts K C) (G_numbers : Hf P w K mg base 1 "_law_numbers" ["cell", "many"] (sp_numbers)) (G_cell : Hf P w K mg base 1 "_law_cell" ["script", "k"] (sp_cell K)) : FnOk P w K mg base CX0 (1 + 1) f fd ["script", "k", "many"] (sp_draw K) :=
  FunD.ok F sc_draw (fun vs H Q E h => by obtain ⟨_, _, _, _, rfl, _⟩ := h; rfl) (fun cdv A outer s H vs Q E hr h => ⟨rd_draw K C, PSs.nox (d_draw T G_numbers G_cell hr), p_draw h⟩)
theorem ok_same {n : Nat} {f : Addr} {fd : FuncData} (F : FnP K "_law_same" "_law_same" s_same f fd) (T : Txt mg) (CF : ClsFacts K C) (G_same : Hf P w K mg base (n + 1) "_law_same" ["told", "due"] (sp_same K n)) : FnOk P w K mg base CX0 ((n + 1) + 1) f fd ["told", "due"] (sp_same K (n + 1)) :=
  FunD.ok F sc_same (fun vs H Q E h => by obtain ⟨_, _, _, _, rfl, _⟩ := h; rfl) (fun cdv A outer s H vs Q E hr h => ⟨rd_same K C n, PSs.nox (d_same T G_same hr), p_same h⟩)
theorem ok_name  {f : Addr} {fd : FuncData} (F : FnP K "_law_name" "_law_name" s_name f fd) (T : Txt mg) (CF : ClsFacts K C) : FnOk P w K mg base CX0 (0 + 1) f fd ["n"] (sp_name) :=
  FunD.ok F sc_name (fun vs H Q E h => by obtain ⟨_, rfl, _⟩ := h; rfl) (fun cdv A outer s H vs Q E hr h => ⟨rd_name K C, PSs.nox (d_name T hr), p_name h⟩)
theorem ok_amount  {f : Addr} {fd : FuncData} (F : FnP K "_law_amount" "_law_amount" s_amount f fd) (T : Txt mg) (CF : ClsFacts K C) : FnOk P w K mg base CX0 (0 + 1) f fd ["n"] (sp_amount) :=
  FunD.ok F sc_amount (fun vs H Q E h => by obtain ⟨_, rfl, _⟩ := h; rfl) (fun cdv A outer s H vs Q E hr h => ⟨rd_amount K C, PSs.nox (d_amount T hr), p_amount h⟩)
theorem ok_open  {f : Addr} {fd : FuncData} (F : FnP K "_law_open" "_law_open" s_open f fd) (T : Txt mg) (CF : ClsFacts K C) : FnOk P w K mg base CX0 (0 + 1) f fd ["book"] (sp_open K) :=
  FunD.ok F sc_open (fun vs H Q E h => by obtain ⟨_, _, _, rfl, _⟩ := h; rfl) (fun cdv A outer s H vs Q E hr h => ⟨rd_open K C, PSs.nox (d_open T hr), p_open h⟩)
theorem ok_add  {f : Addr} {fd : FuncData} (F : FnP K "_law_add" "_law_add" s_add f fd) (T : Txt mg) (CF : ClsFacts K C) (G_name : Hf P w K mg base 1 "_law_name" ["n"] (sp_name)) (G_amount : Hf P w K mg base 1 "_law_amount" ["n"] (sp_amount)) (G_m_put : Hm P w K mg base 1 C "put" ["self", "name", "amount", "maker"] (sp_put C)) (G_same : Hf P w K mg base 9 "_law_same" ["told", "due"] (sp_same K 8)) (G_m_carrier : Hm P w K mg base 1 C "carrier" ["self", "index"] (sp_carrier C)) : FnOk P w K mg base CX0 (9 + 1) f fd ["lineage", "book", "n", "maker"] (sp_add K C) :=
  FunD.ok F sc_add (fun vs H Q E h => by obtain ⟨_, _, _, _, _, _, rfl, _⟩ := h; rfl) (fun cdv A outer s H vs Q E hr h => ⟨rd_add K C, PSs.nox (d_add T G_name G_amount G_m_put G_same G_m_carrier hr), p_add CF h⟩)
theorem ok_lenter  {f : Addr} {fd : FuncData} (F : FnP K "_law_enter" "_law_enter" s_lenter f fd) (T : Txt mg) (CF : ClsFacts K C) (G_open : Hf P w K mg base 1 "_law_open" ["book"] (sp_open K)) (G_m_enter : Hm P w K mg base 1 C "enter" ["self", "index", "station"] (sp_enter C)) (G_same : Hf P w K mg base 9 "_law_same" ["told", "due"] (sp_same K 8)) (G_m_carrier : Hm P w K mg base 1 C "carrier" ["self", "index"] (sp_carrier C)) : FnOk P w K mg base CX0 (9 + 1) f fd ["lineage", "book", "n"] (sp_lenter K C) :=
  FunD.ok F sc_lenter (fun vs H Q E h => by obtain ⟨_, _, _, _, _, rfl, _⟩ := h; rfl) (fun cdv A outer s H vs Q E hr h => ⟨rd_lenter K C, PSs.nox (d_lenter T G_open G_m_enter G_same G_m_carrier hr), p_lenter CF h⟩)
theorem ok_call  {f : Addr} {fd : FuncData} (F : FnP K "_law_call" "_law_call" s_call f fd) (T : Txt mg) (CF : ClsFacts K C) (G_m_station : Hm P w K mg base 1 C "station" ["self"] (sp_station C)) (G_same : Hf P w K mg base 9 "_law_same" ["told", "due"] (sp_same K 8)) (G_open : Hf P w K mg base 1 "_law_open" ["book"] (sp_open K)) (G_lenter : Hf P w K mg base 10 "_law_enter" ["lineage", "book", "n"] (sp_lenter K C)) (G_add : Hf P w K mg base 10 "_law_add" ["lineage", "book", "n", "maker"] (sp_add K C)) : FnOk P w K mg base CX0 (10 + 1) f fd ["lineage", "book", "n"] (sp_call K C) :=
  FunD.ok F sc_call (fun vs H Q E h => by obtain ⟨_, _, _, _, _, rfl, _⟩ := h; rfl) (fun cdv A outer s H vs Q E hr h => ⟨rd_call K C, PSs.nox (d_call T G_m_station G_same G_open G_lenter G_add hr), p_call CF h⟩)
theorem ok_as_due  {f : Addr} {fd : FuncData} (F : FnP K "_law_as_due" "_law_as_due" s_as_due f fd) (T : Txt mg) (CF : ClsFacts K C) (G_m_carriers : Hm P w K mg base 1 C "carriers" ["self"] (sp_carriers C)) (G_m_outside : Hm P w K mg base 1 C "outside" ["self"] (sp_outside C)) (G_m_present : Hm P w K mg base 1 C "present" ["self"] (sp_present C)) (G_open : Hf P w K mg base 1 "_law_open" ["book"] (sp_open K)) (G_m_entering : Hm P w K mg base 1 C "entering" ["self", "station"] (sp_entering C)) (G_m_leaving : Hm P w K mg base 1 C "leaving" ["self", "station"] (sp_leaving C)) (G_same : Hf P w K mg base 9 "_law_same" ["told", "due"] (sp_same K 8)) (G_m_stations : Hm P w K mg base 1 C "stations" ["self"] (sp_stations C)) (G_m_carrier : Hm P w K mg base 1 C "carrier" ["self", "index"] (sp_carrier C)) : FnOk P w K mg base CX0 (9 + 1) f fd ["lineage", "book"] (sp_due K C) :=
  FunD.ok F sc_as_due (fun vs H Q E h => by obtain ⟨_, _, _, _, rfl, _⟩ := h; rfl) (fun cdv A outer s H vs Q E hr h => ⟨rd_as_due K C, PSs.nox (d_as_due T G_m_carriers G_m_outside G_m_present G_open G_m_entering G_m_leaving G_same G_m_stations G_m_carrier hr), p_as_due CF h⟩)
theorem ok_law  {f : Addr} {fd : FuncData} (F : FnP K "law" "law" s_law f fd) (T : Txt mg) (CF : ClsFacts K C) (G_numbers : Hf P w K mg base 1 "_law_numbers" ["cell", "many"] (sp_numbers)) (G_cell : Hf P w K mg base 1 "_law_cell" ["script", "k"] (sp_cell K)) (M_Lineage : Hc P w K mg base 1 "Lineage" C ["self"] (sp_init C)) (G_call : Hf P w K mg base 11 "_law_call" ["lineage", "book", "n"] (sp_call K C)) (G_draw : Hf P w K mg base 2 "_law_draw" ["script", "k", "many"] (sp_draw K)) (G_as_due : Hf P w K mg base 10 "_law_as_due" ["lineage", "book"] (sp_due K C)) : FnOk P w K mg base CX0 (11 + 1) f fd ["script"] (sp_law K C) :=
  FunD.ok F sc_law (fun vs H Q E h => by obtain ⟨_, _, rfl, _⟩ := h; rfl) (fun cdv A outer s H vs Q E hr h => ⟨rd_law K C, PSs.nox (d_law T G_numbers G_cell M_Lineage G_call G_draw G_as_due hr), p_law CF h⟩)
end
def dd_init : He.DefD := ⟨("Lineage", some "__init__"), "__init__", "Lineage.__init__", defArgs s_init, defBody s_init, defScope s_init, [], []⟩
def dd_station : He.DefD := ⟨("Lineage", some "station"), "station", "Lineage.station", defArgs s_station, defBody s_station, defScope s_station, [], []⟩
def dd_put : He.DefD := ⟨("Lineage", some "put"), "put", "Lineage.put", defArgs s_put, defBody s_put, defScope s_put, [], []⟩
def dd_enter : He.DefD := ⟨("Lineage", some "enter"), "enter", "Lineage.enter", defArgs s_enter, defBody s_enter, defScope s_enter, [], []⟩
def dd_stations : He.DefD := ⟨("Lineage", some "stations"), "stations", "Lineage.stations", defArgs s_stations, defBody s_stations, defScope s_stations, [], []⟩
def dd_carriers : He.DefD := ⟨("Lineage", some "carriers"), "carriers", "Lineage.carriers", defArgs s_carriers, defBody s_carriers, defScope s_carriers, [], []⟩
def dd_carrier : He.DefD := ⟨("Lineage", some "carrier"), "carrier", "Lineage.carrier", defArgs s_carrier, defBody s_carrier, defScope s_carrier, [], []⟩
def dd_entering : He.DefD := ⟨("Lineage", some "entering"), "entering", "Lineage.entering", defArgs s_entering, defBody s_entering, defScope s_entering, [], []⟩
def dd_leaving : He.DefD := ⟨("Lineage", some "leaving"), "leaving", "Lineage.leaving", defArgs s_leaving, defBody s_leaving, defScope s_leaving, [], []⟩
def dd_outside : He.DefD := ⟨("Lineage", some "outside"), "outside", "Lineage.outside", defArgs s_outside, defBody s_outside, defScope s_outside, [], []⟩
def dd_present : He.DefD := ⟨("Lineage", some "present"), "present", "Lineage.present", defArgs s_present, defBody s_present, defScope s_present, [], []⟩
def dd_cell : He.DefD := ⟨("_law_cell", none), "_law_cell", "_law_cell", defArgs s_cell, defBody s_cell, defScope s_cell, [], []⟩
def dd_numbers : He.DefD := ⟨("_law_numbers", none), "_law_numbers", "_law_numbers", defArgs s_numbers, defBody s_numbers, defScope s_numbers, [], []⟩
def dd_draw : He.DefD := ⟨("_law_draw", none), "_law_draw", "_law_draw", defArgs s_draw, defBody s_draw, defScope s_draw, [], []⟩
def dd_same : He.DefD := ⟨("_law_same", none), "_law_same", "_law_same", defArgs s_same, defBody s_same, defScope s_same, [], []⟩
def dd_name : He.DefD := ⟨("_law_name", none), "_law_name", "_law_name", defArgs s_name, defBody s_name, defScope s_name, [], []⟩
def dd_amount : He.DefD := ⟨("_law_amount", none), "_law_amount", "_law_amount", defArgs s_amount, defBody s_amount, defScope s_amount, [], []⟩
def dd_open : He.DefD := ⟨("_law_open", none), "_law_open", "_law_open", defArgs s_open, defBody s_open, defScope s_open, [], []⟩
def dd_add : He.DefD := ⟨("_law_add", none), "_law_add", "_law_add", defArgs s_add, defBody s_add, defScope s_add, [], []⟩
def dd_lenter : He.DefD := ⟨("_law_enter", none), "_law_enter", "_law_enter", defArgs s_lenter, defBody s_lenter, defScope s_lenter, [], []⟩
def dd_call : He.DefD := ⟨("_law_call", none), "_law_call", "_law_call", defArgs s_call, defBody s_call, defScope s_call, [], []⟩
def dd_as_due : He.DefD := ⟨("_law_as_due", none), "_law_as_due", "_law_as_due", defArgs s_as_due, defBody s_as_due, defScope s_as_due, [], []⟩
def dd_law : He.DefD := ⟨("law", none), "law", "law", defArgs s_law, defBody s_law, defScope s_law, [], []⟩
def fn0 : List He.DefD := [dd_init, dd_station, dd_put, dd_enter, dd_stations, dd_carriers, dd_carrier, dd_entering, dd_leaving, dd_outside, dd_present, dd_cell, dd_numbers, dd_draw, dd_same, dd_name, dd_amount, dd_open, dd_add, dd_lenter, dd_call, dd_as_due, dd_law]
def fn : List He.DefD := fn0
def fa0 : List He.Fa := [.free "len", .free "range", .free "enumerate", .free "list", .free "tuple", .free "str", .free "int", .free "bool", .free "abs", .free "min", .free "max", .free "sorted", .free "isinstance", .glo "Lineage", .cls "Lineage", .noat "Lineage" "_carriers", .noat "Lineage" "_ins", .noat "Lineage" "_outs", .mkr "Lineage", .meth "Lineage" "station", .meth "Lineage" "put", .meth "Lineage" "enter", .meth "Lineage" "stations", .meth "Lineage" "carriers", .meth "Lineage" "carrier", .meth "Lineage" "entering", .meth "Lineage" "leaving", .meth "Lineage" "outside", .meth "Lineage" "present", .glo "_law_cell"]
def fa1 : List He.Fa := [.glo "_law_numbers", .glo "_law_draw", .glo "_law_same", .glo "_law_name", .glo "_law_amount", .glo "_law_open", .glo "_law_add", .glo "_law_enter", .glo "_law_call", .glo "_law_as_due", .glo "law"]
def fa : List He.Fa := fa0 ++ fa1
def names0 : List PySem.Str := ["Lineage", "_law_cell", "_law_numbers", "_law_draw", "_law_same", "_law_name", "_law_amount", "_law_open", "_law_add", "_law_enter", "_law_call", "_law_as_due"]
def names : List PySem.Str := names0
abbrev R : PySem.W.OpenRow := PySem.W.OpenLaw.row PySem.Challenge.rw_oathcoin_k68_carriers
abbrev hk : PySem.W.Hook := He.hookD 6 fa fn
def ob (s : PySem.W.SharedT) : He.AlD := He.obsDG 6 fa fn (HandSHeadRun.getT s)
theorem ob_eq (s : PySem.W.SharedT) : ob s = hk.obs s.abs := He.obsDG_eq (HandSHeadRun.getT_eq s)
theorem run (w : World) : HandSHeadRun.RunEq R (PySem.W.view R.prog [14]) hk ob 4000 names w := by
  intro os
  kernel_rfl
theorem facts {P : Program} {w : World} {K : PySem.W.Frag} {h : Heap} {mg : Str → Option Value} {f : Addr} (X : K.In h) (G : h.Ns mainGlobals mg) (hfa : mg ("law" : Str) = some (.ref f)) (c : He.SaysD fa fn K) :
    ∃ (fd : FuncData) (C : Addr), (∀ (s : Shared) (v : Value), BindsTo s fd ⟨[v], []⟩ [("script", v)]) ∧ ∀ base : Heap, K.In base → base.Ns mainGlobals mg → FnOk P w K mg base CX0 (11 + 1) f fd ["script"] (sp_law K C) := by
  obtain ⟨fd_init, F_init⟩ := c.def_ 0 (d := dd_init) rfl
  obtain ⟨fd_station, F_station⟩ := c.def_ 1 (d := dd_station) rfl
  obtain ⟨fd_put, F_put⟩ := c.def_ 2 (d := dd_put) rfl
  obtain ⟨fd_enter, F_enter⟩ := c.def_ 3 (d := dd_enter) rfl
  obtain ⟨fd_stations, F_stations⟩ := c.def_ 4 (d := dd_stations) rfl
  obtain ⟨fd_carriers, F_carriers⟩ := c.def_ 5 (d := dd_carriers) rfl
  obtain ⟨fd_carrier, F_carrier⟩ := c.def_ 6 (d := dd_carrier) rfl
  obtain ⟨fd_entering, F_entering⟩ := c.def_ 7 (d := dd_entering) rfl
  obtain ⟨fd_leaving, F_leaving⟩ := c.def_ 8 (d := dd_leaving) rfl
  obtain ⟨fd_outside, F_outside⟩ := c.def_ 9 (d := dd_outside) rfl
  obtain ⟨fd_present, F_present⟩ := c.def_ 10 (d := dd_present) rfl
  obtain ⟨fd_cell, F_cell⟩ := c.def_ 11 (d := dd_cell) rfl
  obtain ⟨fd_numbers, F_numbers⟩ := c.def_ 12 (d := dd_numbers) rfl
  obtain ⟨fd_draw, F_draw⟩ := c.def_ 13 (d := dd_draw) rfl
  obtain ⟨fd_same, F_same⟩ := c.def_ 14 (d := dd_same) rfl
  obtain ⟨fd_name, F_name⟩ := c.def_ 15 (d := dd_name) rfl
  obtain ⟨fd_amount, F_amount⟩ := c.def_ 16 (d := dd_amount) rfl
  obtain ⟨fd_open, F_open⟩ := c.def_ 17 (d := dd_open) rfl
  obtain ⟨fd_add, F_add⟩ := c.def_ 18 (d := dd_add) rfl
  obtain ⟨fd_lenter, F_lenter⟩ := c.def_ 19 (d := dd_lenter) rfl
  obtain ⟨fd_call, F_call⟩ := c.def_ 20 (d := dd_call) rfl
  obtain ⟨fd_as_due, F_as_due⟩ := c.def_ 21 (d := dd_as_due) rfl
  obtain ⟨fd_law, F_law⟩ := c.def_ 22 (d := dd_law) rfl
  have T : Txt mg := ⟨He.free_ok X G (c.fact 0 (f := .free "len") rfl), He.free_ok X G (c.fact 1 (f := .free "range") rfl), He.free_ok X G (c.fact 2 (f := .free "enumerate") rfl), He.free_ok X G (c.fact 3 (f := .free "list") rfl), He.free_ok X G (c.fact 4 (f := .free "tuple") rfl), He.free_ok X G (c.fact 5 (f := .free "str") rfl), He.free_ok X G (c.fact 6 (f := .free "int") rfl), He.free_ok X G (c.fact 7 (f := .free "bool") rfl), He.free_ok X G (c.fact 8 (f := .free "abs") rfl), He.free_ok X G (c.fact 9 (f := .free "min") rfl), He.free_ok X G (c.fact 10 (f := .free "max") rfl), He.free_ok X G (c.fact 11 (f := .free "sorted") rfl), He.free_ok X G (c.fact 12 (f := .free "isinstance") rfl)⟩
  have CF : ClsFacts K (He.ga K "Lineage") := ⟨He.cls_ok (c.fact 14 (f := .cls "Lineage") rfl), He.noat_ok (c.fact 15 (f := .noat "Lineage" "_carriers") rfl), He.noat_ok (c.fact 16 (f := .noat "Lineage" "_ins") rfl), He.noat_ok (c.fact 17 (f := .noat "Lineage" "_outs") rfl)⟩
  have e := hfa.symm.trans (He.glo_ok X G (c.fact 40 (f := .glo "law") rfl))
  cases e
  have b_law := FunD.bindsA (ps := ["script"]) F_law fun _ _ _ _ _ _ us hl => match us, hl with | [_], _ => rfl
  refine ⟨fd_law, (He.ga K "Lineage"), fun s v => b_law s [v] rfl, fun base _ _ => ?_⟩
  have M_Lineage : Hc P w K mg base (0 + 1) "Lineage" (He.ga K "Lineage") ["self"] (sp_init (He.ga K "Lineage")) := ⟨He.glo_ok X G (c.fact 13 (f := .glo "Lineage") rfl), _, _, He.mkr_ok (c.fact 18 (f := .mkr "Lineage") rfl), (FunD.bindsN (ps := ["self"]) F_init fun _ _ _ _ _ _ us hl => match us, hl with | [_], _ => rfl), ok_init F_init T CF⟩
  have G_m_station : Hm P w K mg base (0 + 1) (He.ga K "Lineage") "station" ["self"] (sp_station (He.ga K "Lineage")) := ⟨He.cls_ok (c.fact 14 (f := .cls "Lineage") rfl), _, _, He.meth_ok (c.fact 19 (f := .meth "Lineage" "station") rfl), (FunD.bindsN (ps := ["self"]) F_station fun _ _ _ _ _ _ us hl => match us, hl with | [_], _ => rfl), ok_station F_station T CF⟩
  have G_m_put : Hm P w K mg base (0 + 1) (He.ga K "Lineage") "put" ["self", "name", "amount", "maker"] (sp_put (He.ga K "Lineage")) := ⟨He.cls_ok (c.fact 14 (f := .cls "Lineage") rfl), _, _, He.meth_ok (c.fact 20 (f := .meth "Lineage" "put") rfl), (FunD.bindsN (ps := ["self", "name", "amount", "maker"]) F_put fun _ _ _ _ _ _ us hl => match us, hl with | [_, _, _, _], _ => rfl), ok_put F_put T CF⟩
  have G_m_enter : Hm P w K mg base (0 + 1) (He.ga K "Lineage") "enter" ["self", "index", "station"] (sp_enter (He.ga K "Lineage")) := ⟨He.cls_ok (c.fact 14 (f := .cls "Lineage") rfl), _, _, He.meth_ok (c.fact 21 (f := .meth "Lineage" "enter") rfl), (FunD.bindsN (ps := ["self", "index", "station"]) F_enter fun _ _ _ _ _ _ us hl => match us, hl with | [_, _, _], _ => rfl), ok_enter F_enter T CF⟩
  have G_m_stations : Hm P w K mg base (0 + 1) (He.ga K "Lineage") "stations" ["self"] (sp_stations (He.ga K "Lineage")) := ⟨He.cls_ok (c.fact 14 (f := .cls "Lineage") rfl), _, _, He.meth_ok (c.fact 22 (f := .meth "Lineage" "stations") rfl), (FunD.bindsN (ps := ["self"]) F_stations fun _ _ _ _ _ _ us hl => match us, hl with | [_], _ => rfl), ok_stations F_stations T CF⟩
  have G_m_carriers : Hm P w K mg base (0 + 1) (He.ga K "Lineage") "carriers" ["self"] (sp_carriers (He.ga K "Lineage")) := ⟨He.cls_ok (c.fact 14 (f := .cls "Lineage") rfl), _, _, He.meth_ok (c.fact 23 (f := .meth "Lineage" "carriers") rfl), (FunD.bindsN (ps := ["self"]) F_carriers fun _ _ _ _ _ _ us hl => match us, hl with | [_], _ => rfl), ok_carriers F_carriers T CF⟩
  have G_m_carrier : Hm P w K mg base (0 + 1) (He.ga K "Lineage") "carrier" ["self", "index"] (sp_carrier (He.ga K "Lineage")) := ⟨He.cls_ok (c.fact 14 (f := .cls "Lineage") rfl), _, _, He.meth_ok (c.fact 24 (f := .meth "Lineage" "carrier") rfl), (FunD.bindsN (ps := ["self", "index"]) F_carrier fun _ _ _ _ _ _ us hl => match us, hl with | [_, _], _ => rfl), ok_carrier F_carrier T CF⟩
  have G_m_entering : Hm P w K mg base (0 + 1) (He.ga K "Lineage") "entering" ["self", "station"] (sp_entering (He.ga K "Lineage")) := ⟨He.cls_ok (c.fact 14 (f := .cls "Lineage") rfl), _, _, He.meth_ok (c.fact 25 (f := .meth "Lineage" "entering") rfl), (FunD.bindsN (ps := ["self", "station"]) F_entering fun _ _ _ _ _ _ us hl => match us, hl with | [_, _], _ => rfl), ok_entering F_entering T CF⟩
  have G_m_leaving : Hm P w K mg base (0 + 1) (He.ga K "Lineage") "leaving" ["self", "station"] (sp_leaving (He.ga K "Lineage")) := ⟨He.cls_ok (c.fact 14 (f := .cls "Lineage") rfl), _, _, He.meth_ok (c.fact 26 (f := .meth "Lineage" "leaving") rfl), (FunD.bindsN (ps := ["self", "station"]) F_leaving fun _ _ _ _ _ _ us hl => match us, hl with | [_, _], _ => rfl), ok_leaving F_leaving T CF⟩
  have G_m_outside : Hm P w K mg base (0 + 1) (He.ga K "Lineage") "outside" ["self"] (sp_outside (He.ga K "Lineage")) := ⟨He.cls_ok (c.fact 14 (f := .cls "Lineage") rfl), _, _, He.meth_ok (c.fact 27 (f := .meth "Lineage" "outside") rfl), (FunD.bindsN (ps := ["self"]) F_outside fun _ _ _ _ _ _ us hl => match us, hl with | [_], _ => rfl), ok_outside F_outside T CF⟩
  have G_m_present : Hm P w K mg base (0 + 1) (He.ga K "Lineage") "present" ["self"] (sp_present (He.ga K "Lineage")) := ⟨He.cls_ok (c.fact 14 (f := .cls "Lineage") rfl), _, _, He.meth_ok (c.fact 28 (f := .meth "Lineage" "present") rfl), (FunD.bindsN (ps := ["self"]) F_present fun _ _ _ _ _ _ us hl => match us, hl with | [_], _ => rfl), ok_present F_present T CF⟩
  have G_cell : Hf P w K mg base (0 + 1) "_law_cell" ["script", "k"] (sp_cell K) := ⟨_, _, He.glo_ok X G (c.fact 29 (f := .glo "_law_cell") rfl), F_cell.kp, (FunD.bindsN (ps := ["script", "k"]) F_cell fun _ _ _ _ _ _ us hl => match us, hl with | [_, _], _ => rfl), ok_cell F_cell T CF⟩
  have G_numbers : Hf P w K mg base (0 + 1) "_law_numbers" ["cell", "many"] (sp_numbers) := ⟨_, _, He.glo_ok X G (c.fact 30 (f := .glo "_law_numbers") rfl), F_numbers.kp, (FunD.bindsN (ps := ["cell", "many"]) F_numbers fun _ _ _ _ _ _ us hl => match us, hl with | [_, _], _ => rfl), ok_numbers F_numbers T CF⟩
  have G_draw : Hf P w K mg base (1 + 1) "_law_draw" ["script", "k", "many"] (sp_draw K) := ⟨_, _, He.glo_ok X G (c.fact 31 (f := .glo "_law_draw") rfl), F_draw.kp, (FunD.bindsN (ps := ["script", "k", "many"]) F_draw fun _ _ _ _ _ _ us hl => match us, hl with | [_, _, _], _ => rfl), ok_draw F_draw T CF G_numbers G_cell⟩
  have G_sameN : ∀ n : Nat, Hf P w K mg base (n + 1) "_law_same" ["told", "due"] (sp_same K n) := by
    intro n
    induction n with
    | zero => exact ⟨_, _, He.glo_ok X G (c.fact 32 (f := .glo "_law_same") rfl), F_same.kp, (FunD.bindsN (ps := ["told", "due"]) F_same fun _ _ _ _ _ _ us hl => match us, hl with | [_, _], _ => rfl), fn_false fun vs H Q E h => by obtain ⟨_, _, _, _, _, h, _⟩ := h; omega⟩
    | succ n ih => exact ⟨_, _, He.glo_ok X G (c.fact 32 (f := .glo "_law_same") rfl), F_same.kp, (FunD.bindsN (ps := ["told", "due"]) F_same fun _ _ _ _ _ _ us hl => match us, hl with | [_, _], _ => rfl), ok_same F_same T CF ih⟩
  have G_same := G_sameN 8
  have G_name : Hf P w K mg base (0 + 1) "_law_name" ["n"] (sp_name) := ⟨_, _, He.glo_ok X G (c.fact 33 (f := .glo "_law_name") rfl), F_name.kp, (FunD.bindsN (ps := ["n"]) F_name fun _ _ _ _ _ _ us hl => match us, hl with | [_], _ => rfl), ok_name F_name T CF⟩
  have G_amount : Hf P w K mg base (0 + 1) "_law_amount" ["n"] (sp_amount) := ⟨_, _, He.glo_ok X G (c.fact 34 (f := .glo "_law_amount") rfl), F_amount.kp, (FunD.bindsN (ps := ["n"]) F_amount fun _ _ _ _ _ _ us hl => match us, hl with | [_], _ => rfl), ok_amount F_amount T CF⟩
  have G_open : Hf P w K mg base (0 + 1) "_law_open" ["book"] (sp_open K) := ⟨_, _, He.glo_ok X G (c.fact 35 (f := .glo "_law_open") rfl), F_open.kp, (FunD.bindsN (ps := ["book"]) F_open fun _ _ _ _ _ _ us hl => match us, hl with | [_], _ => rfl), ok_open F_open T CF⟩
  have G_add : Hf P w K mg base (9 + 1) "_law_add" ["lineage", "book", "n", "maker"] (sp_add K (He.ga K "Lineage")) := ⟨_, _, He.glo_ok X G (c.fact 36 (f := .glo "_law_add") rfl), F_add.kp, (FunD.bindsN (ps := ["lineage", "book", "n", "maker"]) F_add fun _ _ _ _ _ _ us hl => match us, hl with | [_, _, _, _], _ => rfl), ok_add F_add T CF G_name G_amount G_m_put G_same G_m_carrier⟩
  have G_lenter : Hf P w K mg base (9 + 1) "_law_enter" ["lineage", "book", "n"] (sp_lenter K (He.ga K "Lineage")) := ⟨_, _, He.glo_ok X G (c.fact 37 (f := .glo "_law_enter") rfl), F_lenter.kp, (FunD.bindsN (ps := ["lineage", "book", "n"]) F_lenter fun _ _ _ _ _ _ us hl => match us, hl with | [_, _, _], _ => rfl), ok_lenter F_lenter T CF G_open G_m_enter G_same G_m_carrier⟩
  have G_call : Hf P w K mg base (10 + 1) "_law_call" ["lineage", "book", "n"] (sp_call K (He.ga K "Lineage")) := ⟨_, _, He.glo_ok X G (c.fact 38 (f := .glo "_law_call") rfl), F_call.kp, (FunD.bindsN (ps := ["lineage", "book", "n"]) F_call fun _ _ _ _ _ _ us hl => match us, hl with | [_, _, _], _ => rfl), ok_call F_call T CF G_m_station G_same G_open G_lenter G_add⟩
  have G_as_due : Hf P w K mg base (9 + 1) "_law_as_due" ["lineage", "book"] (sp_due K (He.ga K "Lineage")) := ⟨_, _, He.glo_ok X G (c.fact 39 (f := .glo "_law_as_due") rfl), F_as_due.kp, (FunD.bindsN (ps := ["lineage", "book"]) F_as_due fun _ _ _ _ _ _ us hl => match us, hl with | [_, _], _ => rfl), ok_as_due F_as_due T CF G_m_carriers G_m_outside G_m_present G_open G_m_entering G_m_leaving G_same G_m_stations G_m_carrier⟩
  exact ok_law F_law T CF G_numbers G_cell M_Lineage G_call G_draw G_as_due
end Z
open PySem PySem.W PySem.Calls PyProof.Rows
theorem PySem.Challenge.cw_oathcoin_k68_carriers_holds : PySem.Challenge.rw_oathcoin_k68_carriers.Holds := by
  w_on; o_law
  refine HandSHeadRun.head_any (r := OpenLaw.row PySem.Challenge.rw_oathcoin_k68_carriers) (q := view (OpenLaw.row PySem.Challenge.rw_oathcoin_k68_carriers).prog [14]) (H := Z.hk) (ob := Z.ob) (M := 4000) (loose := Z.names) (d := HandSHeadRun.topDef (OpenLaw.row PySem.Challenge.rw_oathcoin_k68_carriers).prog 14) (kwd := []) Z.ob_eq
    (by kernel_rfl) (fun s => by kernel_rfl) Z.run (by kernel_rfl) (by kernel_rfl) (by kernel_rfl) (by rfl) (by first | assumption | decide +kernel) (by decide +kernel) ⟨rfl, rfl, rfl, rfl, rfl, by decide +kernel⟩ ?hw ?hc
  case hw => w_witness2
  case hc =>
    refine L2.walk_ofE (l := PySem.Challenge.rw_oathcoin_k68_carriers) (n := 63) (k := 11 + 1) (x := "script") (CX := L2.CX0) rfl (by decide) (by kernel_rfl) ⟨rfl, by decide, by decide⟩ ?F (fun _ _ _ _ z => z)
    intro w mg fa h Y G hmg0
    obtain ⟨K, KX, c⟩ := Y
    have hmg : mg ("law" : PySem.Str) = some (.ref fa) := by
      have e : (HandSHeadRun.topDef (OpenLaw.row PySem.Challenge.rw_oathcoin_k68_carriers).prog 14).name = ("law" : PySem.Str) := by kernel_rfl
      rw [← e]
      exact hmg0
    obtain ⟨fd, C, hb, hF⟩ := Z.facts (P := (PySem.Challenge.rw_oathcoin_k68_carriers).prog) (w := w) KX G hmg c
    exact ⟨K, fd, Z.sp_law K C, KX, hb, fun H a ns hl hO hS => ⟨a, ns, rfl, hO, hS, hl, fun _ => rfl⟩, hF⟩
#print axioms PySem.Challenge.cw_oathcoin_k68_carriers_holds
