import PyProof.Rows.All
import Wide.All
import OpenK.AllK
import Wide.FinOn
import HandS.ForMost
import HandS.Exc
import HandS.TryOnly
import HandS.TryMany
import HandS.ExcOwn
import HandS.WordsExc
import HandS.Wide
import HandS.IsInst
import HandS.Property
import HandS.Small
import HandS.Star
import HandS.Style
import HandS.TupAny
import HandS.TupMul
import KE.GoesEnum
import HandS.Walk
import HandS.Iter
import HandS.Dict
import HandS.Conv
import HandS.SortInts
import HandS.SortRule
import HandS.Set
import PySem.Challenge.RW_splitpoints_k26_known_rules
set_option pp.maxSteps 300
set_option Elab.async false
set_option linter.all false
set_option maxRecDepth 100000
set_option maxHeartbeats 8000000
namespace Spt
open PySem PySem.Spec L2
open PyProof.Rows hiding St

/-! ### universal operators -/
section
variable {X : Cx}
def rAddS : R2 := fun x y H Q => ∃ i j, x = .str i ∧ y = .str j ∧ i.length + j.length ≤ sizeLine ∧ Q (.str (i ++ j)) H
def rAddI : R2 := rI0 fun i j => .int (i + j)
def rSubI : R2 := rI0 fun i j => .int (i - j)
def rAddU (K : PySem.W.Frag) : R2 := fun x y H Q => rAddI x y H Q ∨ rCat x y H Q ∨ rCatA K x y H Q ∨ rAddS x y H Q
theorem op_addU : OpR X (binaryOp .Add) (rAddU X.K) := by
  intro pins s σ H x y v u Q I rx ry h
  rcases h with h | h | h | h
  · exact op_add pins s σ H x y v u Q I rx ry h
  · exact op_cat pins s σ H x y v u Q I rx ry h
  · exact op_catA pins s σ H x y v u Q I rx ry h
  · exact op_add_str pins s σ H x y v u Q I rx ry h
theorem op_subU : OpR X (binaryOp .Sub) rSubI := op_sub
def rMulI : R2 := rI CMulW fun i j => .int (i * j)
def rMulU (K : PySem.W.Frag) : R2 := fun x y H Q => rMulI x y H Q ∨ rRep x y H Q ∨ rRepT K x y H Q
theorem op_mulU : OpR X (binaryOp .Mult) (rMulU X.K) := by
  intro pins s σ H x y v u Q I rx ry h
  rcases h with h | h | h
  · exact op_mulW pins s σ H x y v u Q I rx ry h
  · exact op_rep pins s σ H x y v u Q I rx ry h
  · exact op_repT pins s σ H x y v u Q I rx ry h
def rDivI : R2 := rI CDivW fun i j => .int (i / j)
theorem op_divU : OpR X (binaryOp .FloorDiv) rDivI := op_fdivW
def rModI : R2 := rI (fun _ j => 0 < j) fun i j => .int (i % j)
theorem op_modU : OpR X (binaryOp .Mod) rModI := op_mod
def rPowI : R2 := rI CPow fun i j => .int (i ^ j.toNat)
theorem op_powU : OpR X (binaryOp .Pow) rPowI := op_pow
def rLt : R2 := rI0 fun i j => .bl (decide (i < j))
def rLe : R2 := rI0 fun i j => .bl (decide (i ≤ j))
def rGt : R2 := rI0 fun i j => .bl (decide (j < i))
def rGe : R2 := rI0 fun i j => .bl (decide (j ≤ i))
theorem op_ltU : OpR X (compareOp .Lt) rLt := op_lt
theorem op_leU : OpR X (compareOp .LtE) rLe := op_le
theorem op_gtU : OpR X (compareOp .Gt) rGt := op_gt
theorem op_geU : OpR X (compareOp .GtE) rGe := op_ge
def rEqU (K : PySem.W.Frag) : R2 := fun x y H Q => rEq x y H Q ∨ rEqD K x y H Q
def rNeU (K : PySem.W.Frag) : R2 := fun x y H Q => rNe x y H Q ∨ rNeD K x y H Q
theorem op_eqU (hu : X.A.units + 64 < cLine) : OpR X (compareOp .Eq) (rEqU X.K) := by
  intro pins s σ H x y v u Q I rx ry h
  rcases h with h | h
  · exact op_eq pins s σ H x y v u Q I rx ry h
  · exact op_eqD hu pins s σ H x y v u Q I rx ry h
theorem op_neU (hu : X.A.units + 64 < cLine) : OpR X (compareOp .NotEq) (rNeU X.K) := by
  intro pins s σ H x y v u Q I rx ry h
  rcases h with h | h
  · exact op_ne pins s σ H x y v u Q I rx ry h
  · exact op_neD hu pins s σ H x y v u Q I rx ry h
def rIsN : R2 := fun x y H Q => y = .non ∧ Q (.bl (decide (x = .non))) H
def rNotN : R2 := fun x y H Q => y = .non ∧ Q (.bl (!decide (x = .non))) H
def rIsU : R2 := fun x y H Q => rIsN x y H Q ∨ rIsB x y H Q
def rNotIsU : R2 := fun x y H Q => rNotN x y H Q ∨ rNotB x y H Q
theorem op_isU : OpR X (compareOp .Is) rIsU := by
  intro pins s σ H x y v u Q I rx ry h
  rcases h with h | h
  · exact op_isN pins s σ H x y v u Q I rx ry h
  · exact op_isBl pins s σ H x y v u Q I rx ry h
theorem op_notIsU : OpR X (compareOp .IsNot) rNotIsU := by
  intro pins s σ H x y v u Q I rx ry h
  rcases h with h | h
  · exact op_notN pins s σ H x y v u Q I rx ry h
  · exact op_notBl pins s σ H x y v u Q I rx ry h
def rInS : R2 := fun x y H Q => ∃ i j, x = .str i ∧ y = .str j ∧ Q (.bl (!(Builtin.Str.occurrences j i 0 j.length 1).isEmpty)) H
def rNotInS : R2 := fun x y H Q => ∃ i j, x = .str i ∧ y = .str j ∧ Q (.bl (!(!(Builtin.Str.occurrences j i 0 j.length 1).isEmpty))) H
def rInU (K : PySem.W.Frag) : R2 := fun x y H Q => rIn K false x y H Q ∨ rInS x y H Q
def rNotInU (K : PySem.W.Frag) : R2 := fun x y H Q => rIn K true x y H Q ∨ rNotInS x y H Q
theorem op_inU : OpR X (compareOp .In) (rInU X.K) := by
  intro pins s σ H x y v u Q I rx ry h
  rcases h with h | h
  · exact op_in_seq pins s σ H x y v u Q I rx ry h
  · exact op_in_str pins s σ H x y v u Q I rx ry h
theorem op_notInU : OpR X (compareOp .NotIn) (rNotInU X.K) := by
  intro pins s σ H x y v u Q I rx ry h
  rcases h with h | h
  · exact op_notIn_seq pins s σ H x y v u Q I rx ry h
  · exact op_notin_str pins s σ H x y v u Q I rx ry h
/-- slices of lists, tuples, texts -/
abbrev RSl := V → Option Int → Option Int → Hp → VK → Prop
def rSlU (K : PySem.W.Frag) : RSl := fun x lo hi H Q => rSlL K x lo hi H Q ∨ rSlA K x lo hi H Q ∨ rSlS x lo hi H Q
theorem sl_U : SlR X (rSlU X.K) := by
  intro pins s σ H x v vl vu lo hi sl Q I rx hs pl pu h
  rcases h with h | h | h
  · exact sl_list pins s σ H x v vl vu lo hi sl Q I rx hs pl pu h
  · exact sl_tupA pins s σ H x v vl vu lo hi sl Q I rx hs pl pu h
  · exact sl_str pins s σ H x v vl vu lo hi sl Q I rx hs pl pu h
/-- what a for walks: a list or a tuple -/
def kSeq (K : PySem.W.Frag) (x : V) (H : Hp) (R : It → Hp → Prop) : Prop := (∃ a, x = .ref a ∧ (∃ xs, SqL K H a xs) ∧ R (Itl K a) H) ∨ (∃ a, x = .ref a ∧ (∃ xs, SqT K H a xs) ∧ R (Itt K a) H)
def iSeq (K : PySem.W.Frag) (tl : TE) : TI := fun σ H R => tl σ H fun x H1 => kSeq K x H1 R
theorem pi_seq {tg l : Expr} {tl : TE} (hl : PE X l tl) : PI X tg l (iSeq X.K tl) := by
  refine ⟨fun pins s σ H R I h => ?_⟩
  refine thn (hl.run pins s σ H _ I h) fun v s1 ⟨x, H1, I1, r1, q1⟩ => ?_
  rcases q1 with ⟨a, e, ⟨xs, hq⟩, q⟩ | ⟨a, e, ⟨xs, hq⟩, q⟩
  · subst e
    cases r1
    obtain ⟨its, rv, p, hz⟩ := I1.list hq
    refine wpAny_pyIter_list p.isList ?_
    refine ⟨s1.heap.objs.size, [s1.heap.objs.size], _, _, H1, rfl, I1.kept (t' := s1.toks) fun b o e => Heap.get?_push_of_some _ e, turn_list a _, ⟨_, Heap.get?_push_size _ rfl, rfl, rfl⟩, fun b hb => ?_, q⟩
    have e : b = s1.heap.objs.size := by simpa using hb
    subst e
    exact I1.fpOk (Nat.le_refl _) (I1.hok.fresh (Nat.le_refl _))
  · subst e
    cases r1
    obtain ⟨its, rv, p, hz⟩ := I1.tuple hq
    refine wpAny_pyIter_tuple (show s1.heap.IsTuple a its.toArray from p) ?_
    refine ⟨s1.heap.objs.size, [s1.heap.objs.size], _, _, H1, rfl, I1.kept (t' := s1.toks) fun b o e => Heap.get?_push_of_some _ e, turn_tuple a _, ⟨_, Heap.get?_push_size _ rfl, rfl, rfl⟩, fun b hb => ?_, q⟩
    have e : b = s1.heap.objs.size := by simpa using hb
    subst e
    exact I1.fpOk (Nat.le_refl _) (I1.hok.fresh (Nat.le_refl _))
end

/-! ### calls -/
structure Cal (P : Program) (w : World) (K : PySem.W.Frag) (mg : Str → Option Value) (base : Heap) (CX : CXT) (x : Str) (k : Nat) (ps : List Str) (sp : Sp) : Prop where
  ex : ∃ (f : Addr) (fd : FuncData), FnOk P w K mg base CX k f fd ps sp ∧ mg x = some (.ref f) ∧ PySem.W.keepIn K (.ref f) = true ∧ Binds K fd ps []
def tCal (sp : Sp) (E : XK) (t : TA) : TE := fun σ H Q => t σ H fun vs H1 => sp vs H1 Q E
def tCalS (sp : Sp) (E : St → XK) (t : TA) : TE := fun σ H Q => t σ H fun vs H1 => sp vs H1 Q (E σ)
section
variable {X : Cx} {CX : CXT} {k : Nat} {ps : List Str} {sp : Sp} {E : XK} {x : Str} {p pos : Pos} {e : Expr} {es : List Expr} {t : TA}
theorem tCal_eq (t : TA) : tCall sp [] E t = tCal sp E t := by
  funext σ H Q
  unfold tCall tCal
  simp only [List.append_nil]
theorem pe_cal (c : Cal X.prog X.w X.K X.mg X.base CX x k ps sp) (hr : Room k X.A) (hg : Gl X x) (hx : Passes CX X E) (ha : PA X (e :: es) t) (hdb : (x == ("__debug__" : Str)) = false := by decide)
    (he : starEach (e :: es) X.env = (false, eval e X.env) :: starEach es X.env := by rfl) (hpl : (backTo pos (starEach es X.env)).any (·.1) = false := by rfl) :
    PE X (.Call (.Name x p) (e :: es) [] pos) (tCal sp E t) := by
  obtain ⟨f, fd, F, hm, hk, hb⟩ := c.ex
  have h := pe_call (p := p) (pos := pos) F hr hg hm hk hb .nil hx ha hdb he hpl
  rw [tCal_eq] at h
  exact h
theorem pe_cal0 (c : Cal X.prog X.w X.K X.mg X.base CX x k ps sp) (hr : Room k X.A) (hg : Gl X x) (hx : Passes CX X E) (hdb : (x == ("__debug__" : Str)) = false := by decide) :
    PE X (.Call (.Name x p) [] [] pos) (tCal sp E tNil) := by
  obtain ⟨f, fd, F, hm, hk, hb⟩ := c.ex
  have h := pe_call0 (p := p) (pos := pos) F hr hg hm hk hb .nil hx hdb
  rw [tCal_eq] at h
  exact h
theorem pe_calS {E : St → XK} (c : Cal X.prog X.w X.K X.mg X.base CX x k ps sp) (hr : Room k X.A) (hg : Gl X x) (hx : ∀ σ, PassesAt CX X σ (E σ)) (ha : PA X (e :: es) t) (hdb : (x == ("__debug__" : Str)) = false := by decide)
    (he : starEach (e :: es) X.env = (false, eval e X.env) :: starEach es X.env := by rfl) (hpl : (backTo pos (starEach es X.env)).any (·.1) = false := by rfl) :
    PE X (.Call (.Name x p) (e :: es) [] pos) (tCalS sp E t) := by
  obtain ⟨f, fd, F, hm, hk, hb⟩ := c.ex
  exact pe_callS (p := p) (pos := pos) F hr hg hm hk hb hx ha hdb he hpl
end

/-! ### methods, makers -/
structure CalM (P : Program) (w : World) (K : PySem.W.Frag) (mg : Str → Option Value) (base : Heap) (CX : CXT) (C : Addr) (m : Str) (k : Nat) (ps : List Str) (sp : Sp) : Prop where
  cls : Cls K C
  ex : ∃ (f : Addr) (fd : FuncData), FnOk P w K mg base CX k f fd ps sp ∧ Meth K C m f ∧ Binds K fd ps []
structure CalC (P : Program) (w : World) (K : PySem.W.Frag) (mg : Str → Option Value) (base : Heap) (CX : CXT) (C : Addr) (x : Str) (k : Nat) (ps : List Str) (sp : Sp) : Prop where
  m : mg x = some (.ref C)
  ex : ∃ (f : Addr) (fd : FuncData), FnOk P w K mg base CX k f fd ps sp ∧ Mk K C f ∧ Binds K fd ps []
def tMet (C : Addr) (m : Str) (sp : Sp) (E : XK) (ta : TE) (t : TA) : TE := fun σ H Q => ta σ H fun x H1 => ∃ a dx fs, x = .ref a ∧ H1 a = some (.ins C dx fs) ∧ fs.lookup m = none ∧
  t σ H1 fun vs H2 => sp (x :: vs) H2 Q E
def tMetS (C : Addr) (m : Str) (sp : Sp) (E : St → XK) (ta : TE) (t : TA) : TE := fun σ H Q => ta σ H fun x H1 => ∃ a dx fs, x = .ref a ∧ H1 a = some (.ins C dx fs) ∧ fs.lookup m = none ∧
  t σ H1 fun vs H2 => sp (x :: vs) H2 Q (E σ)
def tMak (C : Addr) (sp : Sp) (E : XK) (t : TA) : TE := fun σ H Q => t σ H fun vs H1 => ∀ x dx, H1 x = none → H1 dx = none → dx ≠ x →
  sp (.ref x :: vs) (upd (upd H1 dx (.own x)) x (.ins C dx [])) (fun v H2 => v = .non ∧ Q (.ref x) H2) E
def tMakS (C : Addr) (sp : Sp) (E : St → XK) (t : TA) : TE := fun σ H Q => t σ H fun vs H1 => ∀ x dx, H1 x = none → H1 dx = none → dx ≠ x →
  sp (.ref x :: vs) (upd (upd H1 dx (.own x)) x (.ins C dx [])) (fun v H2 => v = .non ∧ Q (.ref x) H2) (E σ)
section
variable {X : Cx} {CX : CXT} {k : Nat} {C : Addr} {ps : List Str} {sp : Sp} {E : XK} {x m : Str} {p pos apos : Pos} {o e : Expr} {es : List Expr} {ta : TE} {t : TA}
theorem tMet_eq (ta : TE) (t : TA) : tMeth C m sp [] E ta t = tMet C m sp E ta t := by
  funext σ H Q
  unfold tMeth tMet
  simp only [List.append_nil]
theorem tMak_eq (t : TA) : tMake C sp [] E t = tMak C sp E t := by
  funext σ H Q
  unfold tMake tMak
  simp only [List.append_nil]
theorem pe_met {pl : Sem Bool} (he : PE X o ta) (c : CalM X.prog X.w X.K X.mg X.base CX C m k ps sp) (hr : Room k X.A) (hx : Passes CX X E) (ha : PA X (e :: es) t)
    (hst : starEach (e :: es) X.env = (false, eval e X.env) :: starEach es X.env := by rfl) (hpl : (backTo pos (starEach es X.env)).any (·.1) = false := by rfl)
    (ht : eval (.Call (.Attribute o m apos) (e :: es) [] pos) X.env = (do
      let ov ← eval o X.env
      standAt apos.atName
      let (f, first) ← holding [ov] (getMethod ov m pl)
      callWith pos f first (backTo pos (starEach (e :: es) X.env)) (backToKw pos (keywordEach [] X.env))) := by rfl) :
    PE X (.Call (.Attribute o m apos) (e :: es) [] pos) (tMet C m sp E ta t) := by
  obtain ⟨f, fd, F, hm, hb⟩ := c.ex
  have h := pe_meth he c.cls hm F hr hb .nil hx ha hst hpl ht
  rw [tMet_eq] at h
  exact h
theorem pe_met0 {pl : Sem Bool} (he : PE X o ta) (c : CalM X.prog X.w X.K X.mg X.base CX C m k ps sp) (hr : Room k X.A) (hx : Passes CX X E)
    (ht : eval (.Call (.Attribute o m apos) [] [] pos) X.env = (do
      let ov ← eval o X.env
      standAt apos.atName
      let (f, first) ← holding [ov] (getMethod ov m pl)
      callWith pos f first (backTo pos (starEach [] X.env)) (backToKw pos (keywordEach [] X.env))) := by rfl) :
    PE X (.Call (.Attribute o m apos) [] [] pos) (tMet C m sp E ta tNil) := by
  obtain ⟨f, fd, F, hm, hb⟩ := c.ex
  have h := pe_meth0 he c.cls hm F hr hb .nil hx ht
  rw [tMet_eq] at h
  exact h
theorem pe_metS {E : St → XK} {pl : Sem Bool} (he : PE X o ta) (c : CalM X.prog X.w X.K X.mg X.base CX C m k ps sp) (hr : Room k X.A) (hx : ∀ σ, PassesAt CX X σ (E σ)) (ha : PA X (e :: es) t)
    (hst : starEach (e :: es) X.env = (false, eval e X.env) :: starEach es X.env := by rfl) (hpl : (backTo pos (starEach es X.env)).any (·.1) = false := by rfl)
    (ht : eval (.Call (.Attribute o m apos) (e :: es) [] pos) X.env = (do
      let ov ← eval o X.env
      standAt apos.atName
      let (f, first) ← holding [ov] (getMethod ov m pl)
      callWith pos f first (backTo pos (starEach (e :: es) X.env)) (backToKw pos (keywordEach [] X.env))) := by rfl) :
    PE X (.Call (.Attribute o m apos) (e :: es) [] pos) (tMetS C m sp E ta t) := by
  obtain ⟨f, fd, F, hm, hb⟩ := c.ex
  refine ⟨fun pins s σ H Q I h => ?_⟩
  refine PySem.W.methodCall_KW (pl := pl) (thn (he.run pins s σ H _ I h) fun u s1 ⟨x, H1, I1, rx, a, dx, fs, ex, ea, l, q⟩ => ?_) ht
  subst ex
  obtain rfl : u = Value.ref a := rx
  refine getmeth_ok I1 ea c.cls hm l ?_
  refine PySem.W.callWith_K (first := [.ref a]) (h₀ := X.base) I.ok.mod.kin hm.kp (thn (ha.run pos pins s1 σ H1 _ I1 q) fun us s2 ⟨vs, H2, I2, r, q2⟩ => ⟨I2.kIn, ?_⟩) hst hpl
  exact run_fnS (us := .ref a :: us) (vs := .ref a :: vs) F hr hb (hx σ) I2 (.cons rfl r) q2
theorem pe_mak (c : CalC X.prog X.w X.K X.mg X.base CX C x k ps sp) (hr : Room (k + 1) X.A) (hg : Gl X x) (hx : Passes CX X E)
    (ha : PA X (e :: es) t) (hdb : (x == ("__debug__" : Str)) = false := by decide) (he : starEach (e :: es) X.env = (false, eval e X.env) :: starEach es X.env := by rfl) (hpl : (backTo pos (starEach es X.env)).any (·.1) = false := by rfl) :
    PE X (.Call (.Name x p) (e :: es) [] pos) (tMak C sp E t) := by
  obtain ⟨f, fd, F, M, hb⟩ := c.ex
  have h := pe_make (p := p) (pos := pos) M F hr hg c.m hb .nil hx ha hdb he hpl
  rw [tMak_eq] at h
  exact h
/-- run_make at the slots σ -/
theorem run_makeS {E : XK} {f : Addr} {fd : FuncData} {pins : List (Addr × Obj)} {σ : St} {H : Hp} {s : Shared} {Q : VK} {us : List Value} {vs : List V} (M : Mk X.K C f) (F : FnOk X.prog X.w X.K X.mg X.base CX k f fd ps sp) (hr : Room (k + 1) X.A) (hb : Binds X.K fd ps [])
    (hx : ∀ (pins : List (Addr × Obj)) (H : Hp) (s : Shared) (e : Value) (s' : Shared), Inv X pins σ H s → CX X.stack H s E e s' → X.xe e s') (I : Inv X pins σ H s) (r : Vals vs us)
    (h : ∀ x dx, H x = none → H dx = none → dx ≠ x → sp (.ref x :: vs) (upd (upd H dx (.own x)) x (.ins C dx [])) (fun v H2 => v = .non ∧ Q (.ref x) H2) E) :
    wpAny (model X.prog X.w) X.A (call (.ref C) us) (EP X pins σ Q) X.xe s := by
  have hq := h (s.heap.objs.size + 1) s.heap.objs.size (I.hok.fresh (Nat.le_succ _)) (I.hok.fresh (Nat.le_refl _)) (Nat.ne_of_lt (Nat.lt_succ_self _))
  have I2 := Inv.made (C := C) I
  have r2 : Vals (V.ref (s.heap.objs.size + 1) :: vs) (Value.ref (s.heap.objs.size + 1) :: us) := .cons rfl r
  have hl : (Value.ref (s.heap.objs.size + 1) :: us ++ ([] : List Value)).length = ps.length := by
    have e := r2.length
    rw [F.len _ _ _ _ hq] at e
    simpa using e.symm
  have hbb := hb _ (Value.ref (s.heap.objs.size + 1) :: us) I2.kIn hl
  rw [List.append_nil] at hbb
  refine wpAny_call (make_map (f := f) I.kIn M.makes M.init (beq_iff_eq.mp M.fn) (codeAny_mono (F.run _ X.stack _ _ ⟨Value.ref (s.heap.objs.size + 1) :: us, []⟩ (Value.ref (s.heap.objs.size + 1) :: us) _ _ E (hr.make C us [])
    (I2.env0.make C us []) hbb r2 hq) fun r s' hq' => ?_))
  cases r with
  | error e => exact hx pins _ _ e s' I2 hq'
  | ok fl =>
    cases fl with
    | ret u =>
      obtain ⟨v, H', I3, rv, ev, q3⟩ := I2.after hq'
      subst ev
      exact ⟨rv, ⟨V.ref (s.heap.objs.size + 1), H', I3, rfl, q3⟩⟩
    | next => exact False.elim hq'
    | brk => exact False.elim hq'
    | cont => exact False.elim hq'
theorem pe_makS {E : St → XK} (c : CalC X.prog X.w X.K X.mg X.base CX C x k ps sp) (hr : Room (k + 1) X.A) (hg : Gl X x) (hx : ∀ σ, PassesAt CX X σ (E σ))
    (ha : PA X (e :: es) t) (hdb : (x == ("__debug__" : Str)) = false := by decide) (he : starEach (e :: es) X.env = (false, eval e X.env) :: starEach es X.env := by rfl) (hpl : (backTo pos (starEach es X.env)).any (·.1) = false := by rfl) :
    PE X (.Call (.Name x p) (e :: es) [] pos) (tMakS C sp E t) := by
  obtain ⟨f, fd, F, M, hb⟩ := c.ex
  refine ⟨fun pins s σ H Q I h => ?_⟩
  refine wpAny_Call_Name_kw (ld_glob I hg c.m ?_ hdb)
  refine PySem.W.callWith_K (h₀ := X.base) I.ok.mod.kin M.kp (thn (ha.run pos pins s σ H _ I h) fun us s1 ⟨vs, H1, I1, r, q⟩ => ⟨I1.kIn, ?_⟩) he hpl
  exact run_makeS M F hr hb (hx σ) I1 r q
end

/-! ### a statement, then the rest, with a word between them -/
def tCut (t u : TS) : TS := fun D σ H => ∃ Mid : St → Hp → Prop, t { D with nx := Mid } σ H ∧ ∀ σ' H', Mid σ' H' → u D σ' H'
theorem pss_cut {X : Cx} {st : Stmt} {rest : List Stmt} {t u : TS} (h1 : PS X st t) (h2 : PSs X rest u) : PSs X (st :: rest) (tCut t u) := by
  refine ⟨fun pins s σ H D I h => ?_⟩
  obtain ⟨Mid, hm, hu⟩ := h
  refine wpAny_execs_cons (thn (h1.run pins s σ H { D with nx := Mid } I hm) fun f s1 q => ?_)
  cases f with
  | next =>
    obtain ⟨σ', H', I', q⟩ := q
    exact h2.run pins s1 σ' H' D I' (hu σ' H' q)
  | ret v => exact q
  | brk => exact q
  | cont => exact q
def tIfT (t u v : TT) : TT := fun σ H Q => t σ H fun c H1 => if c = true then u σ H1 Q else v σ H1 Q
theorem pt_ifExp {X : Cx} {c a b : Expr} {pos : Pos} {t u v : TT} (hc : PT X c t) (ha : PT X a u) (hb : PT X b v) : PT X (.IfExp c a b pos) (tIfT t u v) := by
  refine ⟨fun pins s σ H Q I h => ?_⟩
  refine PyProof.Rows.isTrue_IfExp (thn (hc.run pins s σ H _ I h) fun d s1 ⟨H1, I1, q1⟩ => ?_)
  cases d with
  | true => exact ha.run pins s1 σ H1 Q I1 q1
  | false => exact hb.run pins s1 σ H1 Q I1 q1
/-! ### a property that hands back an attribute -/
structure CalP (P : Program) (w : World) (K : PySem.W.Frag) (mg : Str → Option Value) (base : Heap) (C : Addr) (f fld : Str) (k : Nat) : Prop where
  cls : Cls K C
  ex : ∃ (p g : Addr) (fd : FuncData), PropOf K C f p g ∧ FnOk P w K mg base CX0 k g fd ["self"] (getSp C fld) ∧ Binds K fd ["self"] []
def kPrp (C : Addr) (fld : Str) (x : V) (H : Hp) (Q : VK) : Prop := ∃ a dx fs v, x = .ref a ∧ H a = some (.ins C dx fs) ∧ fs.lookup fld = some v ∧ Q v H
def tPrp (C : Addr) (fld : Str) (ta : TE) : TE := fun σ H Q => ta σ H fun x H1 => kPrp C fld x H1 Q
theorem pe_prp {X : Cx} {C : Addr} {f fld : Str} {k : Nat} {e : Expr} {ta : TE} {pos : Pos} (c : CalP X.prog X.w X.K X.mg X.base C f fld k) (hr : Room (k + 1) X.A) (he : PE X e ta)
    (hab : attributeBase e f X.env (eval e X.env) = eval e X.env) : PE X (.Attribute e f pos) (tPrp C fld ta) := by
  obtain ⟨p, g, fd, hp, F, hb⟩ := c.ex
  have h := pe_prop (pos := pos) (E := E0) he c.cls hp F hr hb .nil pass0 hab
  have e : tProp C (getSp C fld) [] E0 ta = tPrp C fld ta := by
    funext σ H Q
    show ta σ H _ = ta σ H _
    congr 1
    funext x H1
    refine propext ⟨fun ⟨a, dx, fs, ex, ea, a', dx', fs', v, e1, e2, l, q⟩ => ?_, fun ⟨a, dx, fs, v, ex, ea, l, q⟩ => ⟨a, dx, fs, ex, ea, a, dx, fs, v, rfl, ea, l, q⟩⟩
    cases e1
    exact ⟨a, dx', fs', v, ex, e2, l, q⟩
  rw [e] at h
  exact h

/-! ### raise X() of an own class without __init__ -/
structure ExcF (K : PySem.W.Frag) (mg : Str → Option Value) (x : Str) (C : Addr) : Prop where
  ex : ∃ bm, PySem.W.excIn K C bm "ValueError.__new__" = true ∧ (∃ B I, ExcBaseFacts B "ValueError.__new__" I bm)
  g : mg x = some (.ref C)
  k : PySem.W.keepIn K (.ref C) = true
  b : PySem.W.subIn K (.ref C) (.type "BaseException") = some true
  t : PySem.W.typeIn K (.ref C) = some (.type "type")
section
variable {X : Cx} {C : Addr} {x : Str} {p pos : Pos}
theorem pmk_own0 (F : ExcF X.K X.mg x C) (hg : Gl X x) (hdb : (x == ("__debug__" : Str)) = false := by decide) : PMk X (.Call (.Name x p) [] [] pos) (fun _ H Q => Q (.ref C) none H) := by
  obtain ⟨bm, q, B, I0, FB⟩ := F.ex
  intro pins s σ H Q I h
  refine wpAny_Call_Name_kw (ld_glob I hg F.g ?_ hdb)
  refine PySem.W.callWith_K0 I.kIn F.k ?_
  show wpAny _ _ (call (.ref C) []) _ _ _
  obtain ⟨bm, N, nm, qn, bs, hdct, sn, sub, ab, col, dd, k0, k1, k2, k3, k5, mN, hC, hN, hni, T⟩ := exc_obj I.kIn q
  refine wpAny_call_exc_subT FB T hC hN hni (fun h' e hm => ?_) (by show 0 ≤ sizeLine; exact Nat.zero_le _)
  exact mk_of I hm (raises_own F.b F.t) h (I.hok.gone hm.new)
/-- raise X() where W is wished of what is raised -/
def tRaise (C : Addr) (W : WX) : TS := fun _ σ H => W (.ref C) none σ H
theorem ps_raise0 {W : WX} {pos2 : Pos} (hc : X.calm = true) (tk : Takes X W) (F : ExcF X.K X.mg x C) (hg : Gl X x) (hdb : (x == ("__debug__" : Str)) = false := by decide) :
    PS X (.Raise (some (.Call (.Name x p) [] [] pos)) none pos2) (tRaise C W) := ps_raise hc tk (pmk_own0 F hg hdb)
end
def WE' (W : WX) : St → XK := fun σ cls d H => W cls d σ H
theorem passAt' {X : Cx} {W : WX} (tk : Takes X W) (σ : St) : PassesAt (L2.CX X.prog X.w) X σ (WE' W σ) := passAt tk σ

/-! ### a list of ints that is known by a word alone -/
def Plain : HO → Prop
  | .lst _ => True
  | .ext _ => True
  | _ => False
theorem inv_swap {X : Cx} {pins : List (Addr × Obj)} {σ : St} {H : Hp} {s : Shared} {d : Addr} {o o' : HO} (I : Inv X pins σ H s) (hd : H d = some o) (hp : Plain o) (new : ObjOk X.prog X.w (upd H d o') s.heap d o') :
    Inv X pins σ (upd H d o') s := by
  have ne : ∀ b u, H b = some u → ¬ Plain u → b ≠ d := fun b u e n z => by
    subst z
    rw [hd] at e
    cases e
    exact n hp
  have nn : ∀ b, H b = none → upd H d o' b = none := fun b e => by
    rw [upd_ne (fun z => by subst z; rw [hd] at e; cases e)]
    exact e
  refine ⟨I.ok, I.os, I.bare, ⟨fun b u e n hb hx => I.base.keep b u e n hb hx, fun b u e n hb hx => I.base.slot b u e n hb hx, fun b u e n hx => nn b (I.base.free b u e n hx), I.base.there, fun b xs e => ?_, fun b u v e => ?_, fun b ps e => ?_⟩, I.loc, I.cell, nn _ I.free, fun x c e => nn _ (I.freeC x c e), fun p hp' => ?_, fun b u q => ?_, I.len⟩
  · have e1 := I.base.tups b xs e
    rw [upd_ne (ne b _ e1 (fun z => z))]
    exact e1
  · have e1 := I.base.frzs b u v e
    rw [upd_ne (ne b _ e1 (fun z => z))]
    exact e1
  · obtain ⟨more, e1⟩ := I.base.tbls b ps e
    refine ⟨more, ?_⟩
    rw [upd_ne (ne b _ e1 (fun z => z))]
    exact e1
  · obtain ⟨h1, h2, h3⟩ := I.pin p hp'
    exact ⟨h1, nn _ h2, h3⟩
  · by_cases hb : b = d
    · subst hb
      rw [upd_same] at q
      cases q
      exact new
    · rw [upd_ne hb] at q
      refine (I.hok b u q).stay (fun c v _ r => r) (fun c r => ?_) (fun c xs r => ?_)
      · rw [upd_ne (ne c _ r (fun z => z))]
        exact r
      · rw [upd_ne (ne c _ r (fun z => z))]
        exact r
/-- an opaque list of ints -/
def opq (Pr : List Int → Prop) (d : Addr) : HO := .ext fun h => ∃ (ns : List Int) (its : List Value) (n : Nat), Pr ns ∧ Vals (ns.map V.int) its ∧ ns.length ≤ sizeLine ∧ h.get? d = some { cls := .type "list", data := .seq its.toArray n }
theorem inv_open {X : Cx} {pins : List (Addr × Obj)} {σ : St} {H : Hp} {s : Shared} {d : Addr} {Pr : List Int → Prop} (I : Inv X pins σ H s) (hd : H d = some (opq Pr d)) :
    ∃ ns, Pr ns ∧ Inv X pins σ (upd H d (.lst (ns.map V.int))) s := by
  obtain ⟨⟨ns, its, n, hp, hv, hl, hg⟩, _, _⟩ := I.hok d _ hd
  exact ⟨ns, hp, inv_swap I hd True.intro ⟨by rw [List.length_map]; exact hl, its, n, hv, hg⟩⟩
theorem inv_shut {X : Cx} {pins : List (Addr × Obj)} {σ : St} {H : Hp} {s : Shared} {d : Addr} {Pr : List Int → Prop} {ns : List Int} (I : Inv X pins σ H s) (hd : H d = some (.lst (ns.map V.int))) (hp : Pr ns) :
    Inv X pins σ (upd H d (opq Pr d)) s := by
  obtain ⟨hl, its, n, hv, hg⟩ := I.hok d _ hd
  rw [List.length_map] at hl
  exact inv_swap I hd True.intro ⟨⟨ns, its, n, hp, hv, hl, hg⟩, ⟨_, hg⟩, fun h1 h2 ⟨ns, its, n, a, b, c, e⟩ k => ⟨ns, its, n, a, b, c, k _ e⟩⟩
def shutE (Pr : List Int → Prop) (d : Addr) (D : Ends) : Ends where
  nx := fun σ H => ∃ ns, Pr ns ∧ H d = some (.lst (ns.map V.int)) ∧ D.nx σ (upd H d (opq Pr d))
  rt := fun v H => ∃ ns, Pr ns ∧ H d = some (.lst (ns.map V.int)) ∧ D.rt v (upd H d (opq Pr d))
  bk := fun σ H => ∃ ns, Pr ns ∧ H d = some (.lst (ns.map V.int)) ∧ D.bk σ (upd H d (opq Pr d))
  ct := fun σ H => ∃ ns, Pr ns ∧ H d = some (.lst (ns.map V.int)) ∧ D.ct σ (upd H d (opq Pr d))
theorem sp_shut {X : Cx} {pins : List (Addr × Obj)} {D : Ends} {f : Flow} {s' : Shared} {d : Addr} {Pr : List Int → Prop} (h : SP X pins (shutE Pr d D) f s') : SP X pins D f s' := by
  cases f with
  | next =>
    obtain ⟨σ', H', I, ns, hp, hd, q⟩ := h
    exact ⟨σ', _, inv_shut I hd hp, q⟩
  | brk =>
    obtain ⟨σ', H', I, ns, hp, hd, q⟩ := h
    exact ⟨σ', _, inv_shut I hd hp, q⟩
  | cont =>
    obtain ⟨σ', H', I, ns, hp, hd, q⟩ := h
    exact ⟨σ', _, inv_shut I hd hp, q⟩
  | ret u =>
    obtain ⟨v, σ', H', I, r, ns, hp, hd, q⟩ := h
    exact ⟨v, σ', _, inv_shut I hd hp, r, q⟩
/-- a block within which an opaque list is a plain one -/
def tOpen (Pr : List Int → Prop) (t : TS) : TS := fun D σ H => ∃ d, H d = some (opq Pr d) ∧ ∀ ns, Pr ns → t (shutE Pr d D) σ (upd H d (.lst (ns.map V.int)))
theorem pss_open {X : Cx} {b : List Stmt} {t : TS} (Pr : List Int → Prop) (h : PSs X b t) : PSs X b (tOpen Pr t) := by
  refine ⟨fun pins s σ H D I q => ?_⟩
  obtain ⟨d, hd, k⟩ := q
  obtain ⟨ns, hp, J⟩ := inv_open I hd
  exact thn (h.run pins s σ _ _ J (k ns hp)) fun f s' z => sp_shut z
/-- a block that hands back a list of ints, which is opaque from then on -/
def tShut (Pr : List Int → Prop) (t : TS) : TS := fun D σ H => t { nx := D.nx, bk := D.bk, ct := D.ct, rt := fun v H' => ∃ d ns, v = .ref d ∧ H' d = some (.lst (ns.map V.int)) ∧ Pr ns ∧ D.rt v (upd H' d (opq Pr d)) } σ H
theorem pss_shut {X : Cx} {b : List Stmt} {t : TS} (Pr : List Int → Prop) (h : PSs X b t) : PSs X b (tShut Pr t) := by
  refine ⟨fun pins s σ H D I q => thn (h.run pins s σ H _ I q) fun f s' z => ?_⟩
  cases f with
  | next => exact z
  | brk => exact z
  | cont => exact z
  | ret u =>
    obtain ⟨v, σ', H', I, r, d, ns, rfl, hd, hp, q⟩ := z
    exact ⟨.ref d, σ', _, inv_shut I hd hp, r, q⟩

/-! ### enumerate of a tuple -/
theorem meets_enumerate_newT (l : Addr) (items : Array Value) (n : Nat) (dct : Option Addr) (sl : Array (Option Value)) :
    Meets (Builtin.«enumerate.__new__» ⟨[.type "enumerate", .ref l], []⟩) (fun _ R s => s.heap.get? l = some { cls := .type "tuple", dict := dct, data := .seq items n, slots := sl } ∧
      R (.ok (.ret (.ref (s.heap.push { cls := .type "tuple_iterator", data := .fields #[.ref l, .int 0 0] }).objs.size)))
        { s with heap := (s.heap.push { cls := .type "tuple_iterator", data := .fields #[.ref l, .int 0 0] }).push { cls := .type "enumerate", data := .fields #[.none, .bool false, .ref s.heap.objs.size, rawInt 0, .none, .none] } }) :=
  .of_wp fun prog w A R s h => by
    obtain ⟨hp, g, d, tk, os⟩ := s; obtain ⟨hl, h⟩ := h
    have hsub := sub_enumerate
    have hL : Heap.IsTuple (Shared.heap ⟨hp, g, d, tk, os⟩) l items := ⟨_, hl, rfl, n, rfl⟩
    wp_walk using AutoSeq1.wpAny_loadPart' hl
    refine wpAny_stack_any fun st => wpAny_pure ?_
    split
    · rename_i c _ _ _ _ _
      cases (c == Value.type "enumerate")
      · wp_walk using AutoSeq1.wpAny_loadPart' hl, wpAny_pyIter_tuple hL
        exact ⟨_, rfl, h⟩
      · wp_walk using AutoSeq1.wpAny_loadPart' hl, wpAny_pyIter_tuple hL
        exact ⟨_, rfl, h⟩
    · wp_walk using AutoSeq1.wpAny_loadPart' hl, wpAny_pyIter_tuple hL
      exact ⟨_, rfl, h⟩
theorem call_enumerate_tuple {prog : Program} {w : World} {A : Around} {E : Value → Shared → Prop} {s : Shared} {l : Addr} {items : Array Value} {Q : Value → Shared → Prop} (hL : s.heap.IsTuple l items)
    (h : ∀ h', IsEnum h' (s.heap.objs.size + 1) s.heap.objs.size 0 .none → h'.IsTupleIter s.heap.objs.size l 0 → h'.objs.size = s.heap.objs.size + 2 →
      (∀ b o, s.heap.get? b = some o → h'.get? b = some o) → Q (.ref (s.heap.objs.size + 1)) { s with heap := h' }) :
    wpAny (model prog w) A (call (.type "enumerate") [.ref l]) Q E s := by
  obtain ⟨⟨c, dct, dt, sl⟩, hl, hc, n, hd⟩ := hL
  replace hc : c = .type "tuple" := hc
  replace hd : dt = .seq items n := hd
  subst hc hd
  refine callType_new F.called_enumerate (by decide) (F.typeCall_enumerate_1 _) (F.newCall_enumerate_1 _) (fun obj => F.args_object_init_2 obj _) F.entry_enumerate_new
    (meets_enumerate_newT l items n dct sl) ⟨hl, ?_⟩
  have hz : (s.heap.push { cls := .type "tuple_iterator", data := .fields #[.ref l, .int 0 0] }).objs.size = s.heap.objs.size + 1 := Heap.size_push ..
  show _ ∧ _
  rw [hz]
  have he : IsEnum ((s.heap.push { cls := .type "tuple_iterator", data := .fields #[.ref l, .int 0 0] }).push
      { cls := .type "enumerate", data := .fields #[.none, .bool false, .ref s.heap.objs.size, rawInt 0, .none, .none] }) (s.heap.objs.size + 1) s.heap.objs.size 0 .none := by
    have := Heap.get?_push_size (s.heap.push { cls := .type "tuple_iterator", data := .fields #[.ref l, .int 0 0] })
      (o := { cls := .type "enumerate", data := .fields #[.none, .bool false, .ref s.heap.objs.size, rawInt 0, .none, .none] }) rfl
    rw [hz] at this; exact this
  refine ⟨⟨_, he, rfl⟩, h _ he ⟨_, Heap.get?_push_of_some _ (Heap.get?_push_size _ rfl), rfl, rfl⟩ (by rw [Heap.size_push, hz]) fun b o x => Heap.get?_push_of_some _ (Heap.get?_push_of_some _ x)⟩
theorem wpAny_pyNext_enum_endT {prog : Program} {w : World} {A : Around} {E : Value → Shared → Prop} {s : Shared} {e it l : Addr} {i : Nat} {items : Array Value} {old : Value} {Q : Option Value → Shared → Prop} (hh : A.handled = none)
    (he : IsEnum s.heap e it i old) (hit : s.heap.IsTupleIter it l i) (hl : s.heap.IsTuple l items) (hx : items[i]? = none)
    (hQ : ∀ h', Heap.ExtBut it s.heap h' → Q none { s with heap := h' }) : wpAny (model prog w) A (pyNext (.ref e)) Q E s := by
  have hT : s.TypeIs (.ref e) "enumerate" := ⟨_, he, rfl⟩
  unfold pyNext
  refine wpAny_bind (wpAny_attempt (wpAny_callSpecial?_slot (name := Str.ofString "__next__") hT F.slot_enumerate_next
    (wpAny_call_entry F.slot_enumerate_next hT F.entry_enumerate_next ?_ (F.args_enumerate_next_1 _))))
  show wpAny _ _ (field (.ref e) 2 >>= _) _ _ _
  refine wpAny_bind (wpAny_field he rfl (x := .ref it) rfl ?_)
  refine wpAny_bind (wpAny_nextOf_tuple_end hh hit hl hx fun h' x he' hx' => ?_)
  obtain ⟨o, ho, hc⟩ := hx'
  refine wpAny_bind (wpAny_isInstance (T := "StopIteration") (b := true) ⟨o, ho, hc⟩ isSubtype_stop ?_)
  exact wpAny_pure (hQ _ he')
/-- the tuple at a, each item in a new pair -/
def Itet (K : PySem.W.Frag) (a : Addr) : It :=
  ⟨fun i H => ∃ (xs : List V) (x : V), SqT K H a xs ∧ xs[i]? = some x, fun i H v H' => ∃ T x, v = .ref T ∧ H T = none ∧ H' = upd H T (.tup [.int (i : Nat), x]) ∧ ∀ xs, SqT K H a xs → xs[i]? = some x, fun i H => ∃ xs : List V, SqT K H a xs ∧ xs.length ≤ i⟩
theorem turn_enumT {P : Program} {w : World} {K : PySem.W.Frag} {elts : List Expr} {kk : Nat} {tpos : Pos} (a e it : Addr) :
    Turn P w K (.Tuple elts kk tpos) (Itet K a) [e, it] e (fun i h => (∃ old, IsEnum h e it ((i : Nat) : Int) old) ∧ h.IsTupleIter it a i ∧ e ≠ it) where
  mem := by simp
  obj := fun i h st b hb => by
    obtain ⟨⟨old, he⟩, ⟨o, ho, hc, hd⟩, _⟩ := st
    have e' : b = e ∨ b = it := by simpa using hb
    rcases e' with z | z
    · rw [z]; exact ⟨_, he, fun v q => nomatch q⟩
    · rw [z]; exact ⟨o, ho, fun v q => by rw [hd] at q; cases q⟩
  keep := fun i h h' st k => let ⟨⟨old, he⟩, hi, hne⟩ := st; ⟨⟨old, k e (by simp) _ he⟩, hi.at fun o q => k it (by simp) o q, hne⟩
  item := by
    intro X hP hw hK hc i pins s σ H E I hf st hg
    subst hP hw hK
    obtain ⟨⟨old, he⟩, hit, hne⟩ := st
    obtain ⟨xs, x, hq, hx⟩ := hg
    obtain ⟨its, rv, p, hz⟩ := I.tuple hq
    have pt : s.heap.IsTuple a its.toArray := p
    obtain ⟨u, hu, ru⟩ := rv.get hx
    have hel : e < s.heap.objs.size := Heap.lt_size he
    have hil : it < s.heap.objs.size := by obtain ⟨_, q, _⟩ := hit; exact Heap.lt_size q
    have nai : a ≠ it := fun z => by
      obtain ⟨o1, q1, c1, _⟩ := hit
      obtain ⟨o2, q2, c2, _⟩ := pt
      rw [z, q1] at q2
      cases q2
      rw [c1] at c2
      exact absurd c2 (by decide)
    have nea : e ≠ a := fun z => by
      obtain ⟨o2, q2, c2, _⟩ := pt
      have he' : s.heap.get? e = _ := he
      rw [z, q2] at he'
      have e3 := congrArg Obj.cls (Option.some.inj he')
      rw [c2] at e3
      exact absurd (show Value.type "tuple" = Value.type "enumerate" from e3) (by decide)
    have D := Draws.tuple (prog := X.prog) (w := X.w) (A := X.A.in1) (I.ok.hd hc) it a nai its.toArray
    have hui : i < its.length := (List.getElem?_eq_some_iff.mp hu).1
    refine wpAny_pyNext_enum_itemD D he ⟨hit, pt⟩ (by simpa using hui) hne (by simp [hne, nea]) fun x' h' tk hP' ho hst' hT hsz hk => ?_
    have ex : x' = u := by
      have z : its.toArray[i]? = some x' := hP'
      rw [List.getElem?_toArray, hu] at z
      exact (Option.some.inj z).symm
    subst ex
    refine ⟨_, rfl, wpAny_letOwnedTupleGo_enum (s := { s with heap := h', toks := tk + 1 }) ho fun h'' he' sb => ?_⟩
    have hT2 : h''.get? s.heap.objs.size = some { cls := .type "tuple", data := .seq #[.int i tk, x'] } := (sb.2 _ (Nat.ne_of_gt hel)).trans hT
    have new : ObjOk X.prog X.w (upd H s.heap.objs.size (.tup [.int (i : Nat), x])) h'' s.heap.objs.size (.tup [.int (i : Nat), x]) :=
      ⟨by show 2 ≤ sizeLine; decide, [.int i tk, x'], .cons ⟨_, rfl⟩ (.cons ru .nil), ⟨_, hT2, rfl, _, rfl⟩⟩
    have I1 : Inv X pins σ (upd H s.heap.objs.size (.tup [.int (i : Nat), x])) { s with heap := h'', toks := tk + 1 } :=
      I.turnedNew (ch := [e, it]) (fun b ob hb q => (sb.2 b (fun z => hb (by simp [z]))).trans (hk b ob (fun z => hb (by simp [z])) (fun z => hb (by simp [z])) q)) hf (Nat.le_refl _) new
    refine ⟨.ref s.heap.objs.size, _, I1, rfl, ⟨_, x, rfl, I.hok.fresh (Nat.le_refl _), rfl, fun ys hy => by rw [I.tuple_inj hy hq]; exact hx⟩, ⟨⟨x', ?_⟩, hst'.1.at fun o q => (sb.2 it (Ne.symm hne)).trans q, hne⟩, fun b hb => ?_⟩
    · have e1 : ((i + 1 : Nat) : Int) = (i : Int) + 1 := by omega
      rw [e1]; exact he'
    · have hb' : b < s.heap.objs.size := by
        have e' : b = e ∨ b = it := by simpa using hb
        rcases e' with z | z
        · rw [z]; exact hel
        · rw [z]; exact hil
      rw [upd_ne (Nat.ne_of_lt hb')]
      exact (hf b hb).1
  done := by
    intro X hP hw hK hc i pins s σ H E I hf st hg
    subst hP hw hK
    obtain ⟨⟨old, he⟩, hit, hne⟩ := st
    obtain ⟨xs, hq, hx⟩ := hg
    obtain ⟨its, rv, p, hz⟩ := I.tuple hq
    have pt : s.heap.IsTuple a its.toArray := p
    have nai : a ≠ it := fun z => by
      obtain ⟨o1, q1, c1, _⟩ := hit
      obtain ⟨o2, q2, c2, _⟩ := pt
      rw [z, q1] at q2
      cases q2
      rw [c1] at c2
      exact absurd c2 (by decide)
    obtain ⟨f0, f1, f2, f3, f4, f5⟩ := hf it (by simp)
    have hl := rv.length
    refine wpAny_pyNext_enum_endT (I.ok.hd hc) he hit pt (by simp; omega) fun h' eb => ⟨rfl, I.turned (t' := s.toks) (fun b o hb q => eb b o hb q) f0 f1 f3 f4 f5⟩
  self := fun A i s Q E st h => let ⟨⟨_, he⟩, _⟩ := st; wpAny_pyIter_enum he h
/-- enumerate of a list or a tuple -/
def kEnum (K : PySem.W.Frag) (vs : List V) (H : Hp) (R : It → Hp → Prop) : Prop := (∃ a xs, vs = [.ref a] ∧ SqL K H a xs ∧ R (Ite K a) H) ∨ (∃ a xs, vs = [.ref a] ∧ SqT K H a xs ∧ R (Itet K a) H)
def iEnumS (K : PySem.W.Frag) (ta : TA) : TI := fun σ H R => ta σ H fun vs H1 => kEnum K vs H1 R
theorem pi_enumS {X : Cx} {e : Expr} {ta : TA} {p pos tpos : Pos} {elts : List Expr} {kk : Nat} (hg : Gl X "enumerate") (hm : X.mg "enumerate" = none) (ha : PA X [e] ta) (hs : starEach [e] X.env = [(false, eval e X.env)] := by rfl) :
    PI X (.Tuple elts kk tpos) (.Call (.Name "enumerate" p) [e] [] pos) (iEnumS X.K ta) := by
  refine ⟨fun pins s σ H R I h => ?_⟩
  refine Call_ (ld_blt I hg hm boot_enumerate (PyProof.Rows.callWith_type1 (thn (ha.run pos pins s σ H _ I h) fun us s1 ⟨vs, H1, I1, r1, q1⟩ => ?_) hs rfl))
  rcases q1 with ⟨a, xs, ex, hq, q⟩ | ⟨a, xs, ex, hq, q⟩
  · subst ex
    cases r1 with
    | cons r rr =>
      cases rr
      cases r
      obtain ⟨its, rv, p', hz⟩ := I1.list hq
      refine call_enumerate_list p'.isList fun h' he hit hsz hk => wpAny_pyIter_enum he ?_
      have I2 : Inv X pins σ H1 { s1 with heap := h' } := I1.kept (t' := s1.toks) hk
      refine ⟨s1.heap.objs.size + 1, [s1.heap.objs.size + 1, s1.heap.objs.size], _, _, H1, rfl, I2, turn_enum a (s1.heap.objs.size + 1) s1.heap.objs.size, ⟨⟨.none, he⟩, hit, Nat.succ_ne_self _⟩, fun b hb => ?_, q⟩
      have e' : b = s1.heap.objs.size + 1 ∨ b = s1.heap.objs.size := by simpa using hb
      have hle : s1.heap.objs.size ≤ b := by
        rcases e' with z | z
        · rw [z]; exact Nat.le_add_right _ _
        · rw [z]; exact Nat.le_refl _
      exact I1.fpOk hle (I1.hok.fresh hle)
  · subst ex
    cases r1 with
    | cons r rr =>
      cases rr
      cases r
      obtain ⟨its, rv, p', hz⟩ := I1.tuple hq
      refine call_enumerate_tuple (show s1.heap.IsTuple a its.toArray from p') fun h' he hit hsz hk => wpAny_pyIter_enum he ?_
      have I2 : Inv X pins σ H1 { s1 with heap := h' } := I1.kept (t' := s1.toks) hk
      refine ⟨s1.heap.objs.size + 1, [s1.heap.objs.size + 1, s1.heap.objs.size], _, _, H1, rfl, I2, turn_enumT a (s1.heap.objs.size + 1) s1.heap.objs.size, ⟨⟨.none, he⟩, hit, Nat.succ_ne_self _⟩, fun b hb => ?_, q⟩
      have e' : b = s1.heap.objs.size + 1 ∨ b = s1.heap.objs.size := by simpa using hb
      have hle : s1.heap.objs.size ≤ b := by
        rcases e' with z | z
        · rw [z]; exact Nat.le_add_right _ _
        · rw [z]; exact Nat.le_refl _
      exact I1.fpOk hle (I1.hok.fresh hle)
/-- for i, x in enumerate(t): t a tuple that stands -/
theorem for_enumT {K : PySem.W.Frag} {a : Addr} {xs : List V} {g : TG} {tb : TS} {D : Ends} {σ : St} {H : Hp} (Pv : Nat → St → Hp → Prop) (h0 : Pv 0 σ H) (hl : ∀ i σ H, i ≤ xs.length → Pv i σ H → SqT K H a xs)
    (hs : ∀ i x σ H T, xs[i]? = some x → Pv i σ H → H T = none → g (.ref T) σ (upd H T (.tup [.int (i : Nat), x])) fun σ2 H2 => tb { D with nx := Pv (i + 1), ct := Pv (i + 1), bk := D.nx } σ2 H2) (hd : ∀ σ H, Pv xs.length σ H → D.nx σ H) :
    ∃ W : Nat → Nat → St → Hp → Prop, (∃ m, W 0 m σ H) ∧ ∀ i m σ H, W i m σ H →
      ((Itet K a).stop i H ∧ D.nx σ H) ∨ ((Itet K a).go i H ∧ ∃ N : St → Hp → Prop, (∀ σ' H', N σ' H' → ∃ m', m' < m ∧ W (i + 1) m' σ' H') ∧ ∀ x H', (Itet K a).yld i H x H' → g x σ H' fun σ2 H2 => tb { D with nx := N, ct := N, bk := D.nx } σ2 H2) := by
  refine ⟨fun i m σ H => m = xs.length - i ∧ i ≤ xs.length ∧ Pv i σ H, ⟨xs.length, by simp, Nat.zero_le _, h0⟩, ?_⟩
  rintro i m σ H ⟨rfl, hi, p⟩
  have q := hl i σ H hi p
  by_cases h : i < xs.length
  · refine .inr ⟨⟨xs, xs[i], q, List.getElem?_eq_getElem h⟩, Pv (i + 1), fun σ' H' z => ⟨xs.length - (i + 1), by omega, rfl, h, z⟩, ?_⟩
    rintro x H' ⟨T, y, rfl, hT, rfl, hy⟩
    exact hs i y σ H T (hy xs q) p hT
  · have e : i = xs.length := by omega
    subst e
    exact .inl ⟨⟨xs, q, Nat.le_refl _⟩, hd σ H p⟩

/-! ### the written part by names -/
structure Gm where
  K : PySem.W.Frag
  cRule : Addr
  cGame : Addr
  cSplitError : Addr
  cBadRule : Addr
  cBadHeap : Addr
  cBadSplit : Addr
  cNoTerms : Addr
  cNoTable : Addr
  cNotSure : Addr
  cBadWay : Addr
  cBadStyle : Addr
  cBadSums : Addr
  cBadNumber : Addr
  cTooGreat : Addr
  cBadRow : Addr
  cBadPlace : Addr
  cBadText : Addr
  aSTYLES : Addr
/-! ### built-ins by name -/
def rLen (K : PySem.W.Frag) : List V → Hp → VK → Prop := fun xs H Q => ∃ x n, xs = [x] ∧ LenV K x H n ∧ Q (.int n) H
def rAbs : List V → Hp → VK → Prop := fun xs H Q => ∃ i, xs = [.int i] ∧ Q (.int (if i < 0 then -i else i)) H
def rMin2 : List V → Hp → VK → Prop := fun xs H Q => ∃ i j, xs = [.int i, .int j] ∧ Q (.int (if j < i then j else i)) H
def rMax2 : List V → Hp → VK → Prop := fun xs H Q => ∃ i j, xs = [.int i, .int j] ∧ Q (.int (if j > i then j else i)) H
def rInt1 : List V → Hp → VK → Prop := fun xs H Q => (∃ i, xs = [.int i] ∧ Q (.int i) H) ∨ ∃ k, xs = [.bl k] ∧ Q (.int (if k then 1 else 0)) H
def rStr1 : List V → Hp → VK → Prop := fun xs H Q => ∃ i, xs = [.int i] ∧ i.natAbs.log2 < 1920 ∧ Q (.str (toString i)) H
def rTupOf (K : PySem.W.Frag) : List V → Hp → VK → Prop := fun xs H Q => ∃ p ys, xs = [.ref p] ∧ ((SqL K H p ys ∧ ∀ l, H l = none → Q (.ref l) (upd H l (.tup ys))) ∨ (SqT K H p ys ∧ Q (.ref p) H))
def rListOf (K : PySem.W.Frag) : List V → Hp → VK → Prop := fun xs H Q => ∃ p ys, xs = [.ref p] ∧ (SqL K H p ys ∨ SqT K H p ys) ∧ ∀ l, H l = none → Q (.ref l) (upd H l (.lst ys))
theorem pe_gint {X : Cx} {x : Str} {n : Int} {pos : Pos} (h : ∃ t, X.mg x = some (.int n t)) (hg : Gl X x) (hd : (x == ("__debug__" : Str)) = false := by decide) : PE X (.Name x pos) (tC (.int n)) := by
  obtain ⟨t, e⟩ := h
  exact pe_glob hg e ⟨t, rfl⟩ hd
theorem pe_gstr {X : Cx} {x s : Str} {pos : Pos} (h : ∃ t, X.mg x = some (.str s t)) (hg : Gl X x) (hd : (x == ("__debug__" : Str)) = false := by decide) : PE X (.Name x pos) (tC (.str s)) := by
  obtain ⟨t, e⟩ := h
  exact pe_glob hg e ⟨t, rfl⟩ hd
def tTry1 (K : PySem.W.Frag) (c : Value) (tb : WX → TS) (ts : Addr → Value → Option Addr → TS) : TS := fun D σ H => tb (wOnly K c ts (fun _ _ _ _ => False) D) D σ H
def tTryN (K : PySem.W.Frag) (tb : WX → TS) (l : List (Value × (Addr → Value → Option Addr → TS))) : TS := fun D σ H => tb (wMany K (fun _ _ _ _ => False) D l) D σ H
def startN (n : Nat) (vs : List V) : St := vs.map some ++ List.replicate (n - vs.length) none

theorem log2_le {n k : Nat} (h : n ≤ 2 ^ k) : n.log2 ≤ k := by
  by_cases z : n = 0
  · subst z; simp
  · have : n.log2 < k + 1 := (Nat.log2_lt z).mpr (by rw [Nat.pow_succ]; have := Nat.two_pow_pos k; omega)
    omega
theorem pow_nat {b : Int} {k m : Nat} (h : b.natAbs ≤ 2 ^ m) : (b ^ k).natAbs ≤ 2 ^ (m * k) := by
  rw [Int.natAbs_pow, Nat.pow_mul]
  exact Nat.pow_le_pow_left h k
theorem mul_nat {a b : Int} {m n : Nat} (ha : a.natAbs ≤ 2 ^ m) (hb : b.natAbs ≤ 2 ^ n) : (a * b).natAbs ≤ 2 ^ (m + n) := by
  rw [Int.natAbs_mul, Nat.pow_add]
  exact Nat.mul_le_mul ha hb
theorem cmul_of {a b : Int} {m n : Nat} (ha : a.natAbs ≤ 2 ^ m) (hb : b.natAbs ≤ 2 ^ n) (h : m + n < 1000000 := by omega) : CMulW a b := by
  have h1 := log2_le ha
  have h2 := log2_le hb
  unfold CMulW
  omega
/-! ### the heap grows -/
theorem _root_.L2.Same.new {H : Hp} {p : Addr} {o : HO} (h : H p = none) : Same H (upd H p o) := fun a u e => by
  rw [upd_ne (ne_of_none e h)]
  exact e
theorem _root_.L2.Same.mut {H H' : Hp} {p : Addr} {o : HO} (e : Same H H') (h : H p = none) : Same H (upd H' p o) := fun a u ha => by
  rw [upd_ne (ne_of_none ha h)]
  exact e a u ha
theorem _root_.L2.Same.seqT {K : PySem.W.Frag} {H H' : Hp} {a : Addr} {xs : List V} (e : Same H H') (h : SqT K H a xs) : SqT K H' a xs := by
  rcases h with (h | ⟨o, h⟩) | h
  · exact .inl (.inl (e _ _ h))
  · exact .inl (.inr ⟨o, e _ _ h⟩)
  · exact .inr h
theorem SqL.of {K : PySem.W.Frag} {H : Hp} {a : Addr} {xs : List V} (h : H a = some (.lst xs)) : SqL K H a xs := .inl (.inl h)
theorem SqT.of {K : PySem.W.Frag} {H : Hp} {a : Addr} {xs : List V} (h : H a = some (.tup xs)) : SqT K H a xs := .inl (.inl h)
/-- a new object at p, all else as before -/
theorem alloc {H : Hp} {o : HO} {R : Addr → Hp → Prop} (k : ∀ p H', H p = none → Same H H' → H' p = some o → R p H') : ∀ p, H p = none → R p (upd H p o) := fun p hp => k p _ hp (Same.new hp) upd_same

/-! ### one step of a reading -/
theorem w_iteT {A B : Prop} (h : A) : if true = true then A else B := by rw [if_pos rfl]; exact h
theorem w_iteF {A B : Prop} (h : B) : if false = true then A else B := by rw [if_neg Bool.false_ne_true]; exact h
theorem w_iteNT {A B : Prop} (h : B) : if (!true) = true then A else B := by rw [if_neg (by decide)]; exact h
theorem w_iteNF {A B : Prop} (h : A) : if (!false) = true then A else B := by rw [if_pos (by decide)]; exact h
theorem w_ite {b : Bool} {A B : Prop} (h1 : b = true → A) (h2 : b = false → B) : if b = true then A else B := by
  cases b with
  | true => exact w_iteT (h1 rfl)
  | false => exact w_iteF (h2 rfl)
section
variable {K : PySem.W.Frag} {σ : St} {H : Hp} {Q : VK} {QB : Bool → Hp → Prop} {QA : List V → Hp → Prop} {QO : Option Int → Hp → Prop} {nx bk ct : St → Hp → Prop} {rt : VK} {t u : TS} {c d : TT} {ta tb te to : TE} {r r' : R2} {tr : TA} {x y v : V} {g : TG} {gs : TGs}
theorem w_seq (h : t ⟨u ⟨nx, rt, bk, ct⟩, rt, bk, ct⟩ σ H) : tSeq t u ⟨nx, rt, bk, ct⟩ σ H := h
theorem w_thru (h : t ⟨u ⟨nx, rt, bk, ct⟩, rt, bk, ct⟩ σ H) : tCut t u ⟨nx, rt, bk, ct⟩ σ H := ⟨_, h, fun _ _ z => z⟩
theorem w_cut (Mid : St → Hp → Prop) (h : t ⟨Mid, rt, bk, ct⟩ σ H) (h2 : ∀ σ' H', Mid σ' H' → u ⟨nx, rt, bk, ct⟩ σ' H') : tCut t u ⟨nx, rt, bk, ct⟩ σ H := ⟨Mid, h, h2⟩
theorem w_prp {C : Addr} {fld : Str} (h : ta σ H fun x H1 => kPrp C fld x H1 Q) : tPrp C fld ta σ H Q := h
def kMak (C : Addr) (sp : Sp) (E : XK) (vs : List V) (H : Hp) (Q : VK) : Prop := ∀ x dx, H x = none → H dx = none → dx ≠ x → sp (.ref x :: vs) (upd (upd H dx (.own x)) x (.ins C dx [])) (fun v H2 => v = .non ∧ Q (.ref x) H2) E
theorem w_mak {C : Addr} {sp : Sp} {E : XK} (h : tr σ H fun vs H1 => kMak C sp E vs H1 Q) : tMak C sp E tr σ H Q := h
def kMakS (C : Addr) (sp : Sp) (E : XK) (vs : List V) (H : Hp) (Q : VK) : Prop := ∀ x dx, H x = none → H dx = none → dx ≠ x → sp (.ref x :: vs) (upd (upd H dx (.own x)) x (.ins C dx [])) (fun v H2 => v = .non ∧ Q (.ref x) H2) E
theorem w_makS {C : Addr} {sp : Sp} {E : St → XK} (h : tr σ H fun vs H1 => kMak C sp (E σ) vs H1 Q) : tMakS C sp E tr σ H Q := h
theorem w_next (h : nx σ H) : tNext ⟨nx, rt, bk, ct⟩ σ H := h
theorem w_brk (h : bk σ H) : tBreak ⟨nx, rt, bk, ct⟩ σ H := h
theorem w_cont (h : ct σ H) : tCont ⟨nx, rt, bk, ct⟩ σ H := h
theorem w_ret (h : te σ H rt) : tRet te ⟨nx, rt, bk, ct⟩ σ H := h
theorem w_retN (h : rt .non H) : tRetN ⟨nx, rt, bk, ct⟩ σ H := h
theorem w_asg (h : te σ H fun x H1 => g x σ H1 nx) : tAsg te g ⟨nx, rt, bk, ct⟩ σ H := h
theorem w_drop (h : te σ H fun _ H1 => nx σ H1) : tDrop te ⟨nx, rt, bk, ct⟩ σ H := h
theorem w_ifS (h : c σ H fun b H1 => if b = true then t ⟨nx, rt, bk, ct⟩ σ H1 else u ⟨nx, rt, bk, ct⟩ σ H1) : tIfS c t u ⟨nx, rt, bk, ct⟩ σ H := h
theorem w_gName {i : Nat} {k : St → Hp → Prop} (h : k (σ.set i (some v)) H) : gName i v σ H k := h
theorem w_gNil {k : St → Hp → Prop} (h : k σ H) : gNil [] σ H k := ⟨rfl, h⟩
theorem w_gCons {vs : List V} {k : St → Hp → Prop} (h : g v σ H fun σ' H' => gs vs σ' H' k) : gCons g gs (v :: vs) σ H k := ⟨v, vs, rfl, h⟩
theorem w_gTup {n : Nat} {a : Addr} {xs : List V} {k : St → Hp → Prop} (hs : SqT K H a xs) (hl : xs.length = n) (h : gs xs σ H k) : gTup K n gs (.ref a) σ H k := ⟨a, xs, rfl, hs, hl, h⟩
theorem w_gSub {ti : TE} {s : TSet} {k : St → Hp → Prop} (h : to σ H fun o H1 => ti σ H1 fun i H2 => s o i v H2 fun H3 => k σ H3) : gSub to ti s v σ H k := h
theorem w_setL {p : Addr} {xs : List V} {i : Int} {j : Nat} {k : Hp → Prop} (hp : H p = some (.lst xs)) (hi : ixN xs.length i = some j) (h : k (upd H p (.lst (xs.set j v)))) : rSetL (.ref p) (.int i) v H k := ⟨p, xs, i, j, rfl, rfl, hp, hi, h⟩
theorem w_par {i j : Nat} (h : tr σ H fun vs H1 => ∃ v w, vs = [v, w] ∧ nx ((σ.set i (some v)).set j (some w)) H1) : tPar i j tr ⟨nx, rt, bk, ct⟩ σ H := h
theorem w_par3 {i j l : Nat} (h : tr σ H fun vs H1 => ∃ u v w, vs = [u, v, w] ∧ nx (((σ.set i (some u)).set j (some v)).set l (some w)) H1) : tPar3 i j l tr ⟨nx, rt, bk, ct⟩ σ H := h
theorem w_two {v w : V} {k : V → V → Prop} (h : k v w) : ∃ a b, [v, w] = [a, b] ∧ k a b := ⟨v, w, rfl, h⟩
theorem w_three {u v w : V} {k : V → V → V → Prop} (h : k u v w) : ∃ a b c, [u, v, w] = [a, b, c] ∧ k a b c := ⟨u, v, w, rfl, h⟩
theorem w_aug {i : Nat} {f : Int → Int → Int} {m : Int} (hx : σ[i]? = some (some (.int m))) (h : te σ H fun y H1 => ipI f (.int m) y H1 fun z H2 => nx (σ.set i (some z)) H2) : tAug i te (ipI f) ⟨nx, rt, bk, ct⟩ σ H := ⟨_, hx, h⟩
theorem w_ipI {f : Int → Int → Int} {i j : Int} (h : Q (.int (f i j)) H) : ipI f (.int i) (.int j) H Q := ⟨i, j, rfl, rfl, h⟩
/-- what a for asks once its iterator has come -/
def forK (J : It) (g : TG) (t : TS) (nx : St → Hp → Prop) (rt : VK) (σ : St) (H : Hp) : Prop := ∃ W : Nat → Nat → St → Hp → Prop, (∃ m, W 0 m σ H) ∧ ∀ i m σ H, W i m σ H →
    (J.stop i H ∧ nx σ H) ∨ (J.go i H ∧ ∃ N : St → Hp → Prop, (∀ σ' H', N σ' H' → ∃ m', m' < m ∧ W (i + 1) m' σ' H') ∧ ∀ x H', J.yld i H x H' → g x σ H' fun σ2 H2 => t ⟨N, rt, nx, N⟩ σ2 H2)
theorem w_for {wi : TI} (h : wi σ H fun J H1 => forK J g t nx rt σ H1) : tFor wi g t ⟨nx, rt, bk, ct⟩ σ H := h
theorem k_range {lo : Int} {n : Nat} (Pv : Nat → St → Hp → Prop) (h0 : Pv 0 σ H) (hs : ∀ i σ H, i < n → Pv i σ H → g (.int (lo + i)) σ H fun σ2 H2 => t ⟨Pv (i + 1), rt, nx, Pv (i + 1)⟩ σ2 H2) (hd : ∀ σ H, Pv n σ H → nx σ H) : forK (Itr lo n) g t nx rt σ H :=
  for_range (D := ⟨nx, rt, fun _ _ => False, fun _ _ => False⟩) Pv h0 hs hd
theorem k_list {a : Addr} {xs : List V} (Pv : Nat → St → Hp → Prop) (h0 : Pv 0 σ H) (hl : ∀ i σ H, i ≤ xs.length → Pv i σ H → SqL K H a xs) (hs : ∀ i x σ H, xs[i]? = some x → Pv i σ H → g x σ H fun σ2 H2 => t ⟨Pv (i + 1), rt, nx, Pv (i + 1)⟩ σ2 H2) (hd : ∀ σ H, Pv xs.length σ H → nx σ H) : forK (Itl K a) g t nx rt σ H :=
  for_list (D := ⟨nx, rt, fun _ _ => False, fun _ _ => False⟩) Pv h0 hl hs hd
theorem k_tup {a : Addr} {xs : List V} (Pv : Nat → St → Hp → Prop) (h0 : Pv 0 σ H) (hl : ∀ i σ H, i ≤ xs.length → Pv i σ H → SqT K H a xs) (hs : ∀ i x σ H, xs[i]? = some x → Pv i σ H → g x σ H fun σ2 H2 => t ⟨Pv (i + 1), rt, nx, Pv (i + 1)⟩ σ2 H2) (hd : ∀ σ H, Pv xs.length σ H → nx σ H) : forK (Itt K a) g t nx rt σ H :=
  for_tup (D := ⟨nx, rt, fun _ _ => False, fun _ _ => False⟩) Pv h0 hl hs hd
theorem k_enumT {a : Addr} {xs : List V} (Pv : Nat → St → Hp → Prop) (h0 : Pv 0 σ H) (hl : ∀ i σ H, i ≤ xs.length → Pv i σ H → SqT K H a xs) (hs : ∀ i x σ H T, xs[i]? = some x → Pv i σ H → H T = none → g (.ref T) σ (upd H T (.tup [.int (i : Nat), x])) fun σ2 H2 => t ⟨Pv (i + 1), rt, nx, Pv (i + 1)⟩ σ2 H2) (hd : ∀ σ H, Pv xs.length σ H → nx σ H) : forK (Itet K a) g t nx rt σ H :=
  for_enumT (D := ⟨nx, rt, fun _ _ => False, fun _ _ => False⟩) Pv h0 hl hs hd
/-- what a list comprehension asks once its iterator has come -/
def lcK (J : It) (g : TG) (tt : TT) (te : TE) (vs : List Nat) (σ : St) (H1 : Hp) (Q : VK) : Prop := ∀ D, H1 D = none → ∃ W : Nat → Nat → Hp → Prop, (∃ m, W 0 m (upd H1 D (.lst []))) ∧ ∀ i m H, W i m H →
  (J.stop i H ∧ Q (.ref D) H) ∨ (J.go i H ∧ ∃ Nx : Hp → Prop, (∀ H', Nx H' → ∃ m', m' < m ∧ W (i + 1) m' H') ∧ ∀ x H', J.yld i H x H' → g x (wipe σ vs) H' fun σ2 H2 => wipe σ2 vs = wipe σ vs ∧ tt σ2 H2 fun b H3 =>
    if b = true then te σ2 H3 fun y H4 => ∃ acc, H4 D = some (.lst acc) ∧ acc.length < sizeLine ∧ Nx (upd H4 D (.lst (acc ++ [y]))) else Nx H3)
theorem w_lc {wi : TI} {vs : List Nat} (h : wi σ H fun J H1 => lcK J g c te vs σ H1 Q) : tLc wi g c te vs σ H Q := h
/-- one turn's end in a comprehension over the heap H0: the list so far, all else as it stood -/
def lcAt (H0 : Hp) (D : Addr) (P : List V → Hp → Prop) (H : Hp) : Prop := ∃ acc, H0 D = none ∧ Same H0 H ∧ H D = some (.lst acc) ∧ P acc H
/-- what a turn of a comprehension is to give: a value y with P of the list one longer -/
def lcTurn (H0 : Hp) (D : Addr) (P : List V → Hp → Prop) (y : V) (H4 : Hp) : Prop := ∃ acc, H4 D = some (.lst acc) ∧ acc.length < sizeLine ∧ lcAt H0 D P (upd H4 D (.lst (acc ++ [y])))
theorem lcTurn.mk {H0 : Hp} {D : Addr} {acc : List V} {P : List V → Hp → Prop} {y : V} {H4 : Hp} (hD : H0 D = none) (e : Same H0 H4) (ha : H4 D = some (.lst acc)) (hz : acc.length ≤ 100000) (hp : P (acc ++ [y]) (upd H4 D (.lst (acc ++ [y])))) : lcTurn H0 D P y H4 :=
  ⟨acc, ha, Nat.lt_of_le_of_lt hz (by decide), _, hD, Same.mut e hD, upd_same, hp⟩
theorem k_lcRange {lo : Int} {n : Nat} {vs : List Nat} (P : Nat → List V → Hp → Prop) (h0 : ∀ H', Same H H' → P 0 [] H')
    (hs : ∀ i D acc H', i < n → H D = none → Same H H' → H' D = some (.lst acc) → P i acc H' → g (.int (lo + i)) (wipe σ vs) H' fun σ2 H2 => wipe σ2 vs = wipe σ vs ∧ te σ2 H2 (lcTurn H D (P (i + 1))))
    (hd : ∀ D acc H', H D = none → Same H H' → H' D = some (.lst acc) → P n acc H' → Q (.ref D) H') : lcK (Itr lo n) g tYes te vs σ H Q := fun D hD =>
  lc_range (lo := lo) (n := n) (fun i H' => lcAt H D (P i) H') ⟨[], hD, Same.new hD, upd_same, h0 _ (Same.new hD)⟩ (fun i H' hi ⟨acc, _, e, ha, p⟩ => hs i D acc H' hi hD e ha p) fun H' ⟨acc, _, e, ha, p⟩ => hd D acc H' hD e ha p
theorem k_lcList {a : Addr} {xs : List V} {vs : List Nat} (P : Nat → List V → Hp → Prop) (hx : SqL K H a xs) (h0 : ∀ H', Same H H' → P 0 [] H')
    (hs : ∀ i x D acc H', xs[i]? = some x → H D = none → Same H H' → H' D = some (.lst acc) → P i acc H' → g x (wipe σ vs) H' fun σ2 H2 => wipe σ2 vs = wipe σ vs ∧ te σ2 H2 (lcTurn H D (P (i + 1))))
    (hd : ∀ D acc H', H D = none → Same H H' → H' D = some (.lst acc) → P xs.length acc H' → Q (.ref D) H') : lcK (Itl K a) g tYes te vs σ H Q := fun D hD =>
  lc_list (xs := xs) (fun i H' => lcAt H D (P i) H') ⟨[], hD, Same.new hD, upd_same, h0 _ (Same.new hD)⟩ (fun i H' _ ⟨_, _, e, _⟩ => e.seq hx) (fun i x H' hi ⟨acc, _, e, ha, p⟩ => hs i x D acc H' hi hD e ha p) fun H' ⟨acc, _, e, ha, p⟩ => hd D acc H' hD e ha p
theorem k_lcTup {a : Addr} {xs : List V} {vs : List Nat} (P : Nat → List V → Hp → Prop) (hx : SqT K H a xs) (h0 : ∀ H', Same H H' → P 0 [] H')
    (hs : ∀ i x D acc H', xs[i]? = some x → H D = none → Same H H' → H' D = some (.lst acc) → P i acc H' → g x (wipe σ vs) H' fun σ2 H2 => wipe σ2 vs = wipe σ vs ∧ te σ2 H2 (lcTurn H D (P (i + 1))))
    (hd : ∀ D acc H', H D = none → Same H H' → H' D = some (.lst acc) → P xs.length acc H' → Q (.ref D) H') : lcK (Itt K a) g tYes te vs σ H Q := fun D hD =>
  lc_tup (xs := xs) (fun i H' => lcAt H D (P i) H') ⟨[], hD, Same.new hD, upd_same, h0 _ (Same.new hD)⟩ (fun i H' _ ⟨_, _, e, _⟩ => e.seqT hx) (fun i x H' hi ⟨acc, _, e, ha, p⟩ => hs i x D acc H' hi hD e ha p) fun H' ⟨acc, _, e, ha, p⟩ => hd D acc H' hD e ha p
/-- the same with a test: b i x, and the value of what is kept -/
theorem k_lcListT {a : Addr} {xs : List V} {vs : List Nat} (P : Nat → List V → Hp → Prop) (hx : SqL K H a xs) (h0 : ∀ H', Same H H' → P 0 [] H')
    (hs : ∀ i x D acc H', xs[i]? = some x → H D = none → Same H H' → H' D = some (.lst acc) → P i acc H' → g x (wipe σ vs) H' fun σ2 H2 => wipe σ2 vs = wipe σ vs ∧ c σ2 H2 fun b H3 => if b = true then te σ2 H3 (lcTurn H D (P (i + 1))) else lcAt H D (P (i + 1)) H3)
    (hd : ∀ D acc H', H D = none → Same H H' → H' D = some (.lst acc) → P xs.length acc H' → Q (.ref D) H') : lcK (Itl K a) g c te vs σ H Q := fun D hD =>
  lc_list (xs := xs) (fun i H' => lcAt H D (P i) H') ⟨[], hD, Same.new hD, upd_same, h0 _ (Same.new hD)⟩ (fun i H' _ ⟨_, _, e, _⟩ => e.seq hx) (fun i x H' hi ⟨acc, _, e, ha, p⟩ => hs i x D acc H' hi hD e ha p) fun H' ⟨acc, _, e, ha, p⟩ => hd D acc H' hD e ha p
theorem k_lcRangeT {lo : Int} {n : Nat} {vs : List Nat} (P : Nat → List V → Hp → Prop) (h0 : ∀ H', Same H H' → P 0 [] H')
    (hs : ∀ i D acc H', i < n → H D = none → Same H H' → H' D = some (.lst acc) → P i acc H' → g (.int (lo + i)) (wipe σ vs) H' fun σ2 H2 => wipe σ2 vs = wipe σ vs ∧ c σ2 H2 fun b H3 => if b = true then te σ2 H3 (lcTurn H D (P (i + 1))) else lcAt H D (P (i + 1)) H3)
    (hd : ∀ D acc H', H D = none → Same H H' → H' D = some (.lst acc) → P n acc H' → Q (.ref D) H') : lcK (Itr lo n) g c te vs σ H Q := fun D hD =>
  lc_range (lo := lo) (n := n) (fun i H' => lcAt H D (P i) H') ⟨[], hD, Same.new hD, upd_same, h0 _ (Same.new hD)⟩ (fun i H' hi ⟨acc, _, e, ha, p⟩ => hs i D acc H' hi hD e ha p) fun H' ⟨acc, _, e, ha, p⟩ => hd D acc H' hD e ha p
def kRng1 (vs : List V) (H : Hp) (R : It → Hp → Prop) : Prop := ∃ j : Int, vs = [.int j] ∧ -(2 ^ 62) ≤ j ∧ j < 2 ^ 62 ∧ R (Itr 0 j.toNat) H
def kRng2 (vs : List V) (H : Hp) (R : It → Hp → Prop) : Prop := ∃ i j : Int, vs = [.int i, .int j] ∧ (-(2 ^ 62) ≤ i ∧ i < 2 ^ 62 ∧ -(2 ^ 62) ≤ j ∧ j < 2 ^ 62) ∧ R (Itr i (j - i).toNat) H
theorem w_rng1 {R : It → Hp → Prop} (h : tr σ H fun vs H1 => kRng1 vs H1 R) : iRng1 tr σ H R := h
theorem w_rng2 {R : It → Hp → Prop} (h : tr σ H fun vs H1 => kRng2 vs H1 R) : iRng2 tr σ H R := h
theorem k_rng1 {j : Int} {R : It → Hp → Prop} (h1 : -(2 ^ 62) ≤ j ∧ j < 2 ^ 62) (h : R (Itr 0 j.toNat) H) : kRng1 [.int j] H R := ⟨j, rfl, h1.1, h1.2, h⟩
theorem k_rng2 {i j : Int} {R : It → Hp → Prop} (h1 : -(2 ^ 62) ≤ i ∧ i < 2 ^ 62 ∧ -(2 ^ 62) ≤ j ∧ j < 2 ^ 62) (h : R (Itr i (j - i).toNat) H) : kRng2 [.int i, .int j] H R := ⟨i, j, rfl, h1, h⟩
theorem w_iSeq {R : It → Hp → Prop} (h : te σ H fun x H1 => kSeq K x H1 R) : iSeq K te σ H R := h
theorem k_seqL {a : Addr} {xs : List V} {R : It → Hp → Prop} (hx : SqL K H a xs) (h : R (Itl K a) H) : kSeq K (.ref a) H R := .inl ⟨a, rfl, ⟨xs, hx⟩, h⟩
theorem k_seqT {a : Addr} {xs : List V} {R : It → Hp → Prop} (hx : SqT K H a xs) (h : R (Itt K a) H) : kSeq K (.ref a) H R := .inr ⟨a, rfl, ⟨xs, hx⟩, h⟩
theorem w_iEnum {R : It → Hp → Prop} (h : tr σ H fun vs H1 => kEnum K vs H1 R) : iEnumS K tr σ H R := h
theorem k_enT {a : Addr} {xs : List V} {R : It → Hp → Prop} (hx : SqT K H a xs) (h : R (Itet K a) H) : kEnum K [.ref a] H R := .inr ⟨a, xs, rfl, hx, h⟩
-- tests
theorem w_test (h : te σ H fun x H' => ∃ k, x = .bl k ∧ QB k H') : tTest te σ H QB := h
theorem w_B (h : te σ H fun x H' => ∃ k, x = .bl k ∧ QB k H') : tB te σ H QB := h
theorem w_bl {b : Bool} (h : QB b H) : ∃ k, V.bl b = .bl k ∧ QB k H := ⟨b, rfl, h⟩
theorem w_not (h : c σ H fun b H1 => QB (!b) H1) : tNot c σ H QB := h
theorem w_and (h : c σ H fun b H1 => if b = true then d σ H1 QB else QB false H1) : tAnd c d σ H QB := h
theorem w_or (h : c σ H fun b H1 => if b = true then QB true H1 else d σ H1 QB) : tOr c d σ H QB := h
theorem w_andV (h : ta σ H fun x H1 => ∃ k, x = .bl k ∧ if k = true then tb σ H1 Q else Q (.bl false) H1) : tAndV ta tb σ H Q := h
theorem w_orV (h : ta σ H fun x H1 => ∃ k, x = .bl k ∧ if k = true then Q (.bl true) H1 else tb σ H1 Q) : tOrV ta tb σ H Q := h
theorem w_notV (h : ta σ H fun x H1 => ∃ k, x = .bl k ∧ Q (.bl (!k)) H1) : tNotV ta σ H Q := h
theorem w_ifT {e : TT} (h : c σ H fun b H1 => if b = true then d σ H1 QB else e σ H1 QB) : tIfT c d e σ H QB := h
theorem w_if (h : c σ H fun b H1 => if b = true then ta σ H1 Q else tb σ H1 Q) : tIf c ta tb σ H Q := h
-- expressions
theorem w_var {i : Nat} (h : σ[i]? = some (some v)) (q : Q v H) : tVar i σ H Q := ⟨v, h, q⟩
theorem w_c (q : Q v H) : tC v σ H Q := q
theorem w_op (h : ta σ H fun x H1 => tb σ H1 fun y H2 => r x y H2 Q) : tOp r ta tb σ H Q := h
theorem w_un {r1 : V → Hp → VK → Prop} (h : ta σ H fun x H1 => r1 x H1 Q) : tUn r1 ta σ H Q := h
theorem w_rU {f : Int → V} {i : Int} (h : Q (f i) H) : rU f (.int i) H Q := ⟨i, rfl, h⟩
theorem w_chain (h : ta σ H fun x H1 => tb σ H1 fun y H2 => r x y H2 fun z H3 => ∃ k, z = .bl k ∧ (if k = true then te σ H3 fun w' H4 => r' y w' H4 Q else Q (.bl false) H3)) : tChain r r' ta tb te σ H Q := h
theorem w_blv {b : Bool} {k : Bool → Prop} (h : k b) : ∃ a, V.bl b = .bl a ∧ k a := ⟨b, rfl, h⟩
theorem w_addI {i j : Int} (h : Q (.int (i + j)) H) : rAddU K (.int i) (.int j) H Q := .inl ⟨i, j, rfl, rfl, h⟩
theorem w_addL {l b : Addr} {xs zs : List V} (hl : H l = some (.lst xs)) (hb : H b = some (.lst zs)) (hz : xs.length + zs.length ≤ sizeLine) (h : ∀ p H', H p = none → Same H H' → H' p = some (.lst (xs ++ zs)) → Q (.ref p) H') : rAddU K (.ref l) (.ref b) H Q :=
  .inr (.inl ⟨l, b, xs, zs, rfl, rfl, hl, hb, hz, alloc h⟩)
theorem w_addS {i j : Str} (hl : i.length + j.length ≤ sizeLine) (h : Q (.str (i ++ j)) H) : rAddU K (.str i) (.str j) H Q := .inr (.inr (.inr ⟨i, j, rfl, rfl, hl, h⟩))
theorem w_subI {i j : Int} (h : Q (.int (i - j)) H) : rSubI (.int i) (.int j) H Q := ⟨i, j, rfl, rfl, h⟩
theorem w_mulI {i j : Int} (hc : CMulW i j) (h : Q (.int (i * j)) H) : rMulU K (.int i) (.int j) H Q := .inl ⟨i, j, rfl, rfl, hc, h⟩
theorem w_divI {i j : Int} (hc : CDivW i j) (h : Q (.int (i / j)) H) : rDivI (.int i) (.int j) H Q := ⟨i, j, rfl, rfl, hc, h⟩
theorem w_modI {i j : Int} (hc : 0 < j) (h : Q (.int (i % j)) H) : rModI (.int i) (.int j) H Q := ⟨i, j, rfl, rfl, hc, h⟩
theorem w_powI {i j : Int} (hc : CPow i j) (h : Q (.int (i ^ j.toNat)) H) : rPowI (.int i) (.int j) H Q := ⟨i, j, rfl, rfl, hc, h⟩
theorem w_lt {i j : Int} (h : Q (.bl (decide (i < j))) H) : rLt (.int i) (.int j) H Q := ⟨i, j, rfl, rfl, h⟩
theorem w_le {i j : Int} (h : Q (.bl (decide (i ≤ j))) H) : rLe (.int i) (.int j) H Q := ⟨i, j, rfl, rfl, h⟩
theorem w_gt {i j : Int} (h : Q (.bl (decide (j < i))) H) : rGt (.int i) (.int j) H Q := ⟨i, j, rfl, rfl, h⟩
theorem w_ge {i j : Int} (h : Q (.bl (decide (j ≤ i))) H) : rGe (.int i) (.int j) H Q := ⟨i, j, rfl, rfl, h⟩
theorem w_eqI {i j : Int} (h : Q (.bl (decide (i = j))) H) : rEqU K (.int i) (.int j) H Q := .inl ⟨rfl, by rw [show decide (V.int i = V.int j) = decide (i = j) from by simp]; exact h⟩
theorem w_neI {i j : Int} (h : Q (.bl (!decide (i = j))) H) : rNeU K (.int i) (.int j) H Q := .inl ⟨rfl, by rw [show decide (V.int i = V.int j) = decide (i = j) from by simp]; exact h⟩
theorem w_eqS {i j : Str} (h : Q (.bl (decide (i = j))) H) : rEqU K (.str i) (.str j) H Q := .inl ⟨rfl, by rw [show decide (V.str i = V.str j) = decide (i = j) from by simp]; exact h⟩
theorem w_neS {i j : Str} (h : Q (.bl (!decide (i = j))) H) : rNeU K (.str i) (.str j) H Q := .inl ⟨rfl, by rw [show decide (V.str i = V.str j) = decide (i = j) from by simp]; exact h⟩
theorem w_eqB {i j : Bool} (h : Q (.bl (decide (i = j))) H) : rEqU K (.bl i) (.bl j) H Q := .inl ⟨rfl, by rw [show decide (V.bl i = V.bl j) = decide (i = j) from by simp]; exact h⟩
theorem w_neB {i j : Bool} (h : Q (.bl (!decide (i = j))) H) : rNeU K (.bl i) (.bl j) H Q := .inl ⟨rfl, by rw [show decide (V.bl i = V.bl j) = decide (i = j) from by simp]; exact h⟩
theorem w_isN (h : Q (.bl (decide (x = .non))) H) : rIsU x .non H Q := .inl ⟨rfl, h⟩
theorem w_notN (h : Q (.bl (!decide (x = .non))) H) : rNotIsU x .non H Q := .inl ⟨rfl, h⟩
theorem w_isB {a b : Bool} (h : Q (.bl (decide (a = b))) H) : rIsU (.bl a) (.bl b) H Q := .inr ⟨a, b, rfl, rfl, h⟩
theorem w_notB {a b : Bool} (h : Q (.bl (!decide (a = b))) H) : rNotIsU (.bl a) (.bl b) H Q := .inr ⟨a, b, rfl, rfl, h⟩
theorem w_ixL {p : Addr} {xs : List V} {i : Int} (hp : SqL K H p xs) (hi : atI xs i = some v) (h : Q v H) : rIx K (.ref p) (.int i) H Q := .inl ⟨p, xs, i, v, rfl, rfl, hp, hi, h⟩
theorem w_ixT {p : Addr} {xs : List V} {i : Int} (hp : SqT K H p xs) (hi : atI xs i = some v) (h : Q v H) : rIx K (.ref p) (.int i) H Q := .inr (.inl ⟨p, xs, i, v, rfl, rfl, hp, hi, h⟩)
theorem w_cal {sp : Sp} {E : XK} (h : tr σ H fun vs H1 => sp vs H1 Q E) : tCal sp E tr σ H Q := h
theorem w_calS {sp : Sp} {E : St → XK} (h : tr σ H fun vs H1 => sp vs H1 Q (E σ)) : tCalS sp E tr σ H Q := h
theorem w_met {C : Addr} {m : Str} {sp : Sp} {E : XK} (h : ta σ H fun x H1 => ∃ a dx fs, x = .ref a ∧ H1 a = some (.ins C dx fs) ∧ fs.lookup m = none ∧ tr σ H1 fun vs H2 => sp (x :: vs) H2 Q E) : tMet C m sp E ta tr σ H Q := h
theorem w_inT {neg : Bool} {p : Addr} {xs : List V} (hp : SqT K H p xs) (hx : flatV x = true) (ha : xs.all flatV = true) (h : Q (.bl (if neg then !inV x xs else inV x xs)) H) : rIn K neg x (.ref p) H Q := ⟨p, xs, rfl, .inr hp, hx, ha, h⟩
theorem w_inL {neg : Bool} {p : Addr} {xs : List V} (hp : SqL K H p xs) (hx : flatV x = true) (ha : xs.all flatV = true) (h : Q (.bl (if neg then !inV x xs else inV x xs)) H) : rIn K neg x (.ref p) H Q := ⟨p, xs, rfl, .inl hp, hx, ha, h⟩
theorem w_in1 (h : rIn K false x y H Q) : rInU K x y H Q := .inl h
theorem w_in2 (h : rIn K true x y H Q) : rNotInU K x y H Q := .inl h
theorem w_nil (h : QA [] H) : tNil σ H QA := h
theorem w_cons (h : ta σ H fun x H1 => tr σ H1 fun xs H2 => QA (x :: xs) H2) : tCons ta tr σ H QA := h
theorem w_cb {rb : List V → Hp → VK → Prop} (h : tr σ H fun vs H1 => rb vs H1 Q) : tCB rb tr σ H Q := h
def kTup (xs : List V) (H : Hp) (Q : VK) : Prop := xs.length ≤ sizeLine ∧ ∀ p, H p = none → Q (.ref p) (upd H p (.tup xs))
def kLst (xs : List V) (H : Hp) (Q : VK) : Prop := xs.length ≤ sizeLine ∧ ∀ p, H p = none → Q (.ref p) (upd H p (.lst xs))
theorem w_tup (h : tr σ H fun xs H1 => kTup xs H1 Q) : tTup tr σ H Q := h
theorem w_lst (h : tr σ H fun xs H1 => kLst xs H1 Q) : tLst tr σ H Q := h
theorem n_tup {xs : List V} (k : ∀ p H', H p = none → Same H H' → H' p = some (.tup xs) → Q (.ref p) H') (hz : xs.length ≤ 100000 := by first | decide | (simp only [List.length_cons, List.length_nil]; decide)) : kTup xs H Q := ⟨Nat.le_trans hz (by decide), fun p hp => k p _ hp (Same.new hp) upd_same⟩
theorem n_lst {xs : List V} (k : ∀ p H', H p = none → Same H H' → H' p = some (.lst xs) → Q (.ref p) H') (hz : xs.length ≤ 100000 := by first | decide | (simp only [List.length_cons, List.length_nil]; decide)) : kLst xs H Q := ⟨Nat.le_trans hz (by decide), fun p hp => k p _ hp (Same.new hp) upd_same⟩
def rFld (K : PySem.W.Frag) (f : Str) (x : V) (H : Hp) (Q : VK) : Prop := ∃ a C dx fs v, x = .ref a ∧ H a = some (.ins C dx fs) ∧ Cls K C ∧ NoAttr K C f ∧ fs.lookup f = some v ∧ Q v H
theorem w_fld {f : Str} (h : ta σ H fun x H1 => rFld K f x H1 Q) : tFld K ta f σ H Q := h
def kSfld (K : PySem.W.Frag) (f : Str) (y x : V) (H : Hp) (k : Hp → Prop) : Prop := ∃ a C dx fs, x = .ref a ∧ H a = some (.ins C dx fs) ∧ Cls K C ∧ NoAttr K C f ∧ fs.length < 1000 ∧ k (upd H a (.ins C dx (putF f y fs)))
theorem w_sFld {f : Str} {tv : TE} (h : tv σ H fun y H1 => ta σ H1 fun x H2 => kSfld K f y x H2 fun H3 => nx σ H3) : sFld K ta tv f ⟨nx, rt, bk, ct⟩ σ H := h
theorem k_sfld {f : Str} {y : V} {a C dx : Addr} {fs : List (Str × V)} {k : Hp → Prop} (h1 : H a = some (.ins C dx fs)) (h2 : Cls K C) (h3 : NoAttr K C f) (h4 : fs.length < 1000) (h : k (upd H a (.ins C dx (putF f y fs)))) : kSfld K f y (.ref a) H k := ⟨a, C, dx, fs, rfl, h1, h2, h3, h4, h⟩
theorem w_bm {T : String} {rm : V → List V → Hp → VK → Prop} (h : to σ H fun x H1 => tyV K T x H1 ∧ tr σ H1 fun xs H2 => rm x xs H2 Q) : tBM K T rm to tr σ H Q := h
theorem w_bm0 {T : String} {rm : V → List V → Hp → VK → Prop} (h : to σ H fun x H1 => tyV K T x H1 ∧ rm x [] H1 Q) : tBM0 K T rm to σ H Q := h
theorem w_tyL {p : Addr} {xs : List V} {A : Prop} (hp : H p = some (.lst xs)) (h : A) : tyV K "list" (.ref p) H ∧ A := ⟨.inl ⟨rfl, xs, SqL.of hp⟩, h⟩
theorem w_app {l : Addr} {xs : List V} (hl : H l = some (.lst xs)) (hz : xs.length ≤ 100000) (h : Q .non (upd H l (.lst (xs ++ [y])))) : rAppend (.ref l) [y] H Q := ⟨l, xs, y, rfl, rfl, hl, Nat.lt_of_le_of_lt hz (by decide), h⟩
theorem w_lenL {p : Addr} {xs : List V} (hp : SqL K H p xs) (h : Q (.int (xs.length : Int)) H) : rLen K [.ref p] H Q := ⟨_, _, rfl, .inl ⟨xs, hp, rfl⟩, h⟩
theorem w_lenT {p : Addr} {xs : List V} (hp : SqT K H p xs) (h : Q (.int (xs.length : Int)) H) : rLen K [.ref p] H Q := ⟨_, _, rfl, .inr ⟨xs, hp, rfl⟩, h⟩
theorem w_int1 {i : Int} (h : Q (.int i) H) : rInt1 [.int i] H Q := .inl ⟨i, rfl, h⟩
theorem w_abs {i : Int} (h : Q (.int (if i < 0 then -i else i)) H) : rAbs [.int i] H Q := ⟨i, rfl, h⟩
theorem w_min2 {i j : Int} (h : Q (.int (if j < i then j else i)) H) : rMin2 [.int i, .int j] H Q := ⟨i, j, rfl, h⟩
theorem w_tupL {p : Addr} {xs : List V} (hp : SqL K H p xs) (h : ∀ l H', H l = none → Same H H' → H' l = some (.tup xs) → Q (.ref l) H') : rTupOf K [.ref p] H Q := ⟨p, xs, rfl, .inl ⟨hp, alloc h⟩⟩
theorem w_tupT {p : Addr} {xs : List V} (hp : SqT K H p xs) (h : Q (.ref p) H) : rTupOf K [.ref p] H Q := ⟨p, xs, rfl, .inr ⟨hp, h⟩⟩
theorem w_listL {p : Addr} {xs : List V} (hp : SqL K H p xs ∨ SqT K H p xs) (h : ∀ l H', H l = none → Same H H' → H' l = some (.lst xs) → Q (.ref l) H') : rListOf K [.ref p] H Q := ⟨p, xs, rfl, hp, alloc h⟩
theorem w_sum {p : Addr} {ns : List Int} (hp : SqL K H p (ns.map V.int)) (h : Q (.int ns.sum) H) : rSum K [.ref p] H Q := ⟨p, ns, rfl, hp, h⟩
theorem w_all {p : Addr} {bs : List Bool} (hp : SqL K H p (bs.map V.bl)) (h : Q (.bl (bs.all id)) H) : rAll K [.ref p] H Q := ⟨p, bs, rfl, hp, h⟩
theorem w_sl {rs : RSl} {tl th : TO} (h : te σ H fun x H1 => tl σ H1 fun l H2 => th σ H2 fun u H3 => rs x l u H3 Q) : tSl rs te tl th σ H Q := h
theorem w_noPart (h : QO none H) : tNoPart σ H QO := h
theorem w_part (h : te σ H fun x H1 => ∃ i, x = .int i ∧ QO (some i) H1) : tPart te σ H QO := h
theorem w_parti {i : Int} {k : Int → Prop} (h : k i) : ∃ j, V.int i = .int j ∧ k j := ⟨i, rfl, h⟩
theorem w_yes (h : QB true H) : tYes σ H QB := h
theorem w_raise {C : Addr} {W : WX} (h : W (.ref C) none σ H) : tRaise C W ⟨nx, rt, bk, ct⟩ σ H := h
theorem w_try1 {cv : Value} {tbb : WX → TS} {ts : Addr → Value → Option Addr → TS} (h : tbb (wOnly K cv ts (fun _ _ _ _ => False) ⟨nx, rt, bk, ct⟩) ⟨nx, rt, bk, ct⟩ σ H) : tTry1 K cv tbb ts ⟨nx, rt, bk, ct⟩ σ H := h
theorem w_tryN {tbb : WX → TS} {l : List (Value × (Addr → Value → Option Addr → TS))} (h : tbb (wMany K (fun _ _ _ _ => False) ⟨nx, rt, bk, ct⟩ l) ⟨nx, rt, bk, ct⟩ σ H) : tTryN K tbb l ⟨nx, rt, bk, ct⟩ σ H := h
end

local macro_rules | `(tactic| walk_at "sq") => `(tactic| first
  | assumption
  | exact SqT.of (by assumption)
  | exact SqL.of (by assumption)
  | exact SqT.of upd_same
  | exact SqL.of upd_same
  | exact Same.seqT (by assumption) (by assumption)
  | exact Same.seq (by assumption) (by assumption)
  | exact Same.seqT (by assumption) (SqT.of (by assumption))
  | exact Same.seq (by assumption) (SqL.of (by assumption)))
local macro_rules | `(tactic| walk_at "s") => `(tactic| with_reducible first
  | refine w_seq ?_ | refine w_asg ?_ | refine w_gName ?_ | refine w_ret ?_ | refine w_ifS ?_ | refine w_drop ?_ | refine w_par ?_ | refine w_par3 ?_ | refine w_two ?_ | refine w_three ?_
  | refine w_test ?_ | refine w_B ?_ | refine w_not ?_ | refine w_and ?_ | refine w_or ?_ | refine w_andV ?_ | refine w_orV ?_ | refine w_notV ?_ | refine w_if ?_ | refine w_ifT ?_ | refine w_bl ?_ | refine w_blv ?_ | refine w_iteT ?_ | refine w_iteF ?_ | refine w_iteNT ?_ | refine w_iteNF ?_
  | refine w_var (by with_unfolding_all rfl) ?_ | refine w_c ?_ | refine w_op ?_ | refine w_un ?_ | refine w_rU ?_ | refine w_chain ?_
  | refine w_addI ?_ | refine w_subI ?_ | refine w_lt ?_ | refine w_le ?_ | refine w_gt ?_ | refine w_ge ?_ | refine w_eqI ?_ | refine w_neI ?_ | refine w_eqS ?_ | refine w_neS ?_ | refine w_eqB ?_ | refine w_neB ?_ | refine w_isN ?_ | refine w_notN ?_ | refine w_isB ?_ | refine w_notB ?_
  | refine w_cal ?_ | refine w_calS ?_ | refine w_nil ?_ | refine w_cons ?_ | refine w_cb ?_ | refine w_int1 ?_ | refine w_abs ?_ | refine w_min2 ?_ | refine w_ipI ?_ | refine w_gSub ?_
  | refine w_tup ?_ | refine w_lst ?_ | refine w_bm ?_ | refine w_bm0 ?_ | refine w_sl ?_ | refine w_noPart ?_ | refine w_part ?_ | refine w_parti ?_ | refine w_yes ?_ | refine w_raise ?_ | refine w_try1 ?_ | refine w_tryN ?_ | refine w_brk ?_ | refine w_cont ?_ | refine w_retN ?_ | refine w_gNil ?_ | refine w_gCons ?_
  | refine w_fld ?_ | refine w_prp ?_ | refine w_mak ?_ | refine w_makS ?_ | refine w_sFld ?_ | refine w_for ?_ | refine w_lc ?_ | refine w_rng1 ?_ | refine w_rng2 ?_ | refine w_iSeq ?_ | refine w_iEnum ?_ | refine w_met ?_
  | refine w_aug (by with_unfolding_all rfl) ?_
  | refine w_next ?_)
local macro_rules | `(tactic| walk_at "m") => `(tactic| first
  | ((with_reducible show rMulU _ (V.int _) (V.int _) _ _); refine w_mulI (cmul_of (m := 110) (n := 110) (by omega) (by omega)) ?_)
  | ((with_reducible show rModI (V.int _) (V.int _) _ _); refine w_modI (by omega) ?_))
local macro_rules | `(tactic| walk_at "ss") => `(tactic| repeat (first | walk_at "s" | walk_at "m"))
/-! ### any value -/
/-- a value of one of the kinds that the document names, as it stands in H -/
inductive Tag (K : PySem.W.Frag) (H : Hp) : V → Prop
  | non : Tag K H .non
  | bl (b : Bool) : Tag K H (.bl b)
  | int (i : Int) : Tag K H (.int i)
  | str (x : Str) : Tag K H (.str x)
  | lst {a : Addr} {xs : List V} (h : H a = some (.lst xs)) : Tag K H (.ref a)
  | tup {a : Addr} {xs : List V} (h : H a = some (.tup xs)) : Tag K H (.ref a)
  | dK {a : Addr} {kvs : List (Key × V)} (h : H a = some (.dK kvs)) : Tag K H (.ref a)
theorem Tag.mono {K : PySem.W.Frag} {H H' : Hp} {v : V} (e : Same H H') (h : Tag K H v) : Tag K H' v := by
  cases h with
  | non => exact .non
  | bl b => exact .bl b
  | int i => exact .int i
  | str x => exact .str x
  | lst h => exact .lst (e _ _ h)
  | tup h => exact .tup (e _ _ h)
  | dK h => exact .dK (e _ _ h)
/-- its built-in class -/
def tyN (H : Hp) : V → String
  | .non => "NoneType"
  | .bl _ => "bool"
  | .int _ => "int"
  | .str _ => "str"
  | .ref a => match H a with
    | some (.lst _) => "list"
    | some (.tup _) => "tuple"
    | some (.dK _) => "dict"
    | _ => "?"
  | _ => "?"
def tyTab (a n : String) : Bool := a == n || (a == "bool" && n == "int")
def isTy (H : Hp) (n : String) (v : V) : Bool := tyTab (tyN H v) n
def tyNames : List String := ["int", "bool", "str", "tuple", "list", "dict"]
theorem tyTab_all : ∀ a ∈ ["NoneType", "int", "bool", "str", "tuple", "list", "dict"], ∀ n ∈ tyNames, kitB a n = some (tyTab a n) := by decide +kernel
theorem w_isi {K : PySem.W.Frag} {H : Hp} {v : V} {n : String} {Q : VK} (h : Tag K H v) (hn : n ∈ tyNames) (q : Q (.bl (isTy H n v)) H) : rIsi K [v, .ty n] H Q := by
  have key : ∀ (a : String), TyX K H v (.type a) → tyN H v = a → a ∈ ["NoneType", "int", "bool", "str", "tuple", "list", "dict"] → rIsi K [v, .ty n] H Q := fun a t e m => ⟨v, .ty n, .type a, .type n, _, rfl, .ty n, t, kit_ty (tyTab_all a m n hn), by unfold isTy at q; rw [e] at q; exact q⟩
  cases h with
  | non => exact key "NoneType" (.base .non) rfl (by decide)
  | bl b => exact key "bool" (.base (.bl b)) rfl (by decide)
  | int i => exact key "int" (.base (.int i)) rfl (by decide)
  | str x => exact key "str" (.base (.str x)) rfl (by decide)
  | lst h => exact key "list" (.base (.lst h)) (by simp only [tyN, h]) (by decide)
  | tup h => exact key "tuple" (.base (.tup h)) (by simp only [tyN, h]) (by decide)
  | dK h => exact key "dict" (.base (.dK h)) (by simp only [tyN, h]) (by decide)
/-! ### is_integer, is_from -/
def isI : V → Bool
  | .int _ => true
  | _ => false
theorem isI_ty {K : PySem.W.Frag} {H : Hp} {v : V} (h : Tag K H v) : isI v = (isTy H "int" v && !isTy H "bool" v) := by
  cases h with
  | non => simp only [isTy, tyN, isI]; decide
  | bl b => simp only [isTy, tyN, isI]; decide
  | int i => simp only [isTy, tyN, isI]; decide
  | str x => simp only [isTy, tyN, isI]; decide
  | lst h => simp only [isTy, tyN, h, isI]; decide
  | tup h => simp only [isTy, tyN, h, isI]; decide
  | dK h => simp only [isTy, tyN, h, isI]; decide
/-- an int from lo to hi, no bool -/
def inR (lo hi : Int) : V → Bool
  | .int n => decide (lo ≤ n) && decide (n ≤ hi)
  | _ => false
def sp_is_integer (Γ : Gm) : Sp := fun vs H Q _ => ∃ v, vs = [v] ∧ Tag Γ.K H v ∧ Q (.bl (isI v)) H
def sp_is_from (Γ : Gm) : Sp := fun vs H Q _ => ∃ v lo hi, vs = [v, .int lo, .int hi] ∧ Tag Γ.K H v ∧ Q (.bl (inR lo hi v)) H
/-- is_integer: value -/
def t_is_integer (Γ : Gm) : TS := (tRet (tAndV (tCB (rIsi Γ.K) (tCons (tVar 0) (tCons (tC (.ty "int")) tNil))) (tNotV (tCB (rIsi Γ.K) (tCons (tVar 0) (tCons (tC (.ty "bool")) tNil))))))
theorem rd_is_integer (Γ : Gm) (vs : List V) (H : Hp) (Q : VK) (E : XK) (h : sp_is_integer Γ vs H Q E) : t_is_integer Γ ⟨fun _ H' => Q .non H', Q, fun _ _ => False, fun _ _ => False⟩ (startN 1 vs) H := by
  obtain ⟨v, rfl, ht, q⟩ := h
  unfold t_is_integer
  walk_at "ss"
  refine w_isi ht (by decide) ?_
  rw [isI_ty ht] at q
  walk_at "ss"
  refine w_ite (fun e => ?_) (fun e => ?_)
  · walk_at "ss"
    refine w_isi ht (by decide) ?_
    walk_at "ss"
    rw [e] at q
    exact q
  · rw [e] at q
    exact q
/-- is_from: value, low, high -/
def t_is_from (Γ : Gm) : TS := (tRet (tAndV (tCal (sp_is_integer Γ) E0 (tCons (tVar 0) tNil)) (tChain rLe rLe (tVar 1) (tVar 0) (tVar 2))))
theorem rd_is_from (Γ : Gm) (vs : List V) (H : Hp) (Q : VK) (E : XK) (h : sp_is_from Γ vs H Q E) : t_is_from Γ ⟨fun _ H' => Q .non H', Q, fun _ _ => False, fun _ _ => False⟩ (startN 3 vs) H := by
  obtain ⟨v, lo, hi, rfl, ht, q⟩ := h
  unfold t_is_from
  walk_at "ss"
  refine ⟨v, rfl, ht, ?_⟩
  walk_at "ss"
  cases v with
  | int n =>
    rw [if_pos (show isI (V.int n) = true from rfl)]
    walk_at "ss"
    refine w_ite (fun e => ?_) (fun e => ?_)
    · walk_at "ss"
      have e' : decide (lo ≤ n) = true := e
      simp only [inR, e', Bool.true_and] at q
      exact q
    · have e' : decide (lo ≤ n) = false := e
      simp only [inR, e', Bool.false_and] at q
      exact q
  | _ => exact w_iteF q
/-! ### drawing -/
/-- what a source of numbers holds -/
def DS (ns : List Int) : Prop := ∃ (s c : Int) (r : List Int), ns = s :: c :: r ∧ 0 ≤ s ∧ s < 2147483647 ∧ r.length ≤ 63
abbrev dO (d : Addr) : HO := opq DS d
def sp__law_below (Γ : Gm) : Sp := fun vs H Q _ => ∃ (d : Addr) (n : Int), vs = [.ref d, .int n] ∧ H d = some (dO d) ∧ 0 < n ∧ n < 2 ^ 200 ∧ ∀ r : Int, 0 ≤ r → r < n → Q (.int r) H
/-- law_below: _law_d, _law_size, _law_result -/
def t__law_below (Γ : Gm) : TS := tOpen DS (tCut (tIfS (tAnd (tTest (tOp (rEqU Γ.K) (tOp (rIx Γ.K) (tVar 0) (tC (.int 1))) (tC (.int 0)))) (tTest (tOp rGt (tCB (rLen Γ.K) (tCons (tVar 0) tNil)) (tC (.int 2))))) (tAsg (tBM Γ.K "list" rPopAt (tVar 0) (tCons (tC (.int 2)) tNil)) (gSub (tVar 0) (tC (.int 1)) rSetL)) tNext)
  (tSeq (tIfS (tTest (tOp rGt (tOp (rIx Γ.K) (tVar 0) (tC (.int 1))) (tC (.int 0)))) (tSeq (tAsg (tOp rModI (tCB rInt1 (tCons (tOp (rIx Γ.K) (tVar 0) (tC (.int 1))) tNil)) (tVar 1)) (gName 2))
  (tSeq (tAsg (tOp rDivI (tOp (rIx Γ.K) (tVar 0) (tC (.int 1))) (tVar 1)) (gSub (tVar 0) (tC (.int 1)) rSetL))
  (tRet (tVar 2)))) tNext)
  (tSeq (tAsg (tOp rModI (tCB rInt1 (tCons (tOp (rAddU Γ.K) (tOp (rMulU Γ.K) (tOp (rIx Γ.K) (tVar 0) (tC (.int 0))) (tC (.int 48271))) (tC (.int 11))) tNil)) (tC (.int 2147483647))) (gSub (tVar 0) (tC (.int 0)) rSetL))
  (tRet (tOp rModI (tCB rInt1 (tCons (tOp rDivI (tOp (rIx Γ.K) (tVar 0) (tC (.int 0))) (tC (.int 64))) tNil)) (tVar 1))))))
theorem upd_back {H : Hp} {d : Addr} {o u : HO} (h : H d = some o) : upd (upd H d u) d o = H := by
  rw [upd_upd]
  funext b
  unfold upd
  split
  · rename_i e; rw [e, h]
  · rfl
theorem atI0 {α : Type} (a : α) (l : List α) : atI (a :: l) 0 = some a := by simp [atI, ixN]
theorem atI1 {α : Type} (a b : α) (l : List α) : atI (a :: b :: l) 1 = some b := by
  unfold atI ixN
  rw [if_pos (by decide), if_pos (by simp only [List.length_cons]; omega)]
  rfl
theorem ixN0 (n : Nat) : ixN (n + 1) 0 = some 0 := by
  unfold ixN
  rw [if_pos (by decide), if_pos (by omega)]
  rfl
theorem ixN1 (n : Nat) : ixN (n + 1 + 1) 1 = some 1 := by
  unfold ixN
  rw [if_pos (by decide), if_pos (by omega)]
  rfl
theorem log_of {n : Int} {k : Nat} (h : n.natAbs < 2 ^ k) : n.natAbs.log2 < k + 1 := by
  by_cases z : n.natAbs = 0
  · rw [z]; simp
  · have := (Nat.log2_lt z).mpr h
    omega
theorem rd__law_below (Γ : Gm) (vs : List V) (H : Hp) (Q : VK) (E : XK) (h : sp__law_below Γ vs H Q E) : t__law_below Γ ⟨fun _ H' => Q .non H', Q, fun _ _ => False, fun _ _ => False⟩ (startN 3 vs) H := by
  obtain ⟨d, n, rfl, hd, hn, hn2, k⟩ := h
  refine ⟨d, hd, ?_⟩
  rintro _ ⟨s, c, r, rfl, hs, hs2, hr⟩
  have fin : ∀ (H1 : Hp) (v : Int) (ns : List Int), (∀ o, upd H1 d o = upd H d o) → H1 d = some (.lst (ns.map V.int)) → DS ns → 0 ≤ v → v < n → (shutE DS d ⟨fun _ H' => Q .non H', Q, fun _ _ => False, fun _ _ => False⟩).rt (.int v) H1 := fun H1 v ns e1 e2 e3 h1 h2 => by
    refine ⟨ns, e3, e2, ?_⟩
    rw [e1]
    have e4 : upd H d (dO d) = H := by
      have := upd_back (u := dO d) hd
      rwa [upd_upd] at this
    rw [e4]
    exact k v h1 h2
  have two : ∀ (c : Int) (r : List Int) (H1 : Hp), r.length ≤ 63 → H1 d = some (.lst ((s :: c :: r).map V.int)) → (∀ o, upd H1 d o = upd H d o) →
      (tSeq (tIfS (tTest (tOp rGt (tOp (rIx Γ.K) (tVar 0) (tC (.int 1))) (tC (.int 0)))) (tSeq (tAsg (tOp rModI (tCB rInt1 (tCons (tOp (rIx Γ.K) (tVar 0) (tC (.int 1))) tNil)) (tVar 1)) (gName 2))
  (tSeq (tAsg (tOp rDivI (tOp (rIx Γ.K) (tVar 0) (tC (.int 1))) (tVar 1)) (gSub (tVar 0) (tC (.int 1)) rSetL))
  (tRet (tVar 2)))) tNext)
  (tSeq (tAsg (tOp rModI (tCB rInt1 (tCons (tOp (rAddU Γ.K) (tOp (rMulU Γ.K) (tOp (rIx Γ.K) (tVar 0) (tC (.int 0))) (tC (.int 48271))) (tC (.int 11))) tNil)) (tC (.int 2147483647))) (gSub (tVar 0) (tC (.int 0)) rSetL))
  (tRet (tOp rModI (tCB rInt1 (tCons (tOp rDivI (tOp (rIx Γ.K) (tVar 0) (tC (.int 0))) (tC (.int 64))) tNil)) (tVar 1))))) (shutE DS d ⟨fun _ H' => Q .non H', Q, fun _ _ => False, fun _ _ => False⟩) (startN 3 [.ref d, .int n]) H1 := fun c r H1 hr hH hB => by
    unfold shutE
    walk_at "ss"
    refine w_ixL (SqL.of hH) (atI1 _ _ _) ?_
    walk_at "ss"
    refine w_ite (fun e => ?_) (fun e => ?_)
    · walk_at "ss"
      refine w_ixL (SqL.of hH) (atI1 _ _ _) ?_
      walk_at "ss"
      refine w_ixL (SqL.of hH) (atI1 _ _ _) ?_
      walk_at "ss"
      refine w_divI ⟨hn, by have := log_of (n := n) (k := 200) (by omega); omega⟩ ?_
      walk_at "ss"
      refine w_setL hH (ixN1 _) ?_
      walk_at "ss"
      refine fin _ (c % n) (s :: (c / n) :: r) (fun o => by rw [upd_upd]; exact hB o) (by rw [upd_same]; rfl) ⟨s, c / n, r, rfl, hs, hs2, hr⟩ (Int.emod_nonneg _ (by omega)) (Int.emod_lt_of_pos _ hn)
    · walk_at "ss"
      refine w_ixL (SqL.of hH) (atI0 _ _) ?_
      walk_at "ss"
      refine w_setL hH (ixN0 _) ?_
      walk_at "ss"
      refine w_ixL (SqL.of upd_same) (atI0 _ _) ?_
      walk_at "ss"
      refine w_divI ⟨by decide, by decide +kernel⟩ ?_
      walk_at "ss"
      refine fin _ _ ((s * 48271 + 11) % 2147483647 :: c :: r) (fun o => by rw [upd_upd]; exact hB o) (by rw [upd_same]; rfl) ⟨_, c, r, rfl, Int.emod_nonneg _ (by decide), Int.emod_lt_of_pos _ (by decide), hr⟩ (Int.emod_nonneg _ (by omega)) (Int.emod_lt_of_pos _ hn)
  unfold shutE
  refine w_thru ?_
  walk_at "ss"
  refine w_ixL (SqL.of upd_same) (atI1 _ _ _) ?_
  walk_at "ss"
  refine w_ite (fun e => ?_) (fun e => ?_)
  · walk_at "ss"
    refine w_lenL (SqL.of upd_same) ?_
    walk_at "ss"
    refine w_ite (fun e2 => ?_) (fun e2 => ?_)
    · have hl : ∃ c' r', r = c' :: r' := by
        cases r with
        | nil => simp at e2
        | cons a b => exact ⟨a, b, rfl⟩
      obtain ⟨c', r', rfl⟩ := hl
      walk_at "ss"
      refine w_tyL upd_same ?_
      walk_at "ss"
      refine ⟨d, _, 2, 2, .int c', rfl, rfl, upd_same, by decide, by decide, ?_, rfl, ?_⟩
      · simp [seqIndex?]
        omega
      walk_at "ss"
      refine w_setL upd_same (ixN1 _) ?_
      refine two c' r' _ (by simp only [List.length_cons] at hr; omega) (by rw [upd_same]; rfl) (fun o => by rw [upd_upd, upd_upd, upd_upd])
    · exact two c r _ hr upd_same (fun o => by rw [upd_upd])
  · exact two c r _ hr upd_same (fun o => by rw [upd_upd])

/-! ### data made of tuples -/
mutual
inductive Tp (H : Hp) : V → PyData → Prop
  | non : Tp H .non .none
  | bl (b : Bool) : Tp H (.bl b) (.bool b)
  | int (i : Int) : Tp H (.int i) (.int i)
  | str (x : Str) : Tp H (.str x) (.str x)
  | tup {a : Addr} {xs : List V} {ds : List PyData} : H a = some (.tup xs) → TpAll H xs ds → Tp H (.ref a) (.tuple ds)
inductive TpAll (H : Hp) : List V → List PyData → Prop
  | nil : TpAll H [] []
  | cons {v : V} {vs : List V} {d : PyData} {ds : List PyData} : Tp H v d → TpAll H vs ds → TpAll H (v :: vs) (d :: ds)
end
/-- the tuples stand -/
def Tups (H H' : Hp) : Prop := ∀ a xs, H a = some (.tup xs) → H' a = some (.tup xs)
theorem _root_.L2.Same.tups {H H' : Hp} (e : Same H H') : Tups H H' := fun a xs h => e a _ h
theorem Tups.upd {H H' : Hp} {l : Addr} {o : HO} (e : Tups H H') (h : ∀ xs, H' l ≠ some (.tup xs)) : Tups H (upd H' l o) := fun a xs q => by
  have q' := e a xs q
  rw [upd_ne (fun z => h xs (by rw [← z]; exact q'))]
  exact q'
theorem Tups.trans {H H1 H2 : Hp} (a : Tups H H1) (b : Tups H1 H2) : Tups H H2 := fun x xs h => b x xs (a x xs h)
mutual
theorem Tp.mono {H H' : Hp} (e : Tups H H') : ∀ {v : V} {d : PyData}, Tp H v d → Tp H' v d
  | _, _, .non => .non
  | _, _, .bl b => .bl b
  | _, _, .int i => .int i
  | _, _, .str x => .str x
  | _, _, .tup h k => .tup (e _ _ h) (TpAll.mono e k)
theorem TpAll.mono {H H' : Hp} (e : Tups H H') : ∀ {vs : List V} {ds : List PyData}, TpAll H vs ds → TpAll H' vs ds
  | _, _, .nil => .nil
  | _, _, .cons h k => .cons (Tp.mono e h) (TpAll.mono e k)
end
mutual
theorem Tp.dp {K : PySem.W.Frag} {H : Hp} : ∀ {v : V} {d : PyData}, Tp H v d → Dp K H v d
  | _, _, .non => .non
  | _, _, .bl b => .bl b
  | _, _, .int i => .int i
  | _, _, .str x => .str x
  | _, _, .tup h k => .tup (SqT.of h) (TpAll.dp k)
theorem TpAll.dp {K : PySem.W.Frag} {H : Hp} : ∀ {vs : List V} {ds : List PyData}, TpAll H vs ds → DpAll K H vs ds
  | _, _, .nil => .nil
  | _, _, .cons h k => .cons (Tp.dp h) (TpAll.dp k)
end
theorem TpAll.length {H : Hp} : ∀ {vs : List V} {ds : List PyData}, TpAll H vs ds → vs.length = ds.length
  | _, _, .nil => rfl
  | _, _, .cons _ k => by rw [List.length_cons, List.length_cons, TpAll.length k]
theorem TpAll.get {H : Hp} : ∀ {vs : List V} {ds : List PyData} {i : Nat} {d : PyData}, TpAll H vs ds → ds[i]? = some d → ∃ v, vs[i]? = some v ∧ Tp H v d
  | _, _, _, _, .nil, e => by simp at e
  | _, _, 0, _, .cons h _, e => by simp at e; subst e; exact ⟨_, rfl, h⟩
  | _, _, i + 1, _, .cons _ k, e => by
    obtain ⟨v, h1, h2⟩ := TpAll.get (i := i) k (by simpa using e)
    exact ⟨v, by simpa using h1, h2⟩
theorem TpAll.get' {H : Hp} : ∀ {vs : List V} {ds : List PyData} {i : Nat} {v : V}, TpAll H vs ds → vs[i]? = some v → ∃ d, ds[i]? = some d ∧ Tp H v d
  | _, _, _, _, .nil, e => by simp at e
  | _, _, 0, _, .cons h _, e => by simp at e; subst e; exact ⟨_, rfl, h⟩
  | _, _, i + 1, _, .cons _ k, e => by
    obtain ⟨v, h1, h2⟩ := TpAll.get' (i := i) k (by simpa using e)
    exact ⟨v, by simpa using h1, h2⟩
theorem TpAll.ints {H : Hp} : ∀ {vs : List V} {ns : List Int}, TpAll H vs (ns.map PyData.int) → vs = ns.map V.int
  | _, [], .nil => rfl
  | _, n :: ns, .cons h k => by
    cases h
    rw [List.map_cons, TpAll.ints k]
theorem TpAll.of_ints (H : Hp) : ∀ (ns : List Int), TpAll H (ns.map V.int) (ns.map PyData.int)
  | [] => .nil
  | n :: ns => .cons (.int n) (TpAll.of_ints H ns)
theorem TpAll.append {H : Hp} : ∀ {vs ws : List V} {ds es : List PyData}, TpAll H vs ds → TpAll H ws es → TpAll H (vs ++ ws) (ds ++ es)
  | _, _, _, _, .nil, k => k
  | _, _, _, _, .cons h k, q => .cons h (TpAll.append k q)
theorem Tp.inv {H : Hp} {v : V} {ds : List PyData} (h : Tp H v (.tuple ds)) : ∃ a xs, v = .ref a ∧ H a = some (.tup xs) ∧ TpAll H xs ds := by
  cases h with
  | tup h k => exact ⟨_, _, rfl, h, k⟩
theorem Tp.tag {K : PySem.W.Frag} {H : Hp} {v : V} {d : PyData} (h : Tp H v d) : Tag K H v := by
  cases h with
  | non => exact .non
  | bl b => exact .bl b
  | int i => exact .int i
  | str x => exact .str x
  | tup h k => exact .tup h
/-! ### rules -/
inductive R where
  | tab (rows : List (List Int))
  | trm (ts : List (Int × Nat × Nat))
abbrev tri (t : Int × Nat × Nat) : List Int := [t.1, (t.2.1 : Int), (t.2.2 : Int)]
def R.body : R → PyData
  | .tab rows => .tuple (rows.map fun r => .tuple (r.map PyData.int))
  | .trm ts => .tuple (ts.map fun t => .tuple ((tri t).map PyData.int))
def R.kind : R → Str
  | .tab _ => "table"
  | .trm _ => "terms"
def R.top : R → Int
  | .tab rows => (rows.length : Int) + 1
  | .trm _ => 1000000000000000000000000000000
def R.pts (r : R) (a b : Int) : Int := match r with
  | .tab rows => (rows.getD (a - 1).toNat []).getD (b - 1).toNat 0
  | .trm ts => (ts.map fun t => t.1 * a ^ t.2.1 * b ^ t.2.2).sum
/-- the rules that are -/
def R.ok : R → Prop
  | .tab rows => 1 ≤ rows.length ∧ rows.length < 40 ∧ ∀ i r, rows[i]? = some r → r.length = rows.length - i ∧ ∀ n ∈ r, -1000000 ≤ n ∧ n ≤ 1000000
  | .trm ts => ts.length ≤ 6 ∧ ∀ t ∈ ts, -1000000 ≤ t.1 ∧ t.1 ≤ 1000000 ∧ t.2.1 ≤ 4 ∧ t.2.2 ≤ 4
def rfl2 (s : Str) (b : Addr) : List (Str × V) := putF "body" (.ref b) (putF "form" (.str s) [])
theorem fb : ¬ (("form" : Str) = "body") := by decide +kernel
theorem rfl2_form (s : Str) (b : Addr) : (rfl2 s b).lookup ("form" : Str) = some (.str s) := by
  unfold rfl2
  rw [lookup_putF, if_neg fb, lookup_putF, if_pos rfl]
theorem rfl2_body (s : Str) (b : Addr) : (rfl2 s b).lookup ("body" : Str) = some (.ref b) := by
  unfold rfl2
  rw [lookup_putF, if_pos rfl]
/-- a rule's object -/
def RuleAt (Γ : Gm) (H : Hp) (v : V) (r : R) : Prop := ∃ p dx b, v = .ref p ∧ H p = some (.ins Γ.cRule dx (rfl2 r.kind b)) ∧ Tp H (.ref b) r.body ∧ r.ok
theorem RuleAt.mono {Γ : Gm} {H H' : Hp} {v : V} {r : R} (e : Same H H') (h : RuleAt Γ H v r) : RuleAt Γ H' v r := by
  obtain ⟨p, dx, b, h1, h2, h3, h4⟩ := h
  exact ⟨p, dx, b, h1, e _ _ h2, h3.mono (Same.tups e), h4⟩
/-- what is asked of the class Rule -/
structure RuleF (Γ : Gm) : Prop where
  cl : Cls Γ.K Γ.cRule
  nF : NoAttr Γ.K Γ.cRule "form"
  nB : NoAttr Γ.K Γ.cRule "body"
theorem w_form {Γ : Gm} (F : RuleF Γ) {H : Hp} {v : V} {r : R} {Q : VK} (h : RuleAt Γ H v r) (q : Q (.str r.kind) H) : rFld Γ.K "form" v H Q := by
  obtain ⟨p, dx, b, rfl, h2, h3, h4⟩ := h
  exact ⟨p, _, dx, _, _, rfl, h2, F.cl, F.nF, rfl2_form _ _, q⟩
theorem w_body {Γ : Gm} (F : RuleF Γ) {H : Hp} {v : V} {r : R} {Q : VK} (h : RuleAt Γ H v r) (q : ∀ b xs, H b = some (.tup xs) → Tp H (.ref b) r.body → Q (.ref b) H) : rFld Γ.K "body" v H Q := by
  obtain ⟨p, dx, b, rfl, h2, h3, h4⟩ := h
  refine ⟨p, _, dx, _, _, rfl, h2, F.cl, F.nB, rfl2_body _ _, ?_⟩
  cases r <;> (cases h3 with | tup h k => exact q b _ h (.tup h k))
theorem kind_tab (r : R) : decide (r.kind = ("table" : Str)) = match r with | .tab _ => true | .trm _ => false := by
  cases r with
  | tab _ => exact decide_eq_true rfl
  | trm _ => exact decide_eq_false (show ¬ ("terms" : Str) = "table" from by decide +kernel)
/-! ### most_of, raised, points_by, check_heap -/
def sp_most_of (Γ : Gm) : Sp := fun vs H Q _ => ∃ v r, vs = [v] ∧ RuleAt Γ H v r ∧ Q (.int r.top) H
/-- most_of: rule -/
def t_most_of (Γ : Gm) : TS := (tRet (tIf (tTest (tOp (rEqU Γ.K) (tFld Γ.K (tVar 0) "form") (tC (.str "table")))) (tOp (rAddU Γ.K) (tCB (rLen Γ.K) (tCons (tFld Γ.K (tVar 0) "body") tNil)) (tC (.int 1))) (tC (.int 1000000000000000000000000000000))))
theorem rd_most_of (Γ : Gm) (F : RuleF Γ) (vs : List V) (H : Hp) (Q : VK) (E : XK) (h : sp_most_of Γ vs H Q E) : t_most_of Γ ⟨fun _ H' => Q .non H', Q, fun _ _ => False, fun _ _ => False⟩ (startN 1 vs) H := by
  obtain ⟨v, r, rfl, hr, q⟩ := h
  unfold t_most_of
  walk_at "ss"
  refine w_form F hr ?_
  walk_at "ss"
  rw [kind_tab]
  cases r with
  | tab rows =>
    refine w_iteT ?_
    walk_at "ss"
    refine w_body F hr fun b xs hb ht => ?_
    walk_at "ss"
    refine w_lenT (SqT.of hb) ?_
    walk_at "ss"
    obtain ⟨a, ys, e1, e2, e3⟩ := ht.inv
    cases e1
    rw [hb] at e2
    cases e2
    rw [e3.length, List.length_map]
    exact q
  | trm ts =>
    refine w_iteF ?_
    walk_at "ss"
    exact q
def sp_raised (Γ : Gm) : Sp := fun vs H Q _ => ∃ (b : Int) (k : Nat), vs = [.int b, .int k] ∧ k ≤ 4 ∧ b.natAbs < 2 ^ 110 ∧ Q (.int (b ^ k)) H
def rg (j : Int) : Prop := -(2 ^ 62) ≤ j ∧ j < 2 ^ 62
/-- raised: base, exponent, found, lap -/
def t_raised (Γ : Gm) : TS := (tSeq (tAsg (tC (.int 1)) (gName 2))
  (tSeq (tFor (iRng1 (tCons (tVar 1) tNil)) (gName 3) (tAsg (tOp (rMulU Γ.K) (tVar 2) (tVar 0)) (gName 2)))
  (tRet (tVar 2))))
theorem rd_raised (Γ : Gm) (vs : List V) (H : Hp) (Q : VK) (E : XK) (h : sp_raised Γ vs H Q E) : t_raised Γ ⟨fun _ H' => Q .non H', Q, fun _ _ => False, fun _ _ => False⟩ (startN 4 vs) H := by
  obtain ⟨b, k, rfl, hk, hb, q⟩ := h
  unfold t_raised
  walk_at "ss"
  refine k_rng1 (by omega) ?_
  refine k_range (fun i σ H' => ∃ x, σ = [some (.int b), some (.int k), some (.int (b ^ i)), x] ∧ H' = H) ⟨none, by rw [Int.pow_zero]; rfl, rfl⟩ ?_ ?_
  · rintro i σ H' hi ⟨x, rfl, rfl⟩
    have hi' : i < k := by simpa using hi
    walk_at "ss"
    refine w_mulI (cmul_of (pow_nat (k := i) (Nat.le_of_lt hb)) (Nat.le_of_lt hb) (by have : 110 * i ≤ 110 * 4 := Nat.mul_le_mul_left _ (by omega); omega)) ?_
    walk_at "ss"
    exact ⟨_, by rw [Int.pow_succ]; rfl, rfl⟩
  · rintro σ H' ⟨x, rfl, rfl⟩
    walk_at "ss"
    simpa using q
def sp_points_by (Γ : Gm) : Sp := fun vs H Q _ => ∃ v r a b, vs = [v, .int a, .int b] ∧ RuleAt Γ H v r ∧ 1 ≤ a ∧ 1 ≤ b ∧ a + b ≤ r.top ∧ ∀ H', Same H H' → Q (.int (r.pts a b)) H'
theorem atI_of {α : Type} {l : List α} {i : Int} {x : α} (h0 : 0 ≤ i) (h : l[i.toNat]? = some x) : atI l i = some x := by
  unfold atI ixN
  have : i.toNat < l.length := (List.getElem?_eq_some_iff.mp h).1
  rw [if_pos h0, if_pos (by omega)]
  exact h
theorem tab_at {rows : List (List Int)} {a b : Int} (ok : (R.tab rows).ok) (ha : 1 ≤ a) (hb : 1 ≤ b) (hs : a + b ≤ (R.tab rows).top) : ∃ r, rows[(a - 1).toNat]? = some r ∧ r[(b - 1).toNat]? = some ((R.tab rows).pts a b) := by
  obtain ⟨h1, h2, h3⟩ := ok
  have hs' : a + b ≤ (rows.length : Int) + 1 := hs
  have hi : (a - 1).toNat < rows.length := by omega
  have e := List.getElem?_eq_getElem hi
  refine ⟨_, e, ?_⟩
  obtain ⟨hl, _⟩ := h3 _ _ e
  have hj : (b - 1).toNat < (rows[(a - 1).toNat]).length := by omega
  show _ = some ((rows.getD (a - 1).toNat []).getD (b - 1).toNat 0)
  rw [List.getD_eq_getElem?_getD, List.getD_eq_getElem?_getD, e]
  show _ = some ((rows[(a - 1).toNat][(b - 1).toNat]?).getD 0)
  rw [List.getElem?_eq_getElem hj]
  rfl
def tval (a b : Int) (t : Int × Nat × Nat) : Int := t.1 * a ^ t.2.1 * b ^ t.2.2
theorem take_succ {α : Type} {l : List α} {i : Nat} {x : α} (h : l[i]? = some x) : l.take (i + 1) = l.take i ++ [x] := by
  rw [List.take_succ, h]
  rfl
/-- points_by: rule, first, second, number, one, other -/
def t_points_by (Γ : Gm) : TS := (tSeq (tIfS (tTest (tOp (rEqU Γ.K) (tFld Γ.K (tVar 0) "form") (tC (.str "table")))) (tRet (tOp (rIx Γ.K) (tOp (rIx Γ.K) (tFld Γ.K (tVar 0) "body") (tOp rSubI (tVar 1) (tC (.int 1)))) (tOp rSubI (tVar 2) (tC (.int 1))))) tNext)
  (tRet (tCB (rSum Γ.K) (tCons (tLc (iSeq Γ.K (tFld Γ.K (tVar 0) "body")) (gTup Γ.K 3 (gCons (gName 3) (gCons (gName 4) (gCons (gName 5) gNil)))) tYes (tOp (rMulU Γ.K) (tOp (rMulU Γ.K) (tVar 3) (tCal (sp_raised Γ) E0 (tCons (tVar 1) (tCons (tVar 4) tNil)))) (tCal (sp_raised Γ) E0 (tCons (tVar 2) (tCons (tVar 5) tNil)))) [3, 4, 5]) tNil))))
theorem rd_points_by (Γ : Gm) (F : RuleF Γ) (vs : List V) (H : Hp) (Q : VK) (E : XK) (h : sp_points_by Γ vs H Q E) : t_points_by Γ ⟨fun _ H' => Q .non H', Q, fun _ _ => False, fun _ _ => False⟩ (startN 6 vs) H := by
  obtain ⟨v, r, a, b, rfl, hr, ha, hb, hs, q⟩ := h
  unfold t_points_by
  walk_at "ss"
  refine w_form F hr ?_
  walk_at "ss"
  rw [kind_tab]
  have hok : r.ok := by obtain ⟨_, _, _, _, _, _, h⟩ := hr; exact h
  cases r with
  | tab rows =>
    refine w_iteT ?_
    walk_at "ss"
    refine w_body F hr fun bb xs hx ht => ?_
    obtain ⟨row, e1, e2⟩ := tab_at hok ha hb hs
    obtain ⟨a', ys, z1, z2, z3⟩ := ht.inv
    cases z1
    rw [hx] at z2
    cases z2
    obtain ⟨w, hw, tw⟩ := z3.get (i := (a - 1).toNat) (d := .tuple (row.map PyData.int)) (by rw [List.getElem?_map, e1]; rfl)
    obtain ⟨c, zs, rfl, hc, tc⟩ := tw.inv
    walk_at "ss"
    refine w_ixT (SqT.of hx) (atI_of (by omega) hw) ?_
    walk_at "ss"
    have ez := tc.ints
    subst ez
    refine w_ixT (SqT.of hc) (atI_of (by omega) (by rw [List.getElem?_map, e2]; rfl)) ?_
    exact q H (Same.refl H)
  | trm ts =>
    refine w_iteF ?_
    walk_at "ss"
    refine w_body F hr fun bb xs hx ht => ?_
    obtain ⟨a', ys, z1, z2, z3⟩ := ht.inv
    cases z1
    rw [hx] at z2
    cases z2
    refine k_seqT (SqT.of hx) ?_
    have hlen : xs.length = ts.length := by rw [z3.length, List.length_map]
    refine k_lcTup (fun i acc H' => acc = ((ts.take i).map (fun t => V.int (tval a b t)))) (SqT.of hx) (fun _ _ => rfl) ?_ ?_
    · rintro i x D acc H' hi hD e ha' rfl
      obtain ⟨d, hd, tx⟩ := z3.get' hi
      rw [List.getElem?_map] at hd
      obtain ⟨t, ht', rfl⟩ := Option.map_eq_some_iff.mp hd
      obtain ⟨c, zs, rfl, hc, tc⟩ := tx.inv
      have ez := tc.ints
      subst ez
      obtain ⟨n, i1, j1⟩ := t
      refine w_gTup (xs := [V.int n, V.int i1, V.int j1]) (SqT.of (e _ _ hc)) rfl ?_
      walk_at "ss"
      refine ⟨rfl, ?_⟩
      obtain ⟨hl6, hb6⟩ := hok
      have hm := hb6 _ (List.mem_of_getElem? ht')
      dsimp only at hm
      have top : a + b ≤ 1000000000000000000000000000000 := hs
      have ba : a.natAbs ≤ 2 ^ 100 := by omega
      have bb' : b.natAbs ≤ 2 ^ 100 := by omega
      walk_at "ss"
      refine ⟨a, i1, rfl, hm.2.2.1, by omega, ?_⟩
      have k1 : 100 * i1 ≤ 100 * 4 := Nat.mul_le_mul_left _ hm.2.2.1
      have k2 : 100 * j1 ≤ 100 * 4 := Nat.mul_le_mul_left _ hm.2.2.2
      have n1 : n.natAbs ≤ 2 ^ 20 := by omega
      refine w_mulI (cmul_of n1 (pow_nat ba)) ?_
      walk_at "ss"
      refine ⟨b, j1, rfl, hm.2.2.2, by omega, ?_⟩
      refine w_mulI (cmul_of (mul_nat n1 (pow_nat ba)) (pow_nat bb')) ?_
      refine lcTurn.mk hD e ha' (by rw [List.length_map, List.length_take]; omega) ?_
      rw [take_succ ht', List.map_append]
      rfl
    · rintro D acc H' hD e hacc rfl
      walk_at "ss"
      rw [hlen, List.take_length] at hacc
      refine w_sum (ns := ts.map (tval a b)) (SqL.of (by rw [List.map_map]; exact hacc)) ?_
      exact q H' e

/-! ### any values, as data -/
mutual
inductive Dv (H : Hp) : V → PyData → Prop
  | non : Dv H .non .none
  | bl (b : Bool) : Dv H (.bl b) (.bool b)
  | int (i : Int) : Dv H (.int i) (.int i)
  | str (x : Str) : Dv H (.str x) (.str x)
  | lst {a : Addr} {xs : List V} {ds : List PyData} : H a = some (.lst xs) → DvAll H xs ds → Dv H (.ref a) (.list ds)
  | tup {a : Addr} {xs : List V} {ds : List PyData} : H a = some (.tup xs) → DvAll H xs ds → Dv H (.ref a) (.tuple ds)
  | dict {a : Addr} {kvs : List (Key × V)} : H a = some (.dK kvs) → Dv H (.ref a) (.dict [])
inductive DvAll (H : Hp) : List V → List PyData → Prop
  | nil : DvAll H [] []
  | cons {v : V} {vs : List V} {d : PyData} {ds : List PyData} : Dv H v d → DvAll H vs ds → DvAll H (v :: vs) (d :: ds)
end
mutual
theorem Dv.mono {H H' : Hp} (e : Same H H') : ∀ {v : V} {d : PyData}, Dv H v d → Dv H' v d
  | _, _, .non => .non
  | _, _, .bl b => .bl b
  | _, _, .int i => .int i
  | _, _, .str x => .str x
  | _, _, .lst h k => .lst (e _ _ h) (DvAll.mono e k)
  | _, _, .tup h k => .tup (e _ _ h) (DvAll.mono e k)
  | _, _, .dict h => .dict (e _ _ h)
theorem DvAll.mono {H H' : Hp} (e : Same H H') : ∀ {vs : List V} {ds : List PyData}, DvAll H vs ds → DvAll H' vs ds
  | _, _, .nil => .nil
  | _, _, .cons h k => .cons (Dv.mono e h) (DvAll.mono e k)
end
mutual
theorem Tp.dv {H : Hp} : ∀ {v : V} {d : PyData}, Tp H v d → Dv H v d
  | _, _, .non => .non
  | _, _, .bl b => .bl b
  | _, _, .int i => .int i
  | _, _, .str x => .str x
  | _, _, .tup h k => .tup h (TpAll.dv k)
theorem TpAll.dv {H : Hp} : ∀ {vs : List V} {ds : List PyData}, TpAll H vs ds → DvAll H vs ds
  | _, _, .nil => .nil
  | _, _, .cons h k => .cons (Tp.dv h) (TpAll.dv k)
end
theorem DvAll.length {H : Hp} : ∀ {vs : List V} {ds : List PyData}, DvAll H vs ds → vs.length = ds.length
  | _, _, .nil => rfl
  | _, _, .cons _ k => by rw [List.length_cons, List.length_cons, DvAll.length k]
theorem DvAll.get {H : Hp} : ∀ {vs : List V} {ds : List PyData} {i : Nat} {d : PyData}, DvAll H vs ds → ds[i]? = some d → ∃ v, vs[i]? = some v ∧ Dv H v d
  | _, _, _, _, .nil, e => by simp at e
  | _, _, 0, _, .cons h _, e => by simp at e; subst e; exact ⟨_, rfl, h⟩
  | _, _, i + 1, _, .cons _ k, e => by
    obtain ⟨v, h1, h2⟩ := DvAll.get (i := i) k (by simpa using e)
    exact ⟨v, by simpa using h1, h2⟩
theorem DvAll.get' {H : Hp} : ∀ {vs : List V} {ds : List PyData} {i : Nat} {v : V}, DvAll H vs ds → vs[i]? = some v → ∃ d, ds[i]? = some d ∧ Dv H v d
  | _, _, _, _, .nil, e => by simp at e
  | _, _, 0, _, .cons h _, e => by simp at e; subst e; exact ⟨_, rfl, h⟩
  | _, _, i + 1, _, .cons _ k, e => by
    obtain ⟨v, h1, h2⟩ := DvAll.get' (i := i) k (by simpa using e)
    exact ⟨v, by simpa using h1, h2⟩
theorem Dv.tag {K : PySem.W.Frag} {H : Hp} {v : V} {d : PyData} (h : Dv H v d) : Tag K H v := by
  cases h with
  | non => exact .non
  | bl b => exact .bl b
  | int i => exact .int i
  | str x => exact .str x
  | lst h k => exact .lst h
  | tup h k => exact .tup h
  | dict h => exact .dK h
def tyD : PyData → String
  | .none => "NoneType"
  | .bool _ => "bool"
  | .int _ => "int"
  | .str _ => "str"
  | .list _ => "list"
  | .tuple _ => "tuple"
  | .dict _ => "dict"
theorem Dv.ty {H : Hp} {v : V} {d : PyData} (h : Dv H v d) (n : String) : isTy H n v = tyTab (tyD d) n := by
  cases h <;> simp only [isTy, tyN, tyD, *]
def inD (lo hi : Int) : PyData → Bool
  | .int n => decide (lo ≤ n) && decide (n ≤ hi)
  | _ => false
theorem Dv.inR {H : Hp} {v : V} {d : PyData} (h : Dv H v d) (lo hi : Int) : inR lo hi v = inD lo hi d := by cases h <;> rfl
theorem Dv.tupInv {H : Hp} {v : V} {ds : List PyData} (h : Dv H v (.tuple ds)) : ∃ a xs, v = .ref a ∧ H a = some (.tup xs) ∧ DvAll H xs ds := by
  cases h with
  | tup h k => exact ⟨_, _, rfl, h, k⟩
/-! ### what are rows, terms, rules -/
def rowOk (n i : Nat) : PyData → Bool
  | .tuple es => decide (es.length = n - i) && es.all (inD (-1000000) 1000000)
  | _ => false
def areRows : PyData → Bool
  | .tuple ds => decide (1 ≤ ds.length) && decide (ds.length < 40) && (List.range ds.length).all fun i => rowOk ds.length i (ds.getD i .none)
  | _ => false
def isTerm : PyData → Bool
  | .tuple [a, b, c] => inD (-1000000) 1000000 a && inD 0 4 b && inD 0 4 c
  | _ => false
def areTerms : PyData → Bool
  | .tuple ds => decide (ds.length ≤ 6) && ds.all isTerm
  | _ => false
def intD : PyData → Int
  | .int n => n
  | _ => 0
def intsD : PyData → List Int
  | .tuple es => es.map intD
  | _ => []
def rowsD : PyData → List (List Int)
  | .tuple ds => ds.map intsD
  | _ => []
def termD (d : PyData) : Int × Nat × Nat := ((intsD d).getD 0 0, ((intsD d).getD 1 0).toNat, ((intsD d).getD 2 0).toNat)
def termsD : PyData → List (Int × Nat × Nat)
  | .tuple ds => ds.map termD
  | _ => []
theorem ints_back {lo hi : Int} : ∀ {es : List PyData}, es.all (inD lo hi) = true → es = (es.map intD).map PyData.int ∧ ∀ n ∈ es.map intD, lo ≤ n ∧ n ≤ hi
  | [], _ => ⟨rfl, fun _ h => nomatch h⟩
  | e :: es, h => by
    rw [List.all_cons, Bool.and_eq_true] at h
    obtain ⟨h1, h2⟩ := h
    obtain ⟨i1, i2⟩ := ints_back h2
    cases e with
    | int n =>
      simp only [inD, Bool.and_eq_true, decide_eq_true_eq] at h1
      refine ⟨by rw [List.map_cons, List.map_cons, ← i1]; rfl, fun m hm => ?_⟩
      rw [List.map_cons, List.mem_cons] at hm
      rcases hm with rfl | hm
      · exact h1
      · exact i2 m hm
    | _ => simp [inD] at h1
theorem areRows_ok {d : PyData} (h : areRows d = true) : (R.tab (rowsD d)).body = d ∧ (R.tab (rowsD d)).ok := by
  cases d with
  | tuple ds =>
    simp only [areRows, Bool.and_eq_true, decide_eq_true_eq, List.all_eq_true, List.mem_range] at h
    obtain ⟨⟨h1, h2⟩, h3⟩ := h
    have key : ∀ (i : Nat) (d : PyData), ds[i]? = some d → d = .tuple ((intsD d).map PyData.int) ∧ (intsD d).length = ds.length - i ∧ ∀ n ∈ intsD d, -1000000 ≤ n ∧ n ≤ 1000000 := fun i d hd => by
      have hi : i < ds.length := (List.getElem?_eq_some_iff.mp hd).1
      have z := h3 i hi
      rw [List.getD_eq_getElem?_getD, hd] at z
      simp only [Option.getD_some] at z
      cases d with
      | tuple es =>
        simp only [rowOk, Bool.and_eq_true, decide_eq_true_eq] at z
        obtain ⟨e1, e2⟩ := ints_back z.2
        exact ⟨congrArg PyData.tuple e1, by simp only [intsD, List.length_map]; exact z.1, e2⟩
      | _ => simp [rowOk] at z
    refine ⟨congrArg PyData.tuple ?_, by simp only [rowsD, List.length_map]; exact h1, by simp only [rowsD, List.length_map]; exact h2, fun i r hr => ?_⟩
    · show (ds.map intsD).map (fun r => PyData.tuple (r.map PyData.int)) = ds
      rw [List.map_map]
      refine List.ext_getElem? fun i => ?_
      rw [List.getElem?_map]
      cases e : ds[i]? with
      | none => rfl
      | some d => exact congrArg some (key i d e).1.symm
    · simp only [rowsD, List.getElem?_map, List.length_map] at hr ⊢
      cases e : ds[i]? with
      | none => rw [e] at hr; cases hr
      | some d =>
        rw [e] at hr
        cases hr
        exact (key i d e).2
  | _ => simp [areRows] at h
theorem areTerms_ok {d : PyData} (h : areTerms d = true) : (R.trm (termsD d)).body = d ∧ (R.trm (termsD d)).ok := by
  cases d with
  | tuple ds =>
    simp only [areTerms, Bool.and_eq_true, decide_eq_true_eq, List.all_eq_true] at h
    obtain ⟨h1, h2⟩ := h
    have key : ∀ d ∈ ds, PyData.tuple ((tri (termD d)).map PyData.int) = d ∧ -1000000 ≤ (termD d).1 ∧ (termD d).1 ≤ 1000000 ∧ (termD d).2.1 ≤ 4 ∧ (termD d).2.2 ≤ 4 := fun d hd => by
      have z := h2 d hd
      unfold isTerm at z
      split at z
      · rename_i a b c
        simp only [Bool.and_eq_true] at z
        obtain ⟨⟨za, zb⟩, zc⟩ := z
        cases a with
        | int a =>
          cases b with
          | int b =>
            cases c with
            | int c =>
              simp only [inD, Bool.and_eq_true, decide_eq_true_eq] at za zb zc
              simp only [termD, intsD, intD, tri, List.map_cons, List.map_nil, List.getD_cons_zero, List.getD_cons_succ]
              refine ⟨?_, za.1, za.2, by omega, by omega⟩
              rw [Int.toNat_of_nonneg zb.1, Int.toNat_of_nonneg zc.1]
            | _ => simp [inD] at zc
          | _ => simp [inD] at zb
        | _ => simp [inD] at za
      · cases z
    refine ⟨congrArg PyData.tuple ?_, by simp only [termsD, List.length_map]; exact h1, fun t ht => ?_⟩
    · show (ds.map termD).map (fun t => PyData.tuple ((tri t).map PyData.int)) = ds
      rw [List.map_map]
      conv => rhs; rw [← List.map_id ds]
      exact List.map_congr_left fun d hd => (key d hd).1
    · simp only [termsD, List.mem_map] at ht
      obtain ⟨d, hd, rfl⟩ := ht
      exact (key d hd).2
  | _ => simp [areTerms] at h
def ruleOf (k d : PyData) : Option R := match k with
  | .str s => if s = "table" then (if areRows d then some (.tab (rowsD d)) else none) else if s = "terms" then (if areTerms d then some (.trm (termsD d)) else none) else none
  | _ => none
/-! ### are_rows, is_term, are_terms -/
def RetB (b : Bool) (H : Hp) (Q : VK) : Prop := ∀ H', Same H H' → Q (.bl b) H'
def sp_are_rows (Γ : Gm) : Sp := fun vs H Q _ => ∃ v d, vs = [v] ∧ Dv H v d ∧ RetB (areRows d) H Q
def sp_is_term (Γ : Gm) : Sp := fun vs H Q _ => ∃ v d, vs = [v] ∧ Dv H v d ∧ RetB (isTerm d) H Q
def sp_are_terms (Γ : Gm) : Sp := fun vs H Q _ => ∃ v d, vs = [v] ∧ Dv H v d ∧ RetB (areTerms d) H Q
theorem tupTy {d : PyData} (h : tyTab (tyD d) "tuple" = true) : ∃ ds, d = .tuple ds := by
  cases d with
  | tuple ds => exact ⟨ds, rfl⟩
  | _ => simp [tyD, tyTab] at h
theorem all_take {α : Type} {f : α → Bool} {l : List α} {i : Nat} {x : α} (h : l[i]? = some x) : (l.take (i + 1)).map f = (l.take i).map f ++ [f x] := by rw [take_succ h, List.map_append]; rfl
/-- are_rows: value, index, row, number -/
def t_are_rows (Γ : Gm) : TS := (tSeq (tIfS (tOr (tNot (tB (tCB (rIsi Γ.K) (tCons (tVar 0) (tCons (tC (.ty "tuple")) tNil))))) (tNot (tTest (tChain rLe rLt (tC (.int 1)) (tCB (rLen Γ.K) (tCons (tVar 0) tNil)) (tC (.int 40)))))) (tRet (tC (.bl false))) tNext)
  (tSeq (tFor (iEnumS Γ.K (tCons (tVar 0) tNil)) (gTup Γ.K 2 (gCons (gName 1) (gCons (gName 2) gNil))) (tSeq (tIfS (tOr (tNot (tB (tCB (rIsi Γ.K) (tCons (tVar 2) (tCons (tC (.ty "tuple")) tNil))))) (tTest (tOp (rNeU Γ.K) (tCB (rLen Γ.K) (tCons (tVar 2) tNil)) (tOp rSubI (tCB (rLen Γ.K) (tCons (tVar 0) tNil)) (tVar 1))))) (tRet (tC (.bl false))) tNext)
  (tIfS (tNot (tB (tCB (rAll Γ.K) (tCons (tLc (iSeq Γ.K (tVar 2)) (gName 3) tYes (tCal (sp_is_from Γ) E0 (tCons (tVar 3) (tCons (tOp rSubI (tC (.int 0)) (tC (.int 1000000))) (tCons (tC (.int 1000000)) tNil)))) [3]) tNil)))) (tRet (tC (.bl false))) tNext)))
  (tRet (tC (.bl true)))))
theorem rd_are_rows (Γ : Gm) (vs : List V) (H : Hp) (Q : VK) (E : XK) (h : sp_are_rows Γ vs H Q E) : t_are_rows Γ ⟨fun _ H' => Q .non H', Q, fun _ _ => False, fun _ _ => False⟩ (startN 4 vs) H := by
  obtain ⟨v, d, rfl, hd, q⟩ := h
  unfold t_are_rows
  walk_at "ss"
  refine w_isi hd.tag (by decide) ?_
  rw [hd.ty]
  walk_at "ss"
  refine w_ite (fun e => ?_) (fun e => ?_)
  · walk_at "ss"
    have : areRows d = false := by
      cases d with
      | tuple ds => exact absurd (show (!tyTab "tuple" "tuple") = true from e) (by decide)
      | _ => rfl
    rw [this] at q
    exact q H (Same.refl H)
  obtain ⟨ds, rfl⟩ := tupTy (by simpa using e)
  obtain ⟨a, xs, rfl, hx, tx⟩ := hd.tupInv
  have hl := tx.length
  walk_at "ss"
  refine w_lenT (SqT.of hx) ?_
  walk_at "ss"
  rw [hl]
  refine w_ite (fun e1 => ?_) (fun e1 => ?_)
  rotate_left
  · walk_at "ss"
    have : areRows (.tuple ds) = false := by
      simp only [decide_eq_false_iff_not] at e1
      simp only [areRows]
      rw [decide_eq_false (by omega)]
      rfl
    rw [this] at q
    exact q H (Same.refl H)
  walk_at "ss"
  simp only [decide_eq_true_eq] at e1
  refine w_ite (fun e2 => ?_) (fun e2 => ?_)
  · walk_at "ss"
    have : areRows (.tuple ds) = false := by
      simp only [Bool.not_eq_true', decide_eq_false_iff_not] at e2
      simp only [areRows]
      rw [decide_eq_true (by omega), decide_eq_false (by omega)]
      rfl
    rw [this] at q
    exact q H (Same.refl H)
  walk_at "ss"
  simp only [Bool.not_eq_false', decide_eq_true_eq] at e2
  refine k_enT (SqT.of hx) ?_
  refine k_enumT (fun i σ H' => ∃ x y z, σ = [some (.ref a), x, y, z] ∧ Same H H' ∧ ∀ j, j < i → rowOk ds.length j (ds.getD j .none) = true) ⟨none, none, none, rfl, Same.refl H, fun j hj => absurd hj (Nat.not_lt_zero _)⟩ (fun i σ H' _ ⟨_, _, _, _, e, _⟩ => SqT.of (e _ _ hx)) ?_ ?_
  · rintro i x σ H' T hi ⟨_, _, _, rfl, e, all⟩ hT
    obtain ⟨dx, hdx, tdx⟩ := tx.get' hi
    have hil : i < ds.length := (List.getElem?_eq_some_iff.mp hdx).1
    have eT := Same.new (o := .tup [.int (i : Nat), x]) hT
    refine w_gTup (xs := [.int (i : Nat), x]) (SqT.of upd_same) rfl ?_
    have tdx' := tdx.mono (e.trans eT)
    generalize upd H' T (.tup [.int (i : Nat), x]) = H1 at eT tdx' ⊢
    have e1' := e.trans eT
    have bad : rowOk ds.length i dx = false → Q (.bl false) H1 := fun z => by
      have : areRows (.tuple ds) = false := by
        simp only [areRows]
        rw [Bool.and_eq_false_iff]
        right
        rw [List.all_eq_false]
        refine ⟨i, List.mem_range.mpr hil, ?_⟩
        rw [List.getD_eq_getElem?_getD, hdx]
        simp [z]
      rw [this] at q
      exact q _ e1'
    walk_at "ss"
    refine w_isi tdx'.tag (by decide) ?_
    rw [tdx'.ty]
    walk_at "ss"
    refine w_ite (fun e => ?_) (fun e => ?_)
    · walk_at "ss"
      refine bad ?_
      cases dx with
      | tuple ds => exact absurd (show (!tyTab "tuple" "tuple") = true from e) (by decide)
      | _ => rfl
    obtain ⟨es, rfl⟩ := tupTy (by simpa using e)
    obtain ⟨c, ys, rfl, hy, ty⟩ := tdx'.tupInv
    walk_at "ss"
    refine w_lenT (SqT.of hy) ?_
    walk_at "ss"
    refine w_lenT (SqT.of (e1' _ _ hx)) ?_
    walk_at "ss"
    rw [hl, ty.length]
    refine w_ite (fun e3 => ?_) (fun e3 => ?_)
    · walk_at "ss"
      refine bad ?_
      simp only [Bool.not_eq_true', decide_eq_false_iff_not] at e3
      simp only [rowOk]
      rw [decide_eq_false (by omega)]
      rfl
    simp only [Bool.not_eq_false', decide_eq_true_eq] at e3
    walk_at "ss"
    refine k_seqT (SqT.of hy) ?_
    refine k_lcTup (fun i acc H' => acc = ((es.take i).map (inD (-1000000) 1000000)).map V.bl) (SqT.of hy) (fun _ _ => rfl) ?_ ?_
    · rintro j z D acc H2 hj hD e4 hacc rfl
      obtain ⟨dz, hdz, tdz⟩ := ty.get' hj
      walk_at "ss"
      refine ⟨rfl, ?_⟩
      walk_at "ss"
      refine ⟨z, _, _, rfl, (tdz.mono e4).tag, ?_⟩
      rw [tdz.inR]
      refine lcTurn.mk hD e4 hacc (by rw [List.length_map, List.length_map, List.length_take]; omega) ?_
      rw [all_take hdz, List.map_append]
      rfl
    · rintro D acc H2 hD e4 hacc rfl
      rw [ty.length, List.take_length] at hacc
      walk_at "ss"
      refine w_all (SqL.of hacc) ?_
      walk_at "ss"
      have ea : (es.map (inD (-1000000) 1000000)).all id = es.all (inD (-1000000) 1000000) := by rw [List.all_map]; rfl
      rw [ea]
      refine w_ite (fun e5 => ?_) (fun e5 => ?_)
      · walk_at "ss"
        have : areRows (.tuple ds) = false := by
          simp only [areRows]
          rw [Bool.and_eq_false_iff]
          right
          rw [List.all_eq_false]
          refine ⟨i, List.mem_range.mpr hil, ?_⟩
          rw [List.getD_eq_getElem?_getD, hdx]
          simp only [Option.getD_some, rowOk]
          simp only [Bool.not_eq_true'] at e5
          rw [e5, Bool.and_false]
          decide
        rw [this] at q
        exact q _ (e1'.trans e4)
      · walk_at "ss"
        refine ⟨_, _, _, rfl, e1'.trans e4, fun k hk => ?_⟩
        by_cases hki : k < i
        · exact all k hki
        · have : k = i := by omega
          subst this
          rw [List.getD_eq_getElem?_getD, hdx]
          simp only [Option.getD_some, rowOk]
          simp only [Bool.not_eq_false'] at e5
          rw [e5, decide_eq_true (by omega)]
          rfl
  · rintro σ H' ⟨_, _, _, rfl, e, all⟩
    walk_at "ss"
    have : areRows (.tuple ds) = true := by
      simp only [areRows]
      rw [decide_eq_true (by omega), decide_eq_true (by omega)]
      simp only [Bool.true_and, List.all_eq_true, List.mem_range]
      intro j hj
      exact all j (by omega)
    rw [this] at q
    exact q _ e
/-- is_term: value -/
def t_is_term (Γ : Gm) : TS := (tSeq (tIfS (tOr (tNot (tB (tCB (rIsi Γ.K) (tCons (tVar 0) (tCons (tC (.ty "tuple")) tNil))))) (tOr (tTest (tOp (rNeU Γ.K) (tCB (rLen Γ.K) (tCons (tVar 0) tNil)) (tC (.int 3)))) (tNot (tB (tCal (sp_is_from Γ) E0 (tCons (tOp (rIx Γ.K) (tVar 0) (tC (.int 0))) (tCons (tOp rSubI (tC (.int 0)) (tC (.int 1000000))) (tCons (tC (.int 1000000)) tNil)))))))) (tRet (tC (.bl false))) tNext)
  (tRet (tAndV (tCal (sp_is_from Γ) E0 (tCons (tOp (rIx Γ.K) (tVar 0) (tC (.int 1))) (tCons (tC (.int 0)) (tCons (tC (.int 4)) tNil)))) (tCal (sp_is_from Γ) E0 (tCons (tOp (rIx Γ.K) (tVar 0) (tC (.int 2))) (tCons (tC (.int 0)) (tCons (tC (.int 4)) tNil)))))))
theorem rd_is_term (Γ : Gm) (vs : List V) (H : Hp) (Q : VK) (E : XK) (h : sp_is_term Γ vs H Q E) : t_is_term Γ ⟨fun _ H' => Q .non H', Q, fun _ _ => False, fun _ _ => False⟩ (startN 1 vs) H := by
  obtain ⟨v, d, rfl, hd, q⟩ := h
  unfold t_is_term
  have bad : isTerm d = false → Q (.bl false) H := fun z => by
    rw [z] at q
    exact q H (Same.refl H)
  walk_at "ss"
  refine w_isi hd.tag (by decide) ?_
  rw [hd.ty]
  walk_at "ss"
  refine w_ite (fun e => ?_) (fun e => ?_)
  · walk_at "ss"
    refine bad ?_
    cases d with
    | tuple ds => exact absurd (show (!tyTab "tuple" "tuple") = true from e) (by decide)
    | _ => rfl
  obtain ⟨ds, rfl⟩ := tupTy (by simpa using e)
  obtain ⟨a, xs, rfl, hx, tx⟩ := hd.tupInv
  have hl := tx.length
  walk_at "ss"
  refine w_lenT (SqT.of hx) ?_
  walk_at "ss"
  rw [hl]
  refine w_ite (fun e1 => ?_) (fun e1 => ?_)
  · walk_at "ss"
    refine bad ?_
    simp only [Bool.not_eq_true', decide_eq_false_iff_not] at e1
    match ds, e1 with
    | [], _ => rfl
    | [_], _ => rfl
    | [_, _], _ => rfl
    | [_, _, _], e1 => exact absurd rfl e1
    | _ :: _ :: _ :: _ :: _, _ => rfl
  simp only [Bool.not_eq_false', decide_eq_true_eq] at e1
  match ds, e1, tx with
  | [d0, d1, d2], _, .cons (v := v0) t0 (.cons (v := v1) t1 (.cons (v := v2) t2 .nil)) =>
    walk_at "ss"
    refine w_ixT (SqT.of hx) (atI_of (by decide) rfl) ?_
    walk_at "ss"
    refine ⟨v0, _, _, rfl, t0.tag, ?_⟩
    rw [t0.inR]
    walk_at "ss"
    refine w_ite (fun e2 => ?_) (fun e2 => ?_)
    · walk_at "ss"
      refine bad ?_
      simp only [Bool.not_eq_true'] at e2
      have e2' : inD (-1000000) 1000000 d0 = false := e2
      simp only [isTerm, e2', Bool.false_and]
    walk_at "ss"
    simp only [Bool.not_eq_false'] at e2
    have e2' : inD (-1000000) 1000000 d0 = true := e2
    have q' : RetB (inD 0 4 d1 && inD 0 4 d2) H Q := by simpa only [isTerm, e2', Bool.true_and] using q
    refine w_ixT (SqT.of hx) (atI_of (by decide) rfl) ?_
    walk_at "ss"
    refine ⟨v1, _, _, rfl, t1.tag, ?_⟩
    rw [t1.inR]
    walk_at "ss"
    refine w_ite (fun e3 => ?_) (fun e3 => ?_)
    · rw [e3] at q'
      walk_at "ss"
      refine w_ixT (SqT.of hx) (atI_of (by decide) rfl) ?_
      walk_at "ss"
      refine ⟨v2, _, _, rfl, t2.tag, ?_⟩
      rw [t2.inR]
      exact q' H (Same.refl H)
    · rw [e3] at q'
      exact q' H (Same.refl H)
/-- are_terms: value, term -/
def t_are_terms (Γ : Gm) : TS := (tRet (tAndV (tCB (rIsi Γ.K) (tCons (tVar 0) (tCons (tC (.ty "tuple")) tNil))) (tAndV (tOp rLe (tCB (rLen Γ.K) (tCons (tVar 0) tNil)) (tC (.int 6))) (tCB (rAll Γ.K) (tCons (tLc (iSeq Γ.K (tVar 0)) (gName 1) tYes (tCal (sp_is_term Γ) E0 (tCons (tVar 1) tNil)) [1]) tNil)))))
theorem rd_are_terms (Γ : Gm) (vs : List V) (H : Hp) (Q : VK) (E : XK) (h : sp_are_terms Γ vs H Q E) : t_are_terms Γ ⟨fun _ H' => Q .non H', Q, fun _ _ => False, fun _ _ => False⟩ (startN 2 vs) H := by
  obtain ⟨v, d, rfl, hd, q⟩ := h
  unfold t_are_terms
  walk_at "ss"
  refine w_isi hd.tag (by decide) ?_
  rw [hd.ty]
  walk_at "ss"
  refine w_ite (fun e => ?_) (fun e => ?_)
  rotate_left
  · have : areTerms d = false := by
      cases d with
      | tuple ds => exact absurd (show tyTab "tuple" "tuple" = false from e) (by decide)
      | _ => rfl
    rw [this] at q
    exact q H (Same.refl H)
  obtain ⟨ds, rfl⟩ := tupTy e
  obtain ⟨a, xs, rfl, hx, tx⟩ := hd.tupInv
  walk_at "ss"
  refine w_lenT (SqT.of hx) ?_
  walk_at "ss"
  rw [tx.length]
  refine w_ite (fun e1 => ?_) (fun e1 => ?_)
  rotate_left
  · have : areTerms (.tuple ds) = false := by
      simp only [decide_eq_false_iff_not] at e1
      simp only [areTerms]
      rw [decide_eq_false (by omega)]
      rfl
    rw [this] at q
    exact q H (Same.refl H)
  simp only [decide_eq_true_eq] at e1
  walk_at "ss"
  refine k_seqT (SqT.of hx) ?_
  refine k_lcTup (fun i acc H' => acc = ((ds.take i).map isTerm).map V.bl) (SqT.of hx) (fun _ _ => rfl) ?_ ?_
  · rintro j z D acc H2 hj hD e4 hacc rfl
    obtain ⟨dz, hdz, tdz⟩ := tx.get' hj
    walk_at "ss"
    refine ⟨rfl, ?_⟩
    walk_at "ss"
    refine ⟨z, dz, rfl, tdz.mono e4, fun H3 e5 => ?_⟩
    refine lcTurn.mk hD (e4.trans e5) (e5 _ _ hacc) (by rw [List.length_map, List.length_map, List.length_take]; omega) ?_
    rw [all_take hdz, List.map_append]
    rfl
  · rintro D acc H2 hD e4 hacc rfl
    rw [tx.length, List.take_length] at hacc
    walk_at "ss"
    refine w_all (SqL.of hacc) ?_
    have ea : (ds.map isTerm).all id = areTerms (.tuple ds) := by
      simp only [areTerms]
      rw [List.all_map, decide_eq_true (by omega)]
      rfl
    rw [ea]
    exact q _ e4
/-! ### Rule -/
/-- behind Rule.__init__ -/
def sp_Rule_Uinit (Γ : Gm) : Sp := fun vs H Q E => ∃ p dx k dk v d, vs = [.ref p, k, v] ∧ H p = some (.ins Γ.cRule dx []) ∧ Dv H k dk ∧ Dv H v d ∧
  (ruleOf dk d = none → ∀ H', Same H H' → E (.ref Γ.cBadRule) none H') ∧
  (∀ r s b, ruleOf dk d = some r → dk = .str s → v = .ref b → r.kind = s → r.body = d → r.ok → ∀ H', (∀ b o, b ≠ p → H b = some o → H' b = some o) → H' p = some (.ins Γ.cRule dx (rfl2 s b)) → Q .non H')

theorem dv_str {H : Hp} {k : V} {s : Str} (h : Dv H k (.str s)) : k = .str s := by cases h; rfl
theorem strTy {d : PyData} (h : tyTab (tyD d) "str" = true) : ∃ s, d = .str s := by
  cases d with
  | str s => exact ⟨s, rfl⟩
  | _ => simp [tyD, tyTab] at h
theorem inV_str (s a b : Str) : inV (.str s) [.str a, .str b] = (decide (s = a) || decide (s = b)) := by
  simp only [inV, List.any_cons, List.any_nil, eqV, Bool.or_false]
  have h : ∀ x y : Str, (x == y) = decide (y = x) := fun x y => by
    by_cases e : x = y
    · subst e; simp
    · rw [decide_eq_false (fun z => e z.symm)]; simpa using e
  rw [h, h]
theorem ruleOf_kind {s : Str} {d : PyData} {r : R} (h : ruleOf (.str s) d = some r) : r.kind = s ∧ r.body = d ∧ r.ok := by
  simp only [ruleOf] at h
  split at h
  · rename_i e
    split at h
    · rename_i e2
      cases h
      obtain ⟨h1, h2⟩ := areRows_ok e2
      exact ⟨e.symm, h1, h2⟩
    · cases h
  · split at h
    · rename_i e
      split at h
      · rename_i e2
        cases h
        obtain ⟨h1, h2⟩ := areTerms_ok e2
        exact ⟨e.symm, h1, h2⟩
      · cases h
    · cases h
/-- the way out of Rule.__init__, its ends -/
structure InitK (Γ : Gm) (p dx : Addr) (dk d : PyData) (v : V) (H : Hp) (Q : VK) (E : XK) : Prop where
  bad : ruleOf dk d = none → ∀ H', Same H H' → E (.ref Γ.cBadRule) none H'
  good : ∀ r s b, ruleOf dk d = some r → dk = .str s → v = .ref b → r.kind = s → r.body = d → r.ok → ∀ H', (∀ b o, b ≠ p → H b = some o → H' b = some o) → H' p = some (.ins Γ.cRule dx (rfl2 s b)) → Q .non H'
def sp_RuleU_initU (Γ : Gm) : Sp := fun vs H Q E => ∃ p dx k dk v d, vs = [.ref p, k, v] ∧ H p = some (.ins Γ.cRule dx []) ∧ Dv H k dk ∧ Dv H v d ∧ InitK Γ p dx dk d v H Q E
/-- Rule __init__: self, kind, parts -/
def t_RuleU_initU (Γ : Gm) (E : XK) : TS := (tSeq (tIfS (tOr (tNot (tB (tCB (rIsi Γ.K) (tCons (tVar 1) (tCons (tC (.ty "str")) tNil))))) (tTest (tOp (rNotInU Γ.K) (tVar 1) (tTup (tCons (tC (.str "table")) (tCons (tC (.str "terms")) tNil)))))) (tRaise Γ.cBadRule (fun cls d _ H => E cls d H)) tNext)
  (tSeq (tIfS (tNot (tIfT (tTest (tOp (rEqU Γ.K) (tVar 1) (tC (.str "table")))) (tB (tCal (sp_are_rows Γ) E0 (tCons (tVar 2) tNil))) (tB (tCal (sp_are_terms Γ) E0 (tCons (tVar 2) tNil))))) (tRaise Γ.cBadRule (fun cls d _ H => E cls d H)) tNext)
  (tSeq (sFld Γ.K (tVar 0) (tVar 1) "form")
  (sFld Γ.K (tVar 0) (tVar 2) "body"))))
theorem rd_RuleU_initU (Γ : Gm) (F : RuleF Γ) (vs : List V) (H : Hp) (Q : VK) (E : XK) (h : sp_RuleU_initU Γ vs H Q E) : t_RuleU_initU Γ E ⟨fun _ H' => Q .non H', Q, fun _ _ => False, fun _ _ => False⟩ (startN 3 vs) H := by
  obtain ⟨p, dx, k, dk, v, d, rfl, hp, hk, hd, q⟩ := h
  unfold t_RuleU_initU
  walk_at "ss"
  refine w_isi hk.tag (by decide) ?_
  rw [hk.ty]
  walk_at "ss"
  refine w_ite (fun e => ?_) (fun e => ?_)
  · walk_at "ss"
    refine q.bad ?_ H (Same.refl H)
    cases dk with
    | str s => exact absurd (show (!tyTab "str" "str") = true from e) (by decide)
    | _ => rfl
  obtain ⟨s, rfl⟩ := strTy (by simpa using e)
  have ek := dv_str hk
  subst ek
  walk_at "ss"
  refine n_tup fun t H1 ht e1 h1 => ?_
  refine w_in2 (w_inT (SqT.of h1) rfl rfl ?_)
  walk_at "ss"
  rw [if_pos rfl, inV_str]
  refine w_ite (fun e2 => ?_) (fun e2 => ?_)
  · walk_at "ss"
    refine q.bad ?_ H1 e1
    simp only [Bool.not_eq_true', Bool.or_eq_false_iff, decide_eq_false_iff_not] at e2
    simp only [ruleOf]
    rw [if_neg e2.1, if_neg e2.2]
  have hd1 := hd.mono e1
  have hp1 := e1 _ _ hp
  -- the two stores
  have fin : ∀ r, ruleOf (.str s) d = some r → ∀ H2, Same H H2 → (tSeq (sFld Γ.K (tVar 0) (tVar 1) "form") (sFld Γ.K (tVar 0) (tVar 2) "body")) ⟨fun _ H' => Q .non H', Q, fun _ _ => False, fun _ _ => False⟩ (startN 3 [.ref p, .str s, v]) H2 := fun r hr H2 e2 => by
    obtain ⟨z1, z2, z3⟩ := ruleOf_kind hr
    walk_at "ss"
    refine k_sfld (e2 _ _ hp) F.cl F.nF (by decide) ?_
    walk_at "ss"
    refine k_sfld upd_same F.cl F.nB (show 1 < 1000 from by decide) ?_
    walk_at "ss"
    obtain ⟨b, eb⟩ : ∃ b, v = .ref b := by
      subst z2
      cases r <;> (cases hd with | tup h k => exact ⟨_, rfl⟩)
    subst eb
    refine q.good r s b hr rfl rfl z1 z2 z3 _ (fun c o hc ho => ?_) upd_same
    rw [upd_ne hc, upd_ne hc]
    exact e2 _ _ ho
  walk_at "ss"
  refine w_ite (fun e3 => ?_) (fun e3 => ?_)
  · have es : s = "table" := of_decide_eq_true e3
    walk_at "ss"
    refine ⟨v, d, rfl, hd1, fun H2 e4 => ?_⟩
    walk_at "ss"
    have er : ruleOf (.str s) d = if areRows d then some (.tab (rowsD d)) else none := by
      simp only [ruleOf]
      rw [if_pos es]
    refine w_ite (fun e5 => ?_) (fun e5 => ?_)
    · walk_at "ss"
      refine q.bad ?_ H2 (e1.trans e4)
      rw [er, if_neg (by simpa using e5)]
    · exact fin _ (by rw [er, if_pos (by simpa using e5)]) H2 (e1.trans e4)
  · have es : ¬ s = "table" := of_decide_eq_false e3
    have es2 : s = "terms" := by
      simp only [Bool.not_eq_false', Bool.or_eq_true, decide_eq_true_eq] at e2
      exact e2.resolve_left es
    walk_at "ss"
    refine ⟨v, d, rfl, hd1, fun H2 e4 => ?_⟩
    walk_at "ss"
    have er : ruleOf (.str s) d = if areTerms d then some (.trm (termsD d)) else none := by
      simp only [ruleOf]
      rw [if_neg es, if_pos es2]
    refine w_ite (fun e5 => ?_) (fun e5 => ?_)
    · walk_at "ss"
      refine q.bad ?_ H2 (e1.trans e4)
      rw [er, if_neg (by simpa using e5)]
    · exact fin _ (by rw [er, if_pos (by simpa using e5)]) H2 (e1.trans e4)
/-! ### check_heap -/
/-- is a value a heap up to a bound -/
def heapOk (r : R) (most : Int) (d : PyData) : Bool := inD 1 (if r.top < most then r.top else most) d
def sp_check_heap (Γ : Gm) : Sp := fun vs H Q E => ∃ v r x d most, vs = [v, x, .int most] ∧ RuleAt Γ H v r ∧ Dv H x d ∧ (heapOk r most d = false → E (.ref Γ.cBadHeap) none H) ∧ (heapOk r most d = true → Q .non H)
/-- check_heap: rule, heap, most -/
def t_check_heap (Γ : Gm) (E : XK) : TS := (tIfS (tNot (tB (tCal (sp_is_from Γ) E0 (tCons (tVar 1) (tCons (tC (.int 1)) (tCons (tCB rMin2 (tCons (tVar 2) (tCons (tCal (sp_most_of Γ) E0 (tCons (tVar 0) tNil)) tNil))) tNil)))))) (tRaise Γ.cBadHeap (fun cls d _ H => E cls d H)) tNext)
theorem rd_check_heap (Γ : Gm) (vs : List V) (H : Hp) (Q : VK) (E : XK) (h : sp_check_heap Γ vs H Q E) : t_check_heap Γ E ⟨fun _ H' => Q .non H', Q, fun _ _ => False, fun _ _ => False⟩ (startN 3 vs) H := by
  obtain ⟨v, r, x, d, most, rfl, hr, hd, k1, k2⟩ := h
  unfold t_check_heap
  walk_at "ss"
  refine ⟨v, r, rfl, hr, ?_⟩
  walk_at "ss"
  refine ⟨x, 1, _, rfl, hd.tag, ?_⟩
  rw [hd.inR]
  walk_at "ss"
  refine w_ite (fun e => ?_) (fun e => ?_)
  · walk_at "ss"
    exact k1 (by simpa [heapOk] using e)
  · walk_at "ss"
    exact k2 (by simpa [heapOk] using e)
/-! ### drawing -/
/-- the script -/
def sp__law_random (Γ : Gm) : Sp := fun vs H Q _ => ∃ (a : Addr) (ns : List Int) (s : Int), vs = [.ref a, .int s] ∧ SqL Γ.K H a (ns.map V.int) ∧ ns.length ≤ 63 ∧ 0 ≤ s ∧ s < 2147483647 ∧ ∀ d H', H d = none → Same H H' → H' d = some (dO d) → Q (.ref d) H'
/-- law_random: _law_script, _law_salt, _law_seed, _law_cell -/
def t__law_random (Γ : Gm) : TS := tShut DS (tSeq (tAsg (tVar 1) (gName 2))
  (tSeq (tFor (iSeq Γ.K (tVar 0)) (gName 3) (tAsg (tOp rModI (tCB rInt1 (tCons (tOp (rAddU Γ.K) (tOp (rMulU Γ.K) (tVar 2) (tC (.int 31))) (tCB rAbs (tCons (tVar 3) tNil))) tNil)) (tC (.int 2147483647))) (gName 2)))
  (tRet (tOp (rAddU Γ.K) (tLst (tCons (tVar 2) (tCons (tC (.int 0)) tNil))) (tLc (iSeq Γ.K (tVar 0)) (gName 3) (tTest (tOp rGe (tVar 3) (tOp rPowI (tC (.int 10)) (tC (.int 18))))) (tVar 3) [3])))))
theorem rd__law_random (Γ : Gm) (vs : List V) (H : Hp) (Q : VK) (E : XK) (h : sp__law_random Γ vs H Q E) : t__law_random Γ ⟨fun _ H' => Q .non H', Q, fun _ _ => False, fun _ _ => False⟩ (startN 4 vs) H := by
  obtain ⟨a, ns, s, rfl, hS, hl, hs, hs2, k⟩ := h
  unfold t__law_random
  unfold tShut
  walk_at "ss"
  refine k_seqL hS ?_
  refine k_list (xs := ns.map V.int) (fun i σ H' => ∃ s' v, σ = [some (.ref a), some (.int s), some (.int s'), v] ∧ H' = H ∧ 0 ≤ s' ∧ s' < 2147483647) ⟨s, none, rfl, rfl, hs, hs2⟩ (fun i σ H' _ ⟨_, _, _, e, _⟩ => by rw [e]; exact hS) ?_ ?_
  · rintro i x σ H' hi ⟨s', v, rfl, rfl, h1, h2⟩
    rw [List.getElem?_map] at hi
    obtain ⟨n, hn, rfl⟩ := Option.map_eq_some_iff.mp hi
    walk_at "ss"
    exact ⟨_, _, rfl, rfl, Int.emod_nonneg _ (by decide), Int.emod_lt_of_pos _ (by decide)⟩
  · rintro σ H' ⟨s', v, rfl, rfl, h1, h2⟩
    walk_at "ss"
    refine n_lst fun l1 H1 hl1 e1 h1' => ?_
    walk_at "ss"
    refine k_seqL (e1.seq hS) ?_
    refine k_lcListT (fun i acc H' => ∃ ms : List Int, acc = ms.map V.int ∧ ms.length ≤ i) (e1.seq hS) (fun _ _ => ⟨[], rfl, Nat.le_refl _⟩) ?_ ?_
    · rintro i x D acc H2 hi hD e2 hacc ⟨ms, rfl, hms⟩
      have hil : i < ns.length := by
        have := (List.getElem?_eq_some_iff.mp hi).1
        simpa using this
      rw [List.getElem?_map] at hi
      obtain ⟨n, hn, rfl⟩ := Option.map_eq_some_iff.mp hi
      walk_at "ss"
      refine ⟨rfl, ?_⟩
      walk_at "ss"
      refine w_powI ⟨by decide, by decide, by decide⟩ ?_
      walk_at "ss"
      refine w_ite (fun e => ?_) (fun e => ?_)
      · walk_at "ss"
        refine lcTurn.mk hD e2 hacc (by rw [List.length_map]; omega) ⟨ms ++ [n], by rw [List.map_append]; rfl, by rw [List.length_append]; exact Nat.succ_le_succ hms⟩
      · exact ⟨_, hD, e2, hacc, ms, rfl, Nat.le_succ_of_le hms⟩
    · rintro D acc H2 hD e2 hacc ⟨ms, rfl, hms⟩
      rw [List.length_map] at hms
      refine w_addL (e2 _ _ h1') hacc (by simp only [List.length_cons, List.length_nil, List.length_map]; exact Nat.le_trans (m := 100) (by omega) (by decide)) fun p H3 hp e3 h3 => ?_
      refine ⟨p, s' :: 0 :: ms, rfl, h3, ⟨s', 0, ms, rfl, h1, h2, by omega⟩, ?_⟩
      have e4 := (e1.trans e2).trans e3
      exact k p _ (((e1.trans e2)).free hp) (Same.mut e4 ((e1.trans e2).free hp)) upd_same
/-- one of a list's items -/
def sp__law_pick (Γ : Gm) : Sp := fun vs H Q _ => ∃ (d l : Addr) (xs : List V), vs = [.ref d, .ref l] ∧ H d = some (dO d) ∧ SqL Γ.K H l xs ∧ 0 < xs.length ∧ xs.length ≤ 100000 ∧ ∀ (i : Nat) x, xs[i]? = some x → Q x H
/-- law_pick: _law_d, _law_items -/
def t__law_pick (Γ : Gm) : TS := (tRet (tOp (rIx Γ.K) (tVar 1) (tCal (sp__law_below Γ) E0 (tCons (tVar 0) (tCons (tCB (rLen Γ.K) (tCons (tVar 1) tNil)) tNil)))))
theorem rd__law_pick (Γ : Gm) (vs : List V) (H : Hp) (Q : VK) (E : XK) (h : sp__law_pick Γ vs H Q E) : t__law_pick Γ ⟨fun _ H' => Q .non H', Q, fun _ _ => False, fun _ _ => False⟩ (startN 2 vs) H := by
  obtain ⟨d, l, xs, rfl, hd, hl, h0, hm, k⟩ := h
  unfold t__law_pick
  walk_at "ss"
  refine w_lenL hl ?_
  walk_at "ss"
  refine ⟨d, _, rfl, hd, by omega, by omega, fun r h1 h2 => ?_⟩
  have hi : r.toNat < xs.length := by omega
  refine w_ixL hl (atI_of h1 (List.getElem?_eq_getElem hi)) ?_
  exact k _ _ (List.getElem?_eq_getElem hi)

theorem w_below {Γ : Gm} {d : Addr} {n : Int} {H : Hp} {Q : VK} {E : XK} (hd : H d = some (dO d)) (h0 : 0 < n) (h1 : n < 2 ^ 200) (k : ∀ r : Int, 0 ≤ r → r < n → Q (.int r) H) : sp__law_below Γ [.ref d, .int n] H Q E := ⟨d, n, rfl, hd, h0, h1, k⟩
theorem w_pick {Γ : Gm} {d l : Addr} {xs : List V} {H : Hp} {Q : VK} {E : XK} (hd : H d = some (dO d)) (hl : SqL Γ.K H l xs) (k : ∀ (i : Nat) x, xs[i]? = some x → Q x H) (h0 : 0 < xs.length ∧ xs.length ≤ 100000 := by simp only [List.length_cons, List.length_nil]; decide) : sp__law_pick Γ [.ref d, .ref l] H Q E := ⟨d, l, xs, rfl, hd, hl, h0.1, h0.2, k⟩
theorem w_pickI {Γ : Gm} {d l : Addr} {ns : List Int} {H : Hp} {Q : VK} {E : XK} (hd : H d = some (dO d)) (hl : H l = some (.lst (ns.map V.int))) (k : ∀ m ∈ ns, Q (.int m) H) (h0 : 0 < ns.length ∧ ns.length ≤ 100000 := by simp only [List.length_cons, List.length_nil]; decide) : sp__law_pick Γ [.ref d, .ref l] H Q E :=
  ⟨d, l, _, rfl, hd, SqL.of hl, by simpa using h0.1, by simpa using h0.2, fun i x hx => by
    rw [List.getElem?_map] at hx
    obtain ⟨m, hm, rfl⟩ := Option.map_eq_some_iff.mp hx
    exact k m (List.mem_of_getElem? hm)⟩
/-! ### terms -/
def okT (t : Int × Nat × Nat) : Prop := -1000000 ≤ t.1 ∧ t.1 ≤ 1000000 ∧ t.2.1 ≤ 4 ∧ t.2.2 ≤ 4
def tt (t : Int × Nat × Nat) : PyData := .tuple ((tri t).map PyData.int)
def TL (H : Hp) (v : V) (ts : List (Int × Nat × Nat)) (n : Nat) : Prop := Tp H v (.tuple (ts.map tt)) ∧ (∀ t ∈ ts, okT t) ∧ ts.length ≤ n
theorem TL.mono {H H' : Hp} {v : V} {ts : List (Int × Nat × Nat)} {n : Nat} (e : Same H H') (h : TL H v ts n) : TL H' v ts n := ⟨h.1.mono (Same.tups e), h.2⟩
theorem TL.weak {H : Hp} {v : V} {ts : List (Int × Nat × Nat)} {n m : Nat} (h : TL H v ts n) (e : n ≤ m) : TL H v ts m := ⟨h.1, h.2.1, Nat.le_trans h.2.2 e⟩
theorem tp_t {H : Hp} {p : Addr} {n : Int} {i j : Int} (hi : 0 ≤ i) (hj : 0 ≤ j) (h : H p = some (.tup [.int n, .int i, .int j])) : Tp H (.ref p) (tt (n, i.toNat, j.toNat)) := by
  refine .tup h ?_
  show TpAll H _ [PyData.int n, PyData.int (i.toNat : Int), PyData.int (j.toNat : Int)]
  rw [Int.toNat_of_nonneg hi, Int.toNat_of_nonneg hj]
  exact .cons (.int n) (.cons (.int i) (.cons (.int j) .nil))
theorem TL.nil {H : Hp} {p : Addr} {n : Nat} (h : H p = some (.tup [])) : TL H (.ref p) [] n := ⟨.tup h .nil, (fun _ z => nomatch z), Nat.zero_le _⟩
theorem TL.mk {H : Hp} {p : Addr} {vs : List V} {ts : List (Int × Nat × Nat)} {n : Nat} (h : H p = some (.tup vs)) (k : TpAll H vs (ts.map tt)) (ok : ∀ t ∈ ts, okT t) (hl : ts.length ≤ n) : TL H (.ref p) ts n := ⟨.tup h k, ok, hl⟩
theorem w_addT {K : PySem.W.Frag} {H : Hp} {Q : VK} {v w : V} {ds es : List PyData} (hv : Tp H v (.tuple ds)) (hw : Tp H w (.tuple es)) (hz : ds.length + es.length ≤ 100000) (h : ∀ u H', Same H H' → Tp H' u (.tuple (ds ++ es)) → Q u H') : rAddU K v w H Q := by
  obtain ⟨a, xs, rfl, ha, ta⟩ := hv.inv
  obtain ⟨b, ys, rfl, hb, tb⟩ := hw.inv
  refine .inr (.inr (.inl ⟨a, b, xs, ys, rfl, rfl, SqT.of ha, SqT.of hb, ?_, ?_⟩))
  · rw [ta.length, tb.length]
    exact Nat.le_trans hz (by decide)
  · cases xs with
    | nil =>
      have ed : ds = [] := by cases ta; rfl
      subst ed
      refine ⟨fun _ => h _ H (Same.refl H) hw, fun z => absurd rfl z, fun z => absurd rfl z⟩
    | cons x xs =>
      refine ⟨(fun z => nomatch z), fun _ z => ?_, fun _ z p hp => ?_⟩
      · have ee : es = [] := by subst z; cases tb; rfl
        subst ee
        rw [List.append_nil] at h
        exact h _ H (Same.refl H) hv
      · have e := Same.new (o := .tup (x :: xs ++ ys)) hp
        exact h _ _ e (.tup upd_same ((ta.mono (Same.tups e)).append (tb.mono (Same.tups e))))
def sp__law_terms (Γ : Gm) : Sp := fun vs H Q _ => ∃ (d : Addr), vs = [.ref d] ∧ H d = some (dO d) ∧ ∀ v ts H', Same H H' → Tp H' v (R.trm ts).body → (R.trm ts).ok → Q v H'
theorem w_sl6 {K : PySem.W.Frag} {H : Hp} {Q : VK} {v : V} {ds : List PyData} (hv : Tp H v (.tuple ds)) (h : ∀ u H', Same H H' → Tp H' u (.tuple (ds.take 6)) → Q u H') : rSlU K v none (some 6) H Q := by
  obtain ⟨a, xs, rfl, ha, ta⟩ := hv.inv
  refine .inr (.inl ⟨a, xs, rfl, SqT.of ha, ?_, ?_⟩)
  · rintro ⟨_, z⟩
    have hl : xs.length ≤ 6 := by
      unfold HT.sIx at z
      simp only at z
      rw [if_neg (by decide)] at z
      have : (6 : Int).toNat = 6 := rfl
      omega
    rw [ta.length] at hl
    have := h (.ref a) H (Same.refl H)
    rw [List.take_of_length_le hl] at this
    exact this hv
  · intro z p hp
    have e := Same.new (o := .tup (cutV xs none (some 6))) hp
    have ec : cutV xs none (some 6) = xs.take 6 := by
      unfold cutV HT.sIx
      simp
    rw [ec] at e ⊢
    refine h _ _ e (.tup upd_same ?_)
    have tk : ∀ (n : Nat) {vs : List V} {ds : List PyData}, TpAll H vs ds → TpAll H (vs.take n) (ds.take n) := by
      intro n
      induction n with
      | zero => intro vs ds _; exact .nil
      | succ n ih =>
        intro vs ds t
        cases t with
        | nil => exact .nil
        | cons h k => exact .cons h (ih k)
    exact (tk 6 ta).mono (Same.tups e)
theorem app_tt {ts us : List (Int × Nat × Nat)} : (ts ++ us).map tt = ts.map tt ++ us.map tt := List.map_append
/-- law_terms: _law_d, _law_number, _law_kind, _law_found -/
def t__law_terms (Γ : Gm) : TS := (tSeq (tPar 1 2 (tCons (tCal (sp__law_pick Γ) E0 (tCons (tVar 0) (tCons (tLst (tCons (tC (.int 1)) (tCons (tUn (rU fun i => .int (-i)) (tC (.int 1))) (tCons (tC (.int 2)) (tCons (tC (.int 7)) (tCons (tC (.int 999)) tNil)))))) tNil))) (tCons (tCal (sp__law_below Γ) E0 (tCons (tVar 0) (tCons (tC (.int 7)) tNil))) tNil)))
  (tSeq (tAsg (tOp (rIx Γ.K) (tLst (tCons (tTup tNil) (tCons (tTup (tCons (tTup (tCons (tVar 1) (tCons (tC (.int 0)) (tCons (tC (.int 0)) tNil)))) tNil)) (tCons (tTup (tCons (tTup (tCons (tVar 1) (tCons (tC (.int 1)) (tCons (tC (.int 1)) tNil)))) tNil)) (tCons (tTup (tCons (tTup (tCons (tOp (rMulU Γ.K) (tC (.int 3)) (tVar 1)) (tCons (tC (.int 2)) (tCons (tC (.int 1)) tNil)))) (tCons (tTup (tCons (tOp (rMulU Γ.K) (tC (.int 3)) (tVar 1)) (tCons (tC (.int 1)) (tCons (tC (.int 2)) tNil)))) tNil))) tNil))))) (tCB rMin2 (tCons (tVar 2) (tCons (tC (.int 3)) tNil)))) (gName 3))
  (tCut (tIfS (tTest (tOp (rEqU Γ.K) (tVar 2) (tC (.int 4)))) (tAsg (tTup (tCons (tTup (tCons (tOp (rMulU Γ.K) (tC (.int 4)) (tVar 1)) (tCons (tC (.int 3)) (tCons (tC (.int 1)) tNil)))) (tCons (tTup (tCons (tOp (rMulU Γ.K) (tC (.int 6)) (tVar 1)) (tCons (tC (.int 2)) (tCons (tC (.int 2)) tNil)))) (tCons (tTup (tCons (tOp (rMulU Γ.K) (tC (.int 4)) (tVar 1)) (tCons (tC (.int 1)) (tCons (tC (.int 3)) tNil)))) tNil)))) (gName 3)) tNext)
  (tCut (tIfS (tTest (tOp (rEqU Γ.K) (tVar 2) (tC (.int 5)))) (tAsg (tTup (tCons (tTup (tCons (tOp (rMulU Γ.K) (tC (.int 5)) (tVar 1)) (tCons (tC (.int 4)) (tCons (tC (.int 1)) tNil)))) (tCons (tTup (tCons (tOp (rMulU Γ.K) (tC (.int 10)) (tVar 1)) (tCons (tC (.int 3)) (tCons (tC (.int 2)) tNil)))) (tCons (tTup (tCons (tOp (rMulU Γ.K) (tC (.int 10)) (tVar 1)) (tCons (tC (.int 2)) (tCons (tC (.int 3)) tNil)))) (tCons (tTup (tCons (tOp (rMulU Γ.K) (tC (.int 5)) (tVar 1)) (tCons (tC (.int 1)) (tCons (tC (.int 4)) tNil)))) tNil))))) (gName 3)) tNext)
  (tCut (tIfS (tOr (tTest (tOp (rEqU Γ.K) (tCal (sp__law_below Γ) E0 (tCons (tVar 0) (tCons (tC (.int 3)) tNil))) (tC (.int 0)))) (tTest (tOp (rEqU Γ.K) (tVar 2) (tC (.int 6))))) (tAsg (tOp (rAddU Γ.K) (tVar 3) (tTup (tCons (tTup (tCons (tOp rSubI (tCal (sp__law_below Γ) E0 (tCons (tVar 0) (tCons (tC (.int 5)) tNil))) (tC (.int 2))) (tCons (tCal (sp__law_below Γ) E0 (tCons (tVar 0) (tCons (tC (.int 5)) tNil))) (tCons (tCal (sp__law_below Γ) E0 (tCons (tVar 0) (tCons (tC (.int 5)) tNil))) tNil)))) tNil))) (gName 3)) tNext)
  (tCut (tIfS (tTest (tOp (rEqU Γ.K) (tCal (sp__law_below Γ) E0 (tCons (tVar 0) (tCons (tC (.int 6)) tNil))) (tC (.int 0)))) (tAsg (tOp (rAddU Γ.K) (tCal (sp__law_pick Γ) E0 (tCons (tVar 0) (tCons (tLst (tCons (tVar 3) (tCons (tTup tNil) tNil))) tNil))) (tTup (tCons (tTup (tCons (tOp (rMulU Γ.K) (tC (.int 15)) (tVar 1)) (tCons (tC (.int 2)) (tCons (tC (.int 2)) tNil)))) (tCons (tTup (tCons (tOp (rMulU Γ.K) (tUn (rU fun i => .int (-i)) (tC (.int 2))) (tVar 1)) (tCons (tC (.int 3)) (tCons (tC (.int 3)) tNil)))) tNil)))) (gName 3)) tNext)
  (tRet (tSl (rSlU Γ.K) (tVar 3) tNoPart (tPart (tC (.int 6)))))))))))
theorem rd__law_terms (Γ : Gm) (vs : List V) (H : Hp) (Q : VK) (E : XK) (h : sp__law_terms Γ vs H Q E) : t__law_terms Γ ⟨fun _ H' => Q .non H', Q, fun _ _ => False, fun _ _ => False⟩ (startN 4 vs) H := by
  obtain ⟨d, rfl, hd, q⟩ := h
  unfold t__law_terms
  walk_at "ss"
  refine n_lst fun l1 H1 _ e1 h1 => ?_
  walk_at "ss"
  have hd1 := e1 _ _ hd
  refine w_pickI (ns := [1, -1, 2, 7, 999]) hd1 h1 fun num hnum => ?_
  have hb : -999 ≤ num ∧ num ≤ 999 := by
    simp only [List.mem_cons, List.not_mem_nil, or_false] at hnum
    rcases hnum with rfl | rfl | rfl | rfl | rfl <;> decide
  clear hnum
  walk_at "ss"
  refine w_below hd1 (by decide) (by decide) fun kind hk1 hk2 => ?_
  walk_at "ss"
  refine n_tup fun p0 H2 _ e2 g0 => ?_
  walk_at "ss"
  refine n_tup fun p1 H3 _ e3 g1 => ?_
  walk_at "ss"
  refine n_tup fun p2 H4 _ e4 g2 => ?_
  walk_at "ss"
  refine n_tup fun p3 H5 _ e5 g3 => ?_
  walk_at "ss"
  refine n_tup fun p4 H6 _ e6 g4 => ?_
  walk_at "ss"
  refine n_tup fun p5 H7 _ e7 g5 => ?_
  walk_at "ss"
  refine n_tup fun p6 H8 _ e8 g6 => ?_
  walk_at "ss"
  refine n_tup fun p7 H9 _ e9 g7 => ?_
  walk_at "ss"
  refine n_lst fun l2 HA _ eA gL => ?_
  walk_at "ss"
  have hmin : ∃ j : Nat, j < 4 ∧ (if (3 : Int) < kind then (3 : Int) else kind) = (j : Int) := by
    by_cases c : (3 : Int) < kind
    · exact ⟨3, by decide, by rw [if_pos c]; rfl⟩
    · exact ⟨kind.toNat, by omega, by rw [if_neg c]; omega⟩
  obtain ⟨j, hj, ej⟩ := hmin
  rw [ej]
  have E9 := e8.trans e9
  have tl : ∀ v, [V.ref p0, .ref p2, .ref p4, .ref p7][j]? = some v → ∃ ts, TL HA v ts 4 := fun v hv => by
    match j, hj with
    | 0, _ =>
      cases hv
      exact ⟨[], (TL.nil g0).mono (e3.trans (e4.trans (e5.trans (e6.trans (e7.trans (e8.trans (e9.trans eA))))))) ⟩
    | 1, _ =>
      cases hv
      exact ⟨[(num, 0, 0)], (TL.mk (ts := [(num, 0, 0)]) g2 (.cons (tp_t (i := 0) (j := 0) (by decide) (by decide) (e4 _ _ g1)) .nil) (by intro t ht; cases ht with | head => (unfold okT; dsimp only; omega) | tail _ z => cases z) (by simp)).mono (e5.trans (e6.trans (e7.trans (e8.trans (e9.trans eA)))))⟩
    | 2, _ =>
      cases hv
      exact ⟨[(num, 1, 1)], (TL.mk (ts := [(num, 1, 1)]) g4 (.cons (tp_t (i := 1) (j := 1) (by decide) (by decide) (e6 _ _ g3)) .nil) (by intro t ht; cases ht with | head => (unfold okT; dsimp only; omega) | tail _ z => cases z) (by simp)).mono (e7.trans (e8.trans (e9.trans eA)))⟩
    | 3, _ =>
      cases hv
      exact ⟨[(3 * num, 2, 1), (3 * num, 1, 2)], (TL.mk (ts := [(3 * num, 2, 1), (3 * num, 1, 2)]) g7 (.cons (tp_t (i := 2) (j := 1) (by decide) (by decide) (E9 _ _ g5)) (.cons (tp_t (i := 1) (j := 2) (by decide) (by decide) (e9 _ _ g6)) .nil)) (by intro t ht; simp only [List.mem_cons, List.not_mem_nil, or_false] at ht; rcases ht with rfl | rfl <;> (unfold okT; dsimp only; omega)) (by simp)).mono eA⟩
  have hlt : j < [V.ref p0, .ref p2, .ref p4, .ref p7].length := hj
  obtain ⟨v0, hv0⟩ : ∃ v, [V.ref p0, .ref p2, .ref p4, .ref p7][j]? = some v := ⟨_, List.getElem?_eq_getElem hlt⟩
  obtain ⟨ts0, T0⟩ := tl v0 hv0
  refine w_ixL (SqL.of gL) (atI_of (i := (j : Int)) (by omega) (by simpa using hv0)) ?_
  have SA : Same H HA := e1.trans (e2.trans (e3.trans (e4.trans (e5.trans (e6.trans (e7.trans (e8.trans (e9.trans eA))))))))
  clear hv0 hlt tl ej hj gL eA E9 e9 g7 e8 g6 e7 g5 e6 g4 e5 g3 e4 g2 e3 g1 e2 g0 hd1 h1 e1
  walk_at "ss"
  -- if kind == 4
  refine w_cut (fun σ' H' => ∃ v ts, σ' = [some (.ref d), some (.int num), some (.int kind), some v] ∧ Same H H' ∧ TL H' v ts 4) ?_ ?_
  · walk_at "ss"
    refine w_ite (fun c => ?_) (fun c => ?_)
    · walk_at "ss"
      refine n_tup fun p1 H1 _ e1 g1 => ?_
      walk_at "ss"
      refine n_tup fun p2 H2 _ e2 g2 => ?_
      walk_at "ss"
      refine n_tup fun p3 H3 _ e3 g3 => ?_
      walk_at "ss"
      refine n_tup fun p4 H4 _ e4 g4 => ?_
      walk_at "ss"
      exact ⟨_, [(4 * num, 3, 1), (6 * num, 2, 2), (4 * num, 1, 3)], rfl, SA.trans (e1.trans (e2.trans (e3.trans e4))), TL.mk g4 (.cons (tp_t (i := 3) (j := 1) (by decide) (by decide) ((e2.trans (e3.trans e4)) _ _ g1)) (.cons (tp_t (i := 2) (j := 2) (by decide) (by decide) ((e3.trans e4) _ _ g2)) (.cons (tp_t (i := 1) (j := 3) (by decide) (by decide) (e4 _ _ g3)) .nil)))
        (by intro t ht; simp only [List.mem_cons, List.not_mem_nil, or_false] at ht; rcases ht with rfl | rfl | rfl <;> (unfold okT; dsimp only; omega)) (by simp)⟩
    · walk_at "ss"
      exact ⟨_, _, rfl, SA, T0⟩
  clear T0 SA
  rintro σ H1 ⟨v1, ts1, rfl, S1, T1⟩
  -- if kind == 5
  refine w_cut (fun σ' H' => ∃ v ts, σ' = [some (.ref d), some (.int num), some (.int kind), some v] ∧ Same H H' ∧ TL H' v ts 4) ?_ ?_
  · walk_at "ss"
    refine w_ite (fun c => ?_) (fun c => ?_)
    · walk_at "ss"
      refine n_tup fun p1 H1 _ e1 g1 => ?_
      walk_at "ss"
      refine n_tup fun p2 H2 _ e2 g2 => ?_
      walk_at "ss"
      refine n_tup fun p3 H3 _ e3 g3 => ?_
      walk_at "ss"
      refine n_tup fun p4 H4 _ e4 g4 => ?_
      walk_at "ss"
      refine n_tup fun p5 H5 _ e5 g5 => ?_
      walk_at "ss"
      exact ⟨_, [(5 * num, 4, 1), (10 * num, 3, 2), (10 * num, 2, 3), (5 * num, 1, 4)], rfl, S1.trans (e1.trans (e2.trans (e3.trans (e4.trans e5)))), TL.mk g5 (.cons (tp_t (i := 4) (j := 1) (by decide) (by decide) ((e2.trans (e3.trans (e4.trans e5))) _ _ g1)) (.cons (tp_t (i := 3) (j := 2) (by decide) (by decide) ((e3.trans (e4.trans e5)) _ _ g2)) (.cons (tp_t (i := 2) (j := 3) (by decide) (by decide) ((e4.trans e5) _ _ g3)) (.cons (tp_t (i := 1) (j := 4) (by decide) (by decide) (e5 _ _ g4)) .nil))))
        (by intro t ht; simp only [List.mem_cons, List.not_mem_nil, or_false] at ht; rcases ht with rfl | rfl | rfl | rfl <;> (unfold okT; dsimp only; omega)) (by simp)⟩
    · walk_at "ss"
      exact ⟨_, _, rfl, S1, T1⟩
  clear T1 S1
  rintro σ H1 ⟨v1, ts1, rfl, S1, T1⟩
  -- one more term
  refine w_cut (fun σ' H' => ∃ v ts, σ' = [some (.ref d), some (.int num), some (.int kind), some v] ∧ Same H H' ∧ TL H' v ts 5) ?_ ?_
  · walk_at "ss"
    refine w_below (S1 _ _ hd) (by decide) (by decide) fun r1 hr1 hr2 => ?_
    have more : tAsg (tOp (rAddU Γ.K) (tVar 3) (tTup (tCons (tTup (tCons (tOp rSubI (tCal (sp__law_below Γ) E0 (tCons (tVar 0) (tCons (tC (.int 5)) tNil))) (tC (.int 2))) (tCons (tCal (sp__law_below Γ) E0 (tCons (tVar 0) (tCons (tC (.int 5)) tNil))) (tCons (tCal (sp__law_below Γ) E0 (tCons (tVar 0) (tCons (tC (.int 5)) tNil))) tNil)))) tNil))) (gName 3)
        ⟨fun σ' H' => ∃ v ts, σ' = [some (.ref d), some (.int num), some (.int kind), some v] ∧ Same H H' ∧ TL H' v ts 5, Q, fun _ _ => False, fun _ _ => False⟩ [some (.ref d), some (.int num), some (.int kind), some v1] H1 := by
      walk_at "ss"
      refine w_below (S1 _ _ hd) (by decide) (by decide) fun a ha1 ha2 => ?_
      walk_at "ss"
      refine w_below (S1 _ _ hd) (by decide) (by decide) fun b hb1 hb2 => ?_
      walk_at "ss"
      refine w_below (S1 _ _ hd) (by decide) (by decide) fun c hc1 hc2 => ?_
      walk_at "ss"
      refine n_tup fun p1 H2 _ e1 g1 => ?_
      walk_at "ss"
      refine n_tup fun p2 H3 _ e2 g2 => ?_
      have T2 := T1.mono (e1.trans e2)
      have hone : ([(a - 2, b.toNat, c.toNat)] : List (Int × Nat × Nat)).map tt = [tt (a - 2, b.toNat, c.toNat)] := rfl
      refine w_addT (es := [tt (a - 2, b.toNat, c.toNat)]) T2.1 (.tup g2 (.cons (tp_t hb1 hc1 (e2 _ _ g1)) .nil)) (by rw [List.length_map]; have := T1.2.2; simp only [List.length_cons, List.length_nil]; omega) fun u H4 e4 t4 => ?_
      walk_at "ss"
      refine ⟨u, ts1 ++ [(a - 2, b.toNat, c.toNat)], rfl, S1.trans (e1.trans (e2.trans e4)), ?_, ?_, ?_⟩
      · rw [app_tt]; exact t4
      · intro t ht
        rcases List.mem_append.mp ht with ht | ht
        · exact T1.2.1 t ht
        · simp only [List.mem_cons, List.not_mem_nil, or_false] at ht
          subst ht
          unfold okT; dsimp only; omega
      · rw [List.length_append]
        have := T1.2.2
        simp only [List.length_cons, List.length_nil]; omega
    walk_at "ss"
    refine w_ite (fun c => ?_) (fun c => ?_)
    · exact w_iteT more
    · walk_at "ss"
      refine w_ite (fun c2 => more) (fun c2 => ?_)
      walk_at "ss"
      exact ⟨_, _, rfl, S1, T1.weak (by decide)⟩
  clear T1 S1
  rintro σ H1 ⟨v1, ts1, rfl, S1, T1⟩
  refine w_cut (fun σ' H' => ∃ v ts, σ' = [some (.ref d), some (.int num), some (.int kind), some v] ∧ Same H H' ∧ TL H' v ts 7) ?_ ?_
  · walk_at "ss"
    refine w_below (S1 _ _ hd) (by decide) (by decide) fun r1 hr1 hr2 => ?_
    walk_at "ss"
    refine w_ite (fun c => ?_) (fun c => ?_)
    · walk_at "ss"
      refine n_tup fun p1 H2 _ e1 g1 => ?_
      walk_at "ss"
      refine n_lst fun p2 H3 _ e2 g2 => ?_
      walk_at "ss"
      have S3 := S1.trans (e1.trans e2)
      refine w_pick (S3 _ _ hd) (SqL.of g2) fun i x hx => ?_
      have Tx : ∃ ts, TL H3 x ts 5 := by
        match i with
        | 0 => cases hx; exact ⟨_, T1.mono (e1.trans e2)⟩
        | 1 => cases hx; exact ⟨[], TL.nil (e2 _ _ g1)⟩
        | n + 2 => simp at hx
      obtain ⟨tsx, Tx⟩ := Tx
      walk_at "ss"
      refine n_tup fun p3 H4 _ e3 g3 => ?_
      walk_at "ss"
      refine n_tup fun p4 H5 _ e4 g4 => ?_
      walk_at "ss"
      refine n_tup fun p5 H6 _ e5 g5 => ?_
      have T6 := Tx.mono (e3.trans (e4.trans e5))
      refine w_addT (es := [tt (15 * num, 2, 2), tt (-2 * num, 3, 3)]) T6.1 (.tup g5 (.cons (tp_t (i := 2) (j := 2) (by decide) (by decide) ((e4.trans e5) _ _ g3)) (.cons (tp_t (i := 3) (j := 3) (by decide) (by decide) (e5 _ _ g4)) .nil))) (by rw [List.length_map]; have := T6.2.2; simp only [List.length_cons, List.length_nil]; omega) fun u H7 e6 t7 => ?_
      walk_at "ss"
      refine ⟨u, tsx ++ [(15 * num, 2, 2), (-2 * num, 3, 3)], rfl, S3.trans (e3.trans (e4.trans (e5.trans e6))), ?_, ?_, ?_⟩
      · rw [app_tt]; exact t7
      · intro t ht
        rcases List.mem_append.mp ht with ht | ht
        · exact Tx.2.1 t ht
        · simp only [List.mem_cons, List.not_mem_nil, or_false] at ht
          rcases ht with rfl | rfl <;> (unfold okT; dsimp only; omega)
      · rw [List.length_append]
        have := Tx.2.2
        simp only [List.length_cons, List.length_nil]; omega
    · walk_at "ss"
      exact ⟨_, _, rfl, S1, T1.weak (by decide)⟩
  clear T1 S1
  rintro σ H1 ⟨v1, ts1, rfl, S1, T1⟩
  walk_at "ss"
  refine w_sl6 T1.1 fun u H2 e2 t2 => ?_
  walk_at "ss"
  refine q u (ts1.take 6) H2 (S1.trans e2) ?_ ⟨by rw [List.length_take]; omega, fun t ht => T1.2.1 t (List.mem_of_mem_take ht)⟩
  show Tp H2 u (.tuple ((ts1.take 6).map tt))
  rw [List.map_take]
  exact t2

/-! ### tables that are drawn -/
def small (x : Int) : Prop := -100 ≤ x ∧ x ≤ 100
def RowAt (H : Hp) (a : Addr) (n : Nat) (row : List Int) : Prop := H a = some (.lst (row.map V.int)) ∧ row.length = n ∧ ∀ x ∈ row, small x
theorem rows_of {P : Nat → Addr → List Int → Prop} : ∀ {refs : List Addr}, (∀ j a, refs[j]? = some a → ∃ row, P j a row) → ∃ rows : List (List Int), rows.length = refs.length ∧ ∀ (j : Nat) row, rows[j]? = some row → ∃ a, refs[j]? = some a ∧ P j a row
  | [], _ => ⟨[], rfl, fun j row h => by simp at h⟩
  | a :: refs, h => by
    obtain ⟨row, hr⟩ := h 0 a rfl
    obtain ⟨rows, h1, h2⟩ := rows_of (P := fun j => P (j + 1)) (refs := refs) fun j b hb => h (j + 1) b hb
    refine ⟨row :: rows, by rw [List.length_cons, List.length_cons, h1], fun j w hw => ?_⟩
    cases j with
    | zero => cases hw; exact ⟨a, rfl, hr⟩
    | succ j => exact h2 j w hw
def sp__law_table (Γ : Gm) : Sp := fun vs H Q _ => ∃ (d : Addr) (m : Int), vs = [.ref d, .int m] ∧ H d = some (dO d) ∧ 2 ≤ m ∧ m ≤ 40 ∧
  ∀ v rows H', Same H H' → Tp H' v (R.tab rows).body → (R.tab rows).ok → (rows.length : Int) ≤ m - 1 → (∀ r ∈ rows, ∀ x ∈ r, small x) → Q v H'
/-- between two rows -/
structure TI' (H H' : Hp) (M : Nat) (Ld Lr : Addr) (dues : List Int) (refs : List Addr) : Prop where
  same : Same H H'
  hd : H' Ld = some (.lst (dues.map V.int))
  hr : H' Lr = some (.lst (refs.map V.ref))
  ne : Ld ≠ Lr
  nr : ∀ a ∈ refs, a ≠ Lr
  nd : ∀ a ∈ refs, a ≠ Ld
  nh : ∀ a ∈ refs, H a = none
  row : ∀ j a, refs[j]? = some a → ∃ row, RowAt H' a (M - 1 - j) row
/-- law_table: _law_d, _law_most, _law_kind, _law_due, _law_rows, _law_one, _law_row, _law_other, _law_k -/
def t__law_table (Γ : Gm) : TS := (tSeq (tPar 1 2 (tCons (tOp (rAddU Γ.K) (tC (.int 2)) (tCal (sp__law_below Γ) E0 (tCons (tVar 0) (tCons (tOp rSubI (tVar 1) (tC (.int 1))) tNil)))) (tCons (tCal (sp__law_below Γ) E0 (tCons (tVar 0) (tCons (tC (.int 4)) tNil))) tNil)))
  (tSeq (tAsg (tOp (rAddU Γ.K) (tLst (tCons (tC (.int 0)) (tCons (tC (.int 0)) tNil))) (tLc (iRng1 (tCons (tOp rSubI (tVar 1) (tC (.int 1))) tNil)) (gName 8) tYes (tOp rSubI (tCal (sp__law_below Γ) E0 (tCons (tVar 0) (tCons (tC (.int 40)) tNil))) (tC (.int 9))) [8])) (gName 3))
  (tSeq (tAsg (tLst tNil) (gName 4))
  (tSeq (tFor (iRng2 (tCons (tC (.int 1)) (tCons (tVar 1) tNil))) (gName 5) (tSeq (tAsg (tLst tNil) (gName 6))
  (tSeq (tFor (iRng2 (tCons (tC (.int 1)) (tCons (tOp (rAddU Γ.K) (tOp rSubI (tVar 1) (tVar 5)) (tC (.int 1))) tNil))) (gName 7) (tDrop (tBM Γ.K "list" rAppend (tVar 6) (tCons (tIf (tTest (tOp (rEqU Γ.K) (tVar 2) (tC (.int 0)))) (tCal (sp__law_below Γ) E0 (tCons (tVar 0) (tCons (tC (.int 5)) tNil))) (tOp rSubI (tOp rSubI (tOp (rIx Γ.K) (tVar 3) (tOp (rAddU Γ.K) (tVar 5) (tVar 7))) (tOp (rIx Γ.K) (tVar 3) (tVar 5))) (tOp (rIx Γ.K) (tVar 3) (tVar 7)))) tNil))))
  (tDrop (tBM Γ.K "list" rAppend (tVar 4) (tCons (tVar 6) tNil))))))
  (tCut (tIfS (tTest (tOp (rEqU Γ.K) (tVar 2) (tC (.int 1)))) (tSeq (tAsg (tCal (sp__law_below Γ) E0 (tCons (tVar 0) (tCons (tOp rSubI (tVar 1) (tC (.int 1))) tNil))) (gName 5))
  (tAsg (tCal (sp__law_below Γ) E0 (tCons (tVar 0) (tCons (tC (.int 9)) tNil))) (gSub (tOp (rIx Γ.K) (tVar 4) (tVar 5)) (tCal (sp__law_below Γ) E0 (tCons (tVar 0) (tCons (tCB (rLen Γ.K) (tCons (tOp (rIx Γ.K) (tVar 4) (tVar 5)) tNil)) tNil))) rSetL))) tNext)
  (tRet (tCB (rTupOf Γ.K) (tCons (tLc (iSeq Γ.K (tVar 4)) (gName 6) tYes (tCB (rTupOf Γ.K) (tCons (tVar 6) tNil)) [6]) tNil))))))))
theorem rd__law_table (Γ : Gm) (vs : List V) (H : Hp) (Q : VK) (E : XK) (h : sp__law_table Γ vs H Q E) : t__law_table Γ ⟨fun _ H' => Q .non H', Q, fun _ _ => False, fun _ _ => False⟩ (startN 9 vs) H := by
  obtain ⟨d, m, rfl, hd, hm, hm2, q⟩ := h
  unfold t__law_table
  walk_at "ss"
  refine w_below hd (by omega) (by omega) fun r hr1 hr2 => ?_
  walk_at "ss"
  refine w_below hd (by decide) (by decide) fun kind hk1 hk2 => ?_
  walk_at "ss"
  obtain ⟨M, hM⟩ : ∃ M : Nat, 2 + r = (M : Int) := ⟨(2 + r).toNat, by omega⟩
  rw [hM]
  have hMr : 2 ≤ M ∧ (M : Int) ≤ m := by omega
  refine n_lst fun l0 H1 hl0 e1 g0 => ?_
  walk_at "ss"
  refine k_rng1 (by omega) ?_
  refine k_lcRange (fun i acc H' => ∃ ns : List Int, acc = ns.map V.int ∧ ns.length = i ∧ ∀ x ∈ ns, -9 ≤ x ∧ x ≤ 30) (fun _ _ => ⟨[], rfl, rfl, (fun _ z => nomatch z)⟩) ?_ ?_
  · rintro i D acc H2 hi hD e2 hacc ⟨ns, rfl, hns, hb⟩
    walk_at "ss"
    refine ⟨rfl, ?_⟩
    walk_at "ss"
    refine w_below ((e1.trans e2) _ _ hd) (by decide) (by decide) fun z hz1 hz2 => ?_
    walk_at "ss"
    refine lcTurn.mk hD e2 hacc (by rw [List.length_map]; omega) ⟨ns ++ [z - 9], by rw [List.map_append]; rfl, by rw [List.length_append, hns]; rfl, fun x hx => ?_⟩
    rcases List.mem_append.mp hx with hx | hx
    · exact hb x hx
    · simp only [List.mem_cons, List.not_mem_nil, or_false] at hx
      omega
  rintro D acc H2 hD e2 hacc ⟨ns, rfl, hns, hb⟩
  refine w_addL (e2 _ _ g0) hacc (by simp only [List.length_cons, List.length_nil, List.length_map]; exact Nat.le_trans (m := 1000) (by omega) (by decide)) fun Ld H3 hLd e3 g3 => ?_
  obtain ⟨dues, hdu⟩ : ∃ dues : List Int, dues = 0 :: 0 :: ns := ⟨_, rfl⟩
  have g3' : H3 Ld = some (.lst (dues.map V.int)) := by rw [hdu]; exact g3
  have hdl : dues.length = M + 1 := by rw [hdu]; simp only [List.length_cons]; omega
  have hdb : ∀ x ∈ dues, -9 ≤ x ∧ x ≤ 30 := fun x hx => by
    rw [hdu] at hx
    simp only [List.mem_cons] at hx
    rcases hx with rfl | rfl | hx
    · decide
    · decide
    · exact hb x hx
  clear g3 hdu
  have S3 := (e1.trans e2).trans e3
  walk_at "ss"
  refine n_lst fun Lr H4 hLr e4 g4 => ?_
  walk_at "ss"
  refine k_rng2 (by omega) ?_
  have ne0 : Ld ≠ Lr := ne_of_none g3' hLr
  have S4 := S3.trans e4
  have hrn : H Lr = none := S3.free hLr
  refine k_range (fun i σ H' => ∃ refs x y z, σ = [some (.ref d), some (.int M), some (.int kind), some (.ref Ld), some (.ref Lr), x, y, z, none] ∧ refs.length = i ∧ TI' H H' M Ld Lr dues refs) ⟨[], none, none, none, rfl, rfl, S4, e4 _ _ g3', g4, ne0, (fun _ z => nomatch z), (fun _ z => nomatch z), (fun _ z => nomatch z), fun j a z => by simp at z⟩ ?_ ?_
  · rintro i σ H5 hi ⟨refs, x, y, z, rfl, hrl, T⟩
    have hi' : i < M - 1 := by omega
    walk_at "ss"
    refine n_lst fun l H6 hl e6 g6 => ?_
    walk_at "ss"
    refine k_rng2 (by omega) ?_
    have S6 := T.same.trans e6
    refine k_range (fun k σ H' => ∃ row z, σ = [some (.ref d), some (.int M), some (.int kind), some (.ref Ld), some (.ref Lr), some (.int (1 + (i : Int))), some (.ref l), z, none] ∧ Same H5 H' ∧ RowAt H' l k row) ⟨[], z, rfl, e6, g6, rfl, (fun _ z => nomatch z)⟩ ?_ ?_
    · rintro k σ H7 hk ⟨row, z', rfl, e7, hl7, hrowl, hrb⟩
      have hk' : k < M - 1 - i := by omega
      walk_at "ss"
      refine w_tyL hl7 ?_
      walk_at "ss"
      have done : ∀ x : Int, small x → rAppend (.ref l) [.int x] H7 (fun _ H1 => ∃ row z, (List.set [some (V.ref d), some (.int M), some (.int kind), some (.ref Ld), some (.ref Lr), some (.int (1 + (i : Int))), some (.ref l), z', none] 7 (some (.int (1 + (k : Int))))) = [some (.ref d), some (.int M), some (.int kind), some (.ref Ld), some (.ref Lr), some (.int (1 + (i : Int))), some (.ref l), z, none] ∧ Same H5 H1 ∧ RowAt H1 l (k + 1) row) := fun x hx => by
        refine w_app hl7 (by rw [List.length_map]; omega) ?_
        refine ⟨row ++ [x], _, rfl, Same.mut e7 hl, ?_, by rw [List.length_append, hrowl]; rfl, fun w hw => ?_⟩
        · rw [upd_same, List.map_append]; rfl
        · rcases List.mem_append.mp hw with hw | hw
          · exact hrb w hw
          · simp only [List.mem_cons, List.not_mem_nil, or_false] at hw
            rw [hw]; exact hx
      refine w_ite (fun c => ?_) (fun c => ?_)
      · walk_at "ss"
        refine w_below ((T.same.trans e7) _ _ hd) (by decide) (by decide) fun w hw1 hw2 => ?_
        walk_at "ss"
        exact done w ⟨by omega, by omega⟩
      · walk_at "ss"
        have hdd := e7 _ _ T.hd
        have gt : ∀ (n : Int), 0 ≤ n → n < M + 1 → ∃ x, dues[n.toNat]? = some x ∧ -9 ≤ x ∧ x ≤ 30 := fun n h1 h2 => by
          have : n.toNat < dues.length := by omega
          exact ⟨_, List.getElem?_eq_getElem this, hdb _ (List.getElem_mem this)⟩
        obtain ⟨x1, a1, b1⟩ := gt (1 + (i : Int) + (1 + (k : Int))) (by omega) (by omega)
        obtain ⟨x2, a2, b2⟩ := gt (1 + (i : Int)) (by omega) (by omega)
        obtain ⟨x3, a3, b3⟩ := gt (1 + (k : Int)) (by omega) (by omega)
        refine w_ixL (SqL.of hdd) (atI_of (by omega) (by rw [List.getElem?_map, a1]; rfl)) ?_
        walk_at "ss"
        refine w_ixL (SqL.of hdd) (atI_of (by omega) (by rw [List.getElem?_map, a2]; rfl)) ?_
        walk_at "ss"
        refine w_ixL (SqL.of hdd) (atI_of (by omega) (by rw [List.getElem?_map, a3]; rfl)) ?_
        walk_at "ss"
        exact done _ ⟨by omega, by omega⟩
    · rintro σ H7 ⟨row, z', rfl, e7, hl7, hrowl, hrb⟩
      walk_at "ss"
      have hr7 := e7 _ _ T.hr
      refine w_tyL hr7 ?_
      walk_at "ss"
      refine w_app hr7 (by rw [List.length_map]; omega) ?_
      have nl : l ≠ Lr := fun z => by rw [z, T.hr] at hl; cases hl
      have nl2 : l ≠ Ld := fun z => by rw [z, T.hd] at hl; cases hl
      have mem : ∀ {P : Addr → Prop}, (∀ a ∈ refs, P a) → P l → ∀ a ∈ refs ++ [l], P a := fun h1 h2 a ha => by
        rcases List.mem_append.mp ha with ha | ha
        · exact h1 a ha
        · simp only [List.mem_cons, List.not_mem_nil, or_false] at ha
          rw [ha]; exact h2
      refine ⟨refs ++ [l], _, _, _, rfl, by rw [List.length_append, hrl]; rfl, Same.mut (T.same.trans e7) hrn, ?_, ?_, ne0, mem T.nr nl, mem T.nd nl2, mem T.nh (T.same.free hl), fun j a hj => ?_⟩
      · rw [upd_ne ne0]; exact e7 _ _ T.hd
      · rw [upd_same, List.map_append]; rfl
      · by_cases hjl : j < refs.length
        · rw [List.getElem?_append_left hjl] at hj
          obtain ⟨rw', h1, h2⟩ := T.row j a hj
          refine ⟨rw', ?_, h2⟩
          rw [upd_ne (T.nr a (List.mem_of_getElem? hj))]
          exact e7 _ _ h1
        · have hj2 : j = refs.length := by
            have := (List.getElem?_eq_some_iff.mp hj).1
            rw [List.length_append] at this
            simp only [List.length_cons, List.length_nil] at this
            omega
          subst hj2
          rw [List.getElem?_append_right (Nat.le_refl _), Nat.sub_self] at hj
          cases hj
          refine ⟨row, by rw [upd_ne nl]; exact hl7, ?_, hrb⟩
          omega
  · rintro σ H5 ⟨refs, x, y, z, rfl, hrl, T⟩
    have hrl' : refs.length = M - 1 := by omega
    refine w_cut (fun σ' H' => ∃ x y z, σ' = [some (.ref d), some (.int M), some (.int kind), some (.ref Ld), some (.ref Lr), x, y, z, none] ∧ TI' H H' M Ld Lr dues refs) ?_ ?_
    · walk_at "ss"
      refine w_ite (fun c => ?_) (fun c => ?_)
      · walk_at "ss"
        refine w_below (T.same _ _ hd) (by omega) (by omega) fun one ho1 ho2 => ?_
        walk_at "ss"
        refine w_below (T.same _ _ hd) (by decide) (by decide) fun val hv1 hv2 => ?_
        walk_at "ss"
        have hj : one.toNat < refs.length := by omega
        have ha := List.getElem?_eq_getElem hj
        obtain ⟨row, hrow, hrowl, hrb⟩ := T.row _ _ ha
        refine w_ixL (SqL.of T.hr) (atI_of ho1 (by rw [List.getElem?_map, ha]; rfl)) ?_
        walk_at "ss"
        refine w_ixL (SqL.of T.hr) (atI_of ho1 (by rw [List.getElem?_map, ha]; rfl)) ?_
        walk_at "ss"
        refine w_lenL (SqL.of hrow) ?_
        walk_at "ss"
        rw [List.length_map, hrowl]
        refine w_below (T.same _ _ hd) (by omega) (by omega) fun k hk1 hk2 => ?_
        obtain ⟨kk, hkk⟩ : ∃ kk : Nat, k = (kk : Int) := ⟨k.toNat, by omega⟩
        subst hkk
        have hnr := T.nr _ (List.mem_of_getElem? ha)
        have hnH : H (refs[one.toNat]) = none := T.nh _ (List.mem_of_getElem? ha)
        refine w_setL hrow (j := kk) (by unfold ixN; rw [if_pos (by omega), if_pos (by rw [List.length_map, hrowl]; omega)]; simp) ?_
        walk_at "ss"
        refine ⟨_, _, _, rfl, Same.mut T.same hnH, ?_, ?_, ne0, T.nr, T.nd, T.nh, fun j a hja => ?_⟩
        · rw [upd_ne (T.nd _ (List.mem_of_getElem? ha)).symm]; exact T.hd
        · rw [upd_ne hnr.symm]; exact T.hr
        · by_cases ea : a = refs[one.toNat]
          · subst ea
            obtain ⟨row2, h1, h2, h3⟩ := T.row _ _ hja
            rw [hrow] at h1
            have e2 : row2.length = row.length := by
              have := congrArg (fun o => match o with | some (HO.lst l) => l.length | _ => 0) h1
              simpa using this.symm
            refine ⟨row.set kk val, ?_, by rw [List.length_set, ← e2]; exact h2, fun w hw => ?_⟩
            · rw [upd_same, List.map_set]
            · rcases List.mem_or_eq_of_mem_set hw with hw | hw
              · exact hrb w hw
              · rw [hw]; exact ⟨by omega, by omega⟩
          · obtain ⟨row2, h1, h2⟩ := T.row _ _ hja
            exact ⟨row2, by rw [upd_ne ea]; exact h1, h2⟩
      · walk_at "ss"
        exact ⟨_, _, _, rfl, T⟩
    clear T
    rintro σ H6 ⟨x, y, z, rfl, T⟩
    obtain ⟨rows, hl1, hl2⟩ := rows_of T.row
    walk_at "ss"
    refine k_seqL (SqL.of T.hr) ?_
    refine k_lcList (xs := refs.map V.ref) (fun i acc H' => TpAll H' acc ((rows.take i).map fun r => PyData.tuple (r.map PyData.int))) (SqL.of T.hr) (fun _ _ => .nil) ?_ ?_
    · rintro i x D acc H7 hi hD e7 hacc tacc
      have hil : i < rows.length := by
        have := (List.getElem?_eq_some_iff.mp hi).1
        rw [List.length_map] at this
        omega
      have hrow := List.getElem?_eq_getElem hil
      obtain ⟨a, hra, hro, hrol, hrob⟩ := hl2 i _ hrow
      rw [List.getElem?_map, hra] at hi
      cases hi
      walk_at "ss"
      refine ⟨rfl, ?_⟩
      walk_at "ss"
      refine w_tupL (SqL.of (e7 _ _ hro)) fun t H8 ht e8 g8 => ?_
      have hacc8 := e8 _ _ hacc
      have tl := tacc.length
      rw [List.length_map, List.length_take] at tl
      refine lcTurn.mk hD (e7.trans e8) hacc8 (by omega) ?_
      rw [take_succ hrow, List.map_append]
      have up : Tups H8 (upd H8 D (.lst (acc ++ [V.ref t]))) := Tups.upd (fun _ _ z => z) (fun xs z => by rw [hacc8] at z; cases z)
      exact ((tacc.mono (Same.tups e8)).append (.cons (.tup g8 (TpAll.of_ints _ _)) .nil)).mono up
    · rintro D acc H7 hD e7 hacc tacc
      rw [List.length_map, ← hl1, List.take_length] at tacc
      walk_at "ss"
      refine w_tupL (SqL.of hacc) fun t H8 ht e8 g8 => ?_
      refine q _ rows H8 (T.same.trans (e7.trans e8)) (.tup g8 (tacc.mono (Same.tups e8))) ⟨by omega, by omega, fun i r hr => ?_⟩ (by omega) (fun r hr => ?_)
      · obtain ⟨a, h1, h2, h3, h4⟩ := hl2 i r hr
        refine ⟨by omega, fun x hx => ?_⟩
        have := h4 x hx
        unfold small at this
        omega
      · obtain ⟨i, hi⟩ := List.getElem?_of_mem hr
        obtain ⟨a, h1, h2, h3, h4⟩ := hl2 i r hi
        exact h4
/-! ### rules that are drawn -/
/-- R.small: what the drawn tables keep -/
def R.fit (most : Int) : R → Prop
  | .tab rows => (rows.length : Int) ≤ most - 1 ∧ ∀ r ∈ rows, ∀ x ∈ r, small x
  | .trm _ => True
def sp__law_rule (Γ : Gm) : Sp := fun vs H Q _ => ∃ (d : Addr) (m : Int), vs = [.ref d, .int m] ∧ H d = some (dO d) ∧ 2 ≤ m ∧ m ≤ 40 ∧ ∀ v r H', Same H H' → RuleAt Γ H' v r → r.fit m → Q v H'
/-- a rule of parts that are one, made -/
theorem w_mkRule {Γ : Gm} {H : Hp} {Q : VK} {v : V} (r : R) (hv : Tp H v r.body) (ok : r.ok) (hr : ruleOf (.str r.kind) r.body = some r) (k : ∀ p H', Same H H' → RuleAt Γ H' (.ref p) r → Q (.ref p) H') : kMak Γ.cRule (sp_RuleU_initU Γ) E0 [.str r.kind, v] H Q := by
  intro x dx hx hdx ne
  have e1 : Same H (upd (upd H dx (.own x)) x (.ins Γ.cRule dx [])) := (Same.new hdx).mut hx
  refine ⟨x, dx, _, .str r.kind, v, r.body, rfl, upd_same, .str _, (hv.mono (Same.tups e1)).dv, ⟨(fun z => by rw [hr] at z; cases z), ?_⟩⟩
  intro r' s b hr' es ev _ _ _ H' keep h'
  cases es
  rw [hr] at hr'
  cases hr'
  subst ev
  have keep' : Same H H' := fun c o ho => keep c o (fun z => by rw [z, hx] at ho; cases ho) (e1 c o ho)
  exact ⟨rfl, k x H' keep' ⟨x, dx, b, rfl, h', hv.mono (Same.tups keep'), ok⟩⟩
theorem ints_all {lo hi : Int} : ∀ {ns : List Int}, (∀ n ∈ ns, lo ≤ n ∧ n ≤ hi) → (ns.map PyData.int).all (inD lo hi) = true
  | [], _ => rfl
  | n :: ns, h => by
    rw [List.map_cons, List.all_cons, ints_all (fun m hm => h m (List.mem_cons_of_mem _ hm))]
    have := h n List.mem_cons_self
    simp only [inD, Bool.and_true, Bool.and_eq_true, decide_eq_true_eq]
    exact this
theorem ints_id : ∀ ns : List Int, (ns.map PyData.int).map intD = ns
  | [] => rfl
  | n :: ns => by rw [List.map_cons, List.map_cons, ints_id ns]; rfl
theorem ruleOf_str (s : Str) (d : PyData) : ruleOf (.str s) d = if s = "table" then (if areRows d then some (.tab (rowsD d)) else none) else if s = "terms" then (if areTerms d then some (.trm (termsD d)) else none) else none := rfl
theorem ruleOf_table (d : PyData) : ruleOf (.str "table") d = if areRows d then some (.tab (rowsD d)) else none := by
  rw [ruleOf_str, if_pos rfl]
theorem ruleOf_terms (d : PyData) : ruleOf (.str "terms") d = if areTerms d then some (.trm (termsD d)) else none := by
  rw [ruleOf_str, if_neg (show ¬ ("terms" : Str) = "table" from by decide +kernel), if_pos rfl]
/-- what is a rule is told back -/
theorem ruleOf_body {r : R} (ok : r.ok) : ruleOf (.str r.kind) r.body = some r := by
  cases r with
  | tab rows =>
    obtain ⟨h1, h2, h3⟩ := ok
    have ha : areRows (R.tab rows).body = true := by
      simp only [R.body, areRows, List.length_map]
      rw [decide_eq_true h1, decide_eq_true h2]
      simp only [Bool.true_and, List.all_eq_true, List.mem_range]
      intro i hi
      rw [List.getD_eq_getElem?_getD, List.getElem?_map, List.getElem?_eq_getElem hi]
      obtain ⟨h4, h5⟩ := h3 i _ (List.getElem?_eq_getElem hi)
      simp only [Option.map_some, Option.getD_some, rowOk, List.length_map]
      rw [ints_all h5, decide_eq_true h4]
      rfl
    have hb : rowsD (R.tab rows).body = rows := by
      simp only [R.body, rowsD, List.map_map]
      conv => rhs; rw [← List.map_id rows]
      exact List.map_congr_left fun r _ => ints_id r
    show ruleOf (.str "table") _ = _
    rw [ruleOf_table, if_pos ha, hb]
  | trm ts =>
    obtain ⟨h1, h2⟩ := ok
    have hd : ∀ t ∈ ts, termD (.tuple ((tri t).map PyData.int)) = t := fun t _ => by
      obtain ⟨n, i, j⟩ := t
      simp [termD, intsD, tri, intD]
    have ha : areTerms (R.trm ts).body = true := by
      simp only [R.body, areTerms, List.length_map, List.all_map, Bool.and_eq_true, decide_eq_true_eq, List.all_eq_true]
      refine ⟨h1, fun t ht => ?_⟩
      have := h2 t ht
      simp only [Function.comp, tri, List.map_cons, List.map_nil, isTerm, inD, Bool.and_eq_true, decide_eq_true_eq]
      omega
    have hb : termsD (R.trm ts).body = ts := by
      simp only [R.body, termsD, List.map_map]
      conv => rhs; rw [← List.map_id ts]
      exact List.map_congr_left fun t ht => hd t ht
    show ruleOf (.str "terms") _ = _
    rw [ruleOf_terms, if_pos ha, hb]
/-- law_rule: _law_d, _law_most -/
def t__law_rule (Γ : Gm) : TS := (tSeq (tIfS (tTest (tOp (rEqU Γ.K) (tCal (sp__law_below Γ) E0 (tCons (tVar 0) (tCons (tC (.int 2)) tNil))) (tC (.int 0)))) (tRet (tMak Γ.cRule (sp_RuleU_initU Γ) E0 (tCons (tC (.str "table")) (tCons (tCal (sp__law_table Γ) E0 (tCons (tVar 0) (tCons (tVar 1) tNil))) tNil)))) tNext)
  (tRet (tMak Γ.cRule (sp_RuleU_initU Γ) E0 (tCons (tC (.str "terms")) (tCons (tCal (sp__law_terms Γ) E0 (tCons (tVar 0) tNil)) tNil)))))
theorem rd__law_rule (Γ : Gm) (vs : List V) (H : Hp) (Q : VK) (E : XK) (h : sp__law_rule Γ vs H Q E) : t__law_rule Γ ⟨fun _ H' => Q .non H', Q, fun _ _ => False, fun _ _ => False⟩ (startN 2 vs) H := by
  obtain ⟨d, m, rfl, hd, hm, hm2, q⟩ := h
  unfold t__law_rule
  walk_at "ss"
  refine w_below hd (by decide) (by decide) fun r hr1 hr2 => ?_
  walk_at "ss"
  refine w_ite (fun c => ?_) (fun c => ?_)
  · walk_at "ss"
    refine ⟨d, m, rfl, hd, hm, hm2, fun v rows H' e tv ok hl hs => ?_⟩
    refine w_mkRule (R.tab rows) tv ok (ruleOf_body ok) fun p H2 e2 hr => ?_
    exact q _ _ H2 (e.trans e2) hr ⟨hl, hs⟩
  · walk_at "ss"
    refine ⟨d, rfl, hd, fun v ts H' e tv ok => ?_⟩
    refine w_mkRule (R.trm ts) tv ok (ruleOf_body ok) fun p H2 e2 hr => ?_
    exact q _ _ H2 (e.trans e2) hr trivial
theorem k_kind {Γ : Gm} {H : Hp} {v : V} {r : R} {Q : VK} (h : RuleAt Γ H v r) (q : Q (.str r.kind) H) : kPrp Γ.cRule "form" v H Q := by
  obtain ⟨p, dx, b, rfl, h2, h3, h4⟩ := h
  exact ⟨p, dx, _, _, rfl, h2, rfl2_form _ _, q⟩
theorem k_parts {Γ : Gm} {H : Hp} {v : V} {r : R} {Q : VK} (h : RuleAt Γ H v r) (q : ∀ b xs, H b = some (.tup xs) → Tp H (.ref b) r.body → Q (.ref b) H) : kPrp Γ.cRule "body" v H Q := by
  obtain ⟨p, dx, b, rfl, h2, h3, h4⟩ := h
  refine ⟨p, dx, _, _, rfl, h2, rfl2_body _ _, ?_⟩
  cases r <;> (cases h3 with | tup h k => exact q b _ h (.tup h k))
/-- the greatest heap that a rule has points for, of at most so many things -/
def R.topm (r : R) (most : Int) : Int := match r with
  | .tab rows => if (rows.length : Int) + 1 < most then (rows.length : Int) + 1 else most
  | .trm _ => most
def sp__law_top (Γ : Gm) : Sp := fun vs H Q _ => ∃ v r m, vs = [v, .int m] ∧ RuleAt Γ H v r ∧ ∀ H', Same H H' → Q (.int (r.topm m)) H'
/-- law_top: _law_rule_here, _law_most -/
def t__law_top (Γ : Gm) : TS := (tRet (tIf (tTest (tOp (rEqU Γ.K) (tPrp Γ.cRule "form" (tVar 0)) (tC (.str "table")))) (tCB (rMin Γ.K) (tCons (tLst (tCons (tVar 1) (tCons (tOp (rAddU Γ.K) (tCB (rLen Γ.K) (tCons (tPrp Γ.cRule "body" (tVar 0)) tNil)) (tC (.int 1))) tNil))) tNil)) (tVar 1)))
theorem rd__law_top (Γ : Gm) (vs : List V) (H : Hp) (Q : VK) (E : XK) (h : sp__law_top Γ vs H Q E) : t__law_top Γ ⟨fun _ H' => Q .non H', Q, fun _ _ => False, fun _ _ => False⟩ (startN 2 vs) H := by
  obtain ⟨v, r, m, rfl, hr, q⟩ := h
  unfold t__law_top
  walk_at "ss"
  refine k_kind hr ?_
  walk_at "ss"
  rw [kind_tab]
  cases r with
  | tab rows =>
    refine w_iteT ?_
    walk_at "ss"
    refine k_parts hr fun b xs hb ht => ?_
    walk_at "ss"
    refine w_lenT (SqT.of hb) ?_
    walk_at "ss"
    obtain ⟨a, ys, z1, z2, z3⟩ := ht.inv
    cases z1
    rw [hb] at z2
    cases z2
    rw [z3.length, List.length_map]
    refine n_lst fun l H1 hl e1 g1 => ?_
    walk_at "ss"
    refine ⟨l, [m, (rows.length : Int) + 1], rfl, SqL.of g1, Nat.succ_pos _, fun x hx hle => ?_⟩
    have e : x = (R.tab rows).topm m := by
      have h1 := hle m (by simp)
      have h2 := hle ((rows.length : Int) + 1) (by simp)
      simp only [List.mem_cons, List.not_mem_nil, or_false] at hx
      simp only [R.topm]
      split <;> omega
    rw [e]
    exact q _ e1
  | trm ts =>
    refine w_iteF ?_
    walk_at "ss"
    exact q H (Same.refl H)
/-- values that are no heaps, as data -/
def noHeaps (n : Int) : List PyData := [.none, .int 0, .int (-1), .str "1", .bool true, .tuple [.int 1], .int n]
def sp__law_no_heaps (Γ : Gm) : Sp := fun vs H Q _ => ∃ v r m, vs = [v, .int m] ∧ RuleAt Γ H v r ∧ ∀ l xs H', Same H H' → H l = none → H' l = some (.lst xs) → TpAll H' xs (noHeaps (r.topm m + 1)) → Q (.ref l) H'
/-- law_no_heaps: _law_rule_here, _law_most -/
def t__law_no_heaps (Γ : Gm) : TS := (tRet (tLst (tCons (tC .non) (tCons (tC (.int 0)) (tCons (tUn (rU fun i => .int (-i)) (tC (.int 1))) (tCons (tC (.str "1")) (tCons (tC (.bl true)) (tCons (tTup (tCons (tC (.int 1)) tNil)) (tCons (tOp (rAddU Γ.K) (tCal (sp__law_top Γ) E0 (tCons (tVar 0) (tCons (tVar 1) tNil))) (tC (.int 1))) tNil)))))))))
theorem rd__law_no_heaps (Γ : Gm) (vs : List V) (H : Hp) (Q : VK) (E : XK) (h : sp__law_no_heaps Γ vs H Q E) : t__law_no_heaps Γ ⟨fun _ H' => Q .non H', Q, fun _ _ => False, fun _ _ => False⟩ (startN 2 vs) H := by
  obtain ⟨v, r, m, rfl, hr, q⟩ := h
  unfold t__law_no_heaps
  walk_at "ss"
  refine n_tup fun t H1 ht e1 g1 => ?_
  walk_at "ss"
  refine ⟨v, r, m, rfl, hr.mono e1, fun H2 e2 => ?_⟩
  walk_at "ss"
  refine n_lst fun l H3 hl e3 g3 => ?_
  refine q l _ H3 (e1.trans (e2.trans e3)) ((e1.trans e2).free hl) g3 (.cons .non (.cons (.int 0) (.cons (.int (-1)) (.cons (.str _) (.cons (.bl true) (.cons (.tup ((e2.trans e3) _ _ g1) (.cons (.int 1) .nil)) (.cons (.int _) .nil)))))))

/-! ### equal and of the same kind at every level: asked of equal data alone -/
mutual
/-- data without dicts, nested less deep than n -/
def flatN : Nat → PyData → Bool
  | 0, _ => false
  | _ + 1, .none => true
  | _ + 1, .bool _ => true
  | _ + 1, .int _ => true
  | _ + 1, .str _ => true
  | n + 1, .list ds => decide (ds.length ≤ 100000) && flatAll n ds
  | n + 1, .tuple ds => decide (ds.length ≤ 100000) && flatAll n ds
  | _ + 1, .dict _ => false
def flatAll : Nat → List PyData → Bool
  | _, [] => true
  | n, d :: ds => flatN n d && flatAll n ds
end
theorem flatAll_get : ∀ {ds : List PyData} {n i : Nat} {d : PyData}, flatAll n ds = true → ds[i]? = some d → flatN n d = true
  | [], _, _, _, _, h => by simp at h
  | d :: ds, n, 0, _, h, e => by
    cases e
    unfold flatAll at h
    exact (Bool.and_eq_true_iff.mp h).1
  | d :: ds, n, i + 1, _, h, e => by
    unfold flatAll at h
    exact flatAll_get (Bool.and_eq_true_iff.mp h).2 (by simpa using e)
def spn__law_equal (Γ : Gm) (n : Nat) : Sp := fun vs H Q _ => ∃ x y d, vs = [x, y] ∧ Dv H x d ∧ Dv H y d ∧ flatN n d = true ∧ ∀ H', Same H H' → Q (.bl true) H'
def sp__law_equal (Γ : Gm) : Sp := spn__law_equal Γ 45
/-- law_equal: _law_actual, _law_expected, _law_key, _law_k -/
def t__law_equal (Γ : Gm) (n : Nat) : TS := (tSeq (tIfS (tTest (tOp rIsU (tVar 1) (tC .non))) (tRet (tOp rIsU (tVar 0) (tC .non))) tNext)
  (tSeq (tIfS (tB (tCB (rIsi Γ.K) (tCons (tVar 1) (tCons (tC (.ty "bool")) tNil)))) (tRet (tAndV (tCB (rIsi Γ.K) (tCons (tVar 0) (tCons (tC (.ty "bool")) tNil))) (tOp (rEqU Γ.K) (tVar 0) (tVar 1)))) tNext)
  (tSeq (tIfS (tB (tCB (rIsi Γ.K) (tCons (tVar 1) (tCons (tC (.ty "int")) tNil)))) (tRet (tAndV (tCB (rIsi Γ.K) (tCons (tVar 0) (tCons (tC (.ty "int")) tNil))) (tAndV (tNotV (tCB (rIsi Γ.K) (tCons (tVar 0) (tCons (tC (.ty "bool")) tNil)))) (tOp (rEqU Γ.K) (tVar 0) (tVar 1))))) tNext)
  (tSeq (tIfS (tB (tCB (rIsi Γ.K) (tCons (tVar 1) (tCons (tC (.ty "str")) tNil)))) (tRet (tAndV (tCB (rIsi Γ.K) (tCons (tVar 0) (tCons (tC (.ty "str")) tNil))) (tOp (rEqU Γ.K) (tVar 0) (tVar 1)))) tNext)
  (tSeq (tIfS (tB (tCB (rIsi Γ.K) (tCons (tVar 1) (tCons (tC (.ty "dict")) tNil)))) tNever tNext)
  (tSeq (tIfS (tTest (tOp (rNeU Γ.K) (tCB (rIsi Γ.K) (tCons (tVar 1) (tCons (tC (.ty "tuple")) tNil))) (tCB (rIsi Γ.K) (tCons (tVar 0) (tCons (tC (.ty "tuple")) tNil))))) (tRet (tC (.bl false))) tNext)
  (tSeq (tIfS (tTest (tOp (rNeU Γ.K) (tCB (rIsi Γ.K) (tCons (tVar 1) (tCons (tC (.ty "list")) tNil))) (tCB (rIsi Γ.K) (tCons (tVar 0) (tCons (tC (.ty "list")) tNil))))) (tRet (tC (.bl false))) tNext)
  (tSeq (tIfS (tTest (tOp (rNeU Γ.K) (tCB (rLen Γ.K) (tCons (tVar 0) tNil)) (tCB (rLen Γ.K) (tCons (tVar 1) tNil)))) (tRet (tC (.bl false))) tNext)
  (tRet (tCB (rAll Γ.K) (tCons (tLc (iRng1 (tCons (tCB (rLen Γ.K) (tCons (tVar 1) tNil)) tNil)) (gName 3) tYes (tCal (spn__law_equal Γ n) E0 (tCons (tOp (rIx Γ.K) (tVar 0) (tVar 3)) (tCons (tOp (rIx Γ.K) (tVar 1) (tVar 3)) tNil))) [3]) tNil)))))))))))
theorem rd0__law_equal (Γ : Gm) (vs : List V) (H : Hp) (Q : VK) (E : XK) (h : spn__law_equal Γ 0 vs H Q E) : False := by
  obtain ⟨x, y, d, _, _, _, h, _⟩ := h
  unfold flatN at h
  cases h
theorem isN_false {x : V} (h : x ≠ .non) : decide (x = V.non) = false := decide_eq_false h
theorem rd__law_equal (Γ : Gm) (n : Nat) (vs : List V) (H : Hp) (Q : VK) (E : XK) (h : spn__law_equal Γ (n + 1) vs H Q E) : t__law_equal Γ n ⟨fun _ H' => Q .non H', Q, fun _ _ => False, fun _ _ => False⟩ (startN 4 vs) H := by
  obtain ⟨x, y, d, rfl, hx, hy, hf, k⟩ := h
  have kk := k H (Same.refl H)
  unfold t__law_equal
  walk_at "ss"
  -- None
  by_cases dn : d = .none
  · subst dn
    cases hx
    cases hy
    rw [decide_eq_true rfl]
    walk_at "ss"
    rw [decide_eq_true rfl]
    exact kk
  have yn : y ≠ .non := by
    rintro rfl
    cases hy
    exact dn rfl
  rw [isN_false yn]
  walk_at "ss"
  refine w_isi hy.tag (by decide) ?_
  rw [hy.ty]
  walk_at "ss"
  refine w_ite (fun e => ?_) (fun e => ?_)
  · -- a truth value
    cases d with
    | bool b =>
      cases hx
      cases hy
      walk_at "ss"
      refine w_isi (.bl b) (by decide) ?_
      walk_at "ss"
      rw [if_pos (show isTy H "bool" (.bl b) = true from by simp [isTy, tyN, tyTab])]
      walk_at "ss"
      rw [decide_eq_true rfl]
      exact kk
    | _ => simp [tyD, tyTab] at e
  walk_at "ss"
  refine w_isi hy.tag (by decide) ?_
  rw [hy.ty]
  walk_at "ss"
  refine w_ite (fun e2 => ?_) (fun e2 => ?_)
  · cases d with
    | int b =>
      cases hx
      cases hy
      walk_at "ss"
      refine w_isi (.int b) (by decide) ?_
      walk_at "ss"
      rw [if_pos (show isTy H "int" (.int b) = true from by simp [isTy, tyN, tyTab])]
      walk_at "ss"
      refine w_isi (.int b) (by decide) ?_
      walk_at "ss"
      rw [if_pos (show (!isTy H "bool" (.int b)) = true from by simp [isTy, tyN, tyTab])]
      walk_at "ss"
      rw [decide_eq_true rfl]
      exact kk
    | bool b => simp [tyD, tyTab] at e
    | _ => simp [tyD, tyTab] at e2
  walk_at "ss"
  refine w_isi hy.tag (by decide) ?_
  rw [hy.ty]
  walk_at "ss"
  refine w_ite (fun e3 => ?_) (fun e3 => ?_)
  · cases d with
    | str b =>
      cases hx
      cases hy
      walk_at "ss"
      refine w_isi (.str b) (by decide) ?_
      walk_at "ss"
      rw [if_pos (show isTy H "str" (.str b) = true from by simp [isTy, tyN, tyTab])]
      walk_at "ss"
      rw [decide_eq_true rfl]
      exact kk
    | _ => simp [tyD, tyTab] at e3
  walk_at "ss"
  refine w_isi hy.tag (by decide) ?_
  rw [hy.ty]
  walk_at "ss"
  have ndict : tyTab (tyD d) "dict" = false := by
    cases d with
    | dict kvs => unfold flatN at hf; cases hf
    | _ => simp [tyD, tyTab]
  rw [ndict]
  walk_at "ss"
  -- a tuple or a list
  have main : ∀ (a b : Addr) (xs ys : List V) (ds : List PyData), x = .ref a → y = .ref b → (SqL Γ.K H a xs ∨ SqT Γ.K H a xs) → (SqL Γ.K H b ys ∨ SqT Γ.K H b ys) → DvAll H xs ds → DvAll H ys ds → ds.length ≤ 100000 → flatAll n ds = true →
      (tSeq (tIfS (tTest (tOp (rNeU Γ.K) (tCB (rLen Γ.K) (tCons (tVar 0) tNil)) (tCB (rLen Γ.K) (tCons (tVar 1) tNil)))) (tRet (tC (.bl false))) tNext)
      (tRet (tCB (rAll Γ.K) (tCons (tLc (iRng1 (tCons (tCB (rLen Γ.K) (tCons (tVar 1) tNil)) tNil)) (gName 3) tYes (tCal (spn__law_equal Γ n) E0 (tCons (tOp (rIx Γ.K) (tVar 0) (tVar 3)) (tCons (tOp (rIx Γ.K) (tVar 1) (tVar 3)) tNil))) [3]) tNil)))) ⟨fun _ H' => Q .non H', Q, fun _ _ => False, fun _ _ => False⟩ (startN 4 [x, y]) H := by
    rintro a b xs ys ds rfl rfl ha hb hxs hys hsz hfa
    have len : ∀ {c : Addr} {zs : List V} {R : VK}, (SqL Γ.K H c zs ∨ SqT Γ.K H c zs) → R (.int (zs.length : Int)) H → rLen Γ.K [.ref c] H R := fun h q => h.elim (fun h => w_lenL h q) (fun h => w_lenT h q)
    have hxl := hxs.length
    have hyl := hys.length
    walk_at "ss"
    refine len ha ?_
    walk_at "ss"
    refine len hb ?_
    walk_at "ss"
    rw [hxl, hyl, decide_eq_true rfl]
    walk_at "ss"
    refine len hb ?_
    walk_at "ss"
    refine k_rng1 (by omega) ?_
    refine k_lcRange (fun i acc H' => acc = (List.replicate i true).map V.bl) (fun _ _ => rfl) ?_ ?_
    · rintro i D acc H2 hi hD e4 hacc rfl
      have hi' : i < ds.length := by omega
      have hdi := List.getElem?_eq_getElem hi'
      obtain ⟨xi, hxi, dxi⟩ := hxs.get hdi
      obtain ⟨yi, hyi, dyi⟩ := hys.get hdi
      walk_at "ss"
      refine ⟨rfl, ?_⟩
      walk_at "ss"
      have at_ : ∀ {c : Addr} {zs : List V} {z : V} {R : VK}, (SqL Γ.K H c zs ∨ SqT Γ.K H c zs) → zs[i]? = some z → R z H2 → rIx Γ.K (.ref c) (.int (0 + (i : Int))) H2 R := fun h g q => h.elim (fun h => w_ixL (e4.seq h) (atI_of (by omega) (by rw [Int.zero_add]; exact g)) q) (fun h => w_ixT (e4.seqT h) (atI_of (by omega) (by rw [Int.zero_add]; exact g)) q)
      refine at_ ha hxi ?_
      walk_at "ss"
      refine at_ hb hyi ?_
      walk_at "ss"
      refine ⟨xi, yi, _, rfl, dxi.mono e4, dyi.mono e4, flatAll_get hfa hdi, fun H3 e5 => ?_⟩
      refine lcTurn.mk hD (e4.trans e5) (e5 _ _ hacc) (by rw [List.length_map, List.length_replicate]; omega) ?_
      rw [List.replicate_succ', List.map_append]
      rfl
    · rintro D acc H2 hD e4 hacc rfl
      walk_at "ss"
      refine w_all (SqL.of hacc) ?_
      have er : ∀ m : Nat, (List.replicate m true).all id = true := fun m => by
        induction m with
        | zero => rfl
        | succ m ih => rw [List.replicate_succ, List.all_cons, ih]; rfl
      rw [er]
      exact k H2 e4
  unfold flatN at hf
  cases d with
  | list ds =>
    rw [Bool.and_eq_true, decide_eq_true_eq] at hf
    cases hx with
    | lst gx hxs =>
      cases hy with
      | lst gy hys =>
        refine w_isi (.lst gy) (by decide) ?_
        walk_at "ss"
        refine w_isi (.lst gx) (by decide) ?_
        walk_at "ss"
        rw [show isTy H "tuple" _ = false from by simp [isTy, tyN, tyTab, gy], show isTy H "tuple" _ = false from by simp [isTy, tyN, tyTab, gx]]
        rw [decide_eq_true rfl]
        walk_at "ss"
        refine w_isi (.lst gy) (by decide) ?_
        walk_at "ss"
        refine w_isi (.lst gx) (by decide) ?_
        walk_at "ss"
        rw [show isTy H "list" _ = true from by simp [isTy, tyN, tyTab, gy], show isTy H "list" _ = true from by simp [isTy, tyN, tyTab, gx]]
        rw [decide_eq_true rfl]
        refine w_iteNT ?_
        exact main _ _ _ _ ds rfl rfl (.inl (SqL.of gx)) (.inl (SqL.of gy)) hxs hys hf.1 hf.2
  | tuple ds =>
    rw [Bool.and_eq_true, decide_eq_true_eq] at hf
    cases hx with
    | tup gx hxs =>
      cases hy with
      | tup gy hys =>
        refine w_isi (.tup gy) (by decide) ?_
        walk_at "ss"
        refine w_isi (.tup gx) (by decide) ?_
        walk_at "ss"
        rw [show isTy H "tuple" _ = true from by simp [isTy, tyN, tyTab, gy], show isTy H "tuple" _ = true from by simp [isTy, tyN, tyTab, gx]]
        rw [decide_eq_true rfl]
        walk_at "ss"
        refine w_isi (.tup gy) (by decide) ?_
        walk_at "ss"
        refine w_isi (.tup gx) (by decide) ?_
        walk_at "ss"
        rw [show isTy H "list" _ = false from by simp [isTy, tyN, tyTab, gy], show isTy H "list" _ = false from by simp [isTy, tyN, tyTab, gx]]
        rw [decide_eq_true rfl]
        refine w_iteNT ?_
        exact main _ _ _ _ ds rfl rfl (.inr (SqT.of gx)) (.inr (SqT.of gy)) hxs hys hf.1 hf.2
  | none => exact absurd rfl dn
  | bool b => simp [tyD, tyTab] at e
  | int b => simp [tyD, tyTab] at e2
  | str b => simp [tyD, tyTab] at e3
  | dict b => cases hf

/-! ### points -/
def splitOk (r : R) (a b : PyData) : Bool := inD 1 r.top a && inD 1 r.top b && decide (intD a + intD b ≤ r.top)
def sp_points (Γ : Gm) : Sp := fun vs H Q E => ∃ v r x y a b, vs = [v, x, y] ∧ RuleAt Γ H v r ∧ Dv H x a ∧ Dv H y b ∧ (splitOk r a b = false → E (.ref Γ.cBadSplit) none H) ∧ (splitOk r a b = true → ∀ H', Same H H' → Q (.int (r.pts (intD a) (intD b))) H')
theorem inD_int {lo hi : Int} {d : PyData} (h : inD lo hi d = true) : ∃ n, d = .int n ∧ lo ≤ n ∧ n ≤ hi := by
  cases d with
  | int n =>
    simp only [inD, Bool.and_eq_true, decide_eq_true_eq] at h
    exact ⟨n, rfl, h⟩
  | _ => simp [inD] at h
theorem dv_int {H : Hp} {x : V} {n : Int} (h : Dv H x (.int n)) : x = .int n := by cases h; rfl
/-- points: rule, first, second, top -/
def t_points (Γ : Gm) (E : XK) : TS := (tSeq (tAsg (tCal (sp_most_of Γ) E0 (tCons (tVar 0) tNil)) (gName 3))
  (tSeq (tIfS (tOr (tNot (tB (tCal (sp_is_from Γ) E0 (tCons (tVar 1) (tCons (tC (.int 1)) (tCons (tVar 3) tNil)))))) (tOr (tNot (tB (tCal (sp_is_from Γ) E0 (tCons (tVar 2) (tCons (tC (.int 1)) (tCons (tVar 3) tNil)))))) (tTest (tOp rGt (tOp (rAddU Γ.K) (tVar 1) (tVar 2)) (tVar 3))))) (tRaise Γ.cBadSplit (fun cls d _ H => E cls d H)) tNext)
  (tRet (tCal (sp_points_by Γ) E0 (tCons (tVar 0) (tCons (tVar 1) (tCons (tVar 2) tNil)))))))
theorem rd_points (Γ : Gm) (vs : List V) (H : Hp) (Q : VK) (E : XK) (h : sp_points Γ vs H Q E) : t_points Γ E ⟨fun _ H' => Q .non H', Q, fun _ _ => False, fun _ _ => False⟩ (startN 4 vs) H := by
  obtain ⟨v, r, x, y, a, b, rfl, hr, hx, hy, k1, k2⟩ := h
  unfold t_points
  walk_at "ss"
  refine ⟨v, r, rfl, hr, ?_⟩
  walk_at "ss"
  refine ⟨x, _, _, rfl, hx.tag, ?_⟩
  rw [hx.inR]
  walk_at "ss"
  refine w_ite (fun e => ?_) (fun e => ?_)
  · walk_at "ss"
    refine k1 ?_
    have e' : inD 1 r.top a = false := by simpa using e
    unfold splitOk
    rw [e', Bool.false_and, Bool.false_and]
  have e' : inD 1 r.top a = true := by simpa using e
  walk_at "ss"
  refine ⟨y, _, _, rfl, hy.tag, ?_⟩
  rw [hy.inR]
  walk_at "ss"
  refine w_ite (fun e2 => ?_) (fun e2 => ?_)
  · walk_at "ss"
    refine k1 ?_
    have e2' : inD 1 r.top b = false := by simpa using e2
    unfold splitOk
    rw [e2', Bool.and_false, Bool.false_and]
  have e2' : inD 1 r.top b = true := by simpa using e2
  obtain ⟨m, rfl, m1, m2⟩ := inD_int e'
  obtain ⟨n, rfl, n1, n2⟩ := inD_int e2'
  have ex := dv_int hx
  have ey := dv_int hy
  subst ex ey
  walk_at "ss"
  refine w_ite (fun e3 => ?_) (fun e3 => ?_)
  · walk_at "ss"
    refine k1 ?_
    unfold splitOk
    rw [Bool.and_eq_false_iff]
    right
    have := of_decide_eq_true e3
    exact decide_eq_false (show ¬ (m + n ≤ r.top) by omega)
  · have h3 := of_decide_eq_false e3
    walk_at "ss"
    refine ⟨v, r, m, n, rfl, hr, m1, n1, by omega, ?_⟩
    refine k2 ?_
    unfold splitOk
    rw [e', e2']
    show (true && true && decide (m + n ≤ r.top)) = true
    rw [decide_eq_true (by omega)]
    rfl
/-! ### the law's own points -/
def sp__law_points (Γ : Gm) : Sp := fun vs H Q _ => ∃ v r a b, vs = [v, .int a, .int b] ∧ RuleAt Γ H v r ∧ 1 ≤ a ∧ 1 ≤ b ∧ a + b ≤ r.top ∧ Q (.int (r.pts a b)) H
/-- law_points: _law_rule_here, _law_one, _law_other, _law_found, _law_number, _law_i, _law_j, _law_k -/
def t__law_points (Γ : Gm) : TS := (tSeq (tIfS (tTest (tOp (rEqU Γ.K) (tPrp Γ.cRule "form" (tVar 0)) (tC (.str "table")))) (tRet (tOp (rIx Γ.K) (tOp (rIx Γ.K) (tPrp Γ.cRule "body" (tVar 0)) (tOp rSubI (tVar 1) (tC (.int 1)))) (tOp rSubI (tVar 2) (tC (.int 1))))) tNext)
  (tSeq (tAsg (tC (.int 0)) (gName 3))
  (tSeq (tFor (iSeq Γ.K (tPrp Γ.cRule "body" (tVar 0))) (gTup Γ.K 3 (gCons (gName 4) (gCons (gName 5) (gCons (gName 6) gNil)))) (tSeq (tFor (iRng1 (tCons (tVar 5) tNil)) (gName 7) (tAsg (tOp (rMulU Γ.K) (tVar 4) (tVar 1)) (gName 4)))
  (tSeq (tFor (iRng1 (tCons (tVar 6) tNil)) (gName 7) (tAsg (tOp (rMulU Γ.K) (tVar 4) (tVar 2)) (gName 4)))
  (tAsg (tOp (rAddU Γ.K) (tVar 3) (tVar 4)) (gName 3)))))
  (tRet (tVar 3)))))
theorem rd__law_points (Γ : Gm) (vs : List V) (H : Hp) (Q : VK) (E : XK) (h : sp__law_points Γ vs H Q E) : t__law_points Γ ⟨fun _ H' => Q .non H', Q, fun _ _ => False, fun _ _ => False⟩ (startN 8 vs) H := by
  obtain ⟨v, r, a, b, rfl, hr, ha, hb, hs, q⟩ := h
  unfold t__law_points
  walk_at "ss"
  refine k_kind hr ?_
  walk_at "ss"
  rw [kind_tab]
  have hok : r.ok := by obtain ⟨_, _, _, _, _, _, h⟩ := hr; exact h
  cases r with
  | tab rows =>
    refine w_iteT ?_
    walk_at "ss"
    refine k_parts hr fun bb xs hx ht => ?_
    obtain ⟨row, e1, e2⟩ := tab_at hok ha hb hs
    obtain ⟨a', ys, z1, z2, z3⟩ := ht.inv
    cases z1
    rw [hx] at z2
    cases z2
    obtain ⟨w, hw, tw⟩ := z3.get (i := (a - 1).toNat) (d := .tuple (row.map PyData.int)) (by rw [List.getElem?_map, e1]; rfl)
    obtain ⟨c, zs, rfl, hc, tc⟩ := tw.inv
    walk_at "ss"
    refine w_ixT (SqT.of hx) (atI_of (by omega) hw) ?_
    walk_at "ss"
    have ez := tc.ints
    subst ez
    refine w_ixT (SqT.of hc) (atI_of (by omega) (by rw [List.getElem?_map, e2]; rfl)) ?_
    exact q
  | trm ts =>
    refine w_iteF ?_
    walk_at "ss"
    refine k_parts hr fun bb xs hx ht => ?_
    obtain ⟨a', ys, z1, z2, z3⟩ := ht.inv
    cases z1
    rw [hx] at z2
    cases z2
    refine k_seqT (SqT.of hx) ?_
    have hlen : xs.length = ts.length := by rw [z3.length, List.length_map]
    refine k_tup (xs := xs) (fun i σ H' => ∃ x4 x5 x6 x7, σ = [some v, some (.int a), some (.int b), some (.int ((ts.take i).map (tval a b)).sum), x4, x5, x6, x7] ∧ H' = H) ⟨none, none, none, none, rfl, rfl⟩ (fun i σ H' _ ⟨_, _, _, _, _, e⟩ => by rw [e]; exact SqT.of hx) ?_ ?_
    · rintro i x σ H' hi ⟨x4, x5, x6, x7, rfl, rfl⟩
      obtain ⟨d, hd, tx⟩ := z3.get' hi
      rw [List.getElem?_map] at hd
      obtain ⟨t, ht', rfl⟩ := Option.map_eq_some_iff.mp hd
      obtain ⟨c, zs, rfl, hc, tc⟩ := tx.inv
      have ez := tc.ints
      subst ez
      obtain ⟨n, i1, j1⟩ := t
      refine w_gTup (xs := [V.int n, V.int i1, V.int j1]) (SqT.of hc) rfl ?_
      walk_at "ss"
      obtain ⟨hl6, hb6⟩ := hok
      have hm := hb6 _ (List.mem_of_getElem? ht')
      dsimp only at hm
      have top : a + b ≤ 1000000000000000000000000000000 := hs
      have ba : a.natAbs ≤ 2 ^ 100 := by omega
      have bb' : b.natAbs ≤ 2 ^ 100 := by omega
      have n1 : n.natAbs ≤ 2 ^ 20 := by omega
      refine k_rng1 (by omega) ?_
      refine k_range (fun k σ H1 => ∃ x7, σ = [some v, some (.int a), some (.int b), some (.int ((ts.take i).map (tval a b)).sum), some (.int (n * a ^ k)), some (.int i1), some (.int j1), x7] ∧ H1 = H') ⟨x7, by rw [Int.pow_zero, Int.mul_one]; rfl, rfl⟩ ?_ ?_
      · rintro k σ H1 hk ⟨x7', rfl, rfl⟩
        have hk' : k < i1 := by simpa using hk
        have k1 : 100 * k ≤ 100 * 4 := Nat.mul_le_mul_left _ (by omega)
        walk_at "ss"
        refine w_mulI (cmul_of (mul_nat n1 (pow_nat ba)) ba) ?_
        walk_at "ss"
        exact ⟨_, by rw [Int.pow_succ, ← Int.mul_assoc]; rfl, rfl⟩
      · rintro σ H1 ⟨x7', rfl, rfl⟩
        walk_at "ss"
        refine k_rng1 (by omega) ?_
        have ei : (i1 : Int).toNat = i1 := Int.toNat_natCast i1
        rw [ei]
        refine k_range (fun k σ H2 => ∃ x7, σ = [some v, some (.int a), some (.int b), some (.int ((ts.take i).map (tval a b)).sum), some (.int (n * a ^ i1 * b ^ k)), some (.int i1), some (.int j1), x7] ∧ H2 = H1) ⟨x7', by rw [Int.pow_zero, Int.mul_one], rfl⟩ ?_ ?_
        · rintro k σ H2 hk ⟨x7'', rfl, rfl⟩
          have hk' : k < j1 := by simpa using hk
          have k1 : 100 * k ≤ 100 * 4 := Nat.mul_le_mul_left _ (by omega)
          have k2 : 100 * i1 ≤ 100 * 4 := Nat.mul_le_mul_left _ (by omega)
          walk_at "ss"
          refine w_mulI (cmul_of (mul_nat (mul_nat n1 (pow_nat ba)) (pow_nat bb')) bb') ?_
          walk_at "ss"
          exact ⟨_, by rw [Int.pow_succ, ← Int.mul_assoc]; rfl, rfl⟩
        · rintro σ H2 ⟨x7'', rfl, rfl⟩
          have ej : (j1 : Int).toNat = j1 := Int.toNat_natCast j1
          rw [ej]
          walk_at "ss"
          have es : ((ts.take (i + 1)).map (tval a b)).sum = ((ts.take i).map (tval a b)).sum + n * a ^ i1 * b ^ j1 := by
            rw [take_succ ht', List.map_append, List.sum_append]
            simp only [List.map_cons, List.map_nil, List.sum_cons, List.sum_nil, Int.add_zero, tval]
          rw [es]
          exact ⟨_, _, _, _, rfl, rfl⟩
    · rintro σ H' ⟨x4, x5, x6, x7, rfl, rfl⟩
      rw [hlen, List.take_length]
      walk_at "ss"
      exact q
/-! ### a law's promise -/
def spLaw (K : PySem.W.Frag) : Sp := fun vs H Q _ => ∃ (a : Addr) (ns : List Int), vs = [.ref a] ∧ SqL K H a (ns.map V.int) ∧ ns.length ≤ 63 ∧ ∀ H', Q (.bl true) H'
theorem mem_of {xs : List V} {ds : List PyData} {H : Hp} {i : Nat} {x : V} (t : TpAll H xs ds) (h : xs[i]? = some x) : ∃ d ∈ ds, Tp H x d := by
  obtain ⟨d, hd, td⟩ := t.get' h
  exact ⟨d, List.mem_of_getElem? hd, td⟩
theorem topm_top {r : R} (ok : r.ok) : r.topm 1000000000000000000000000000000 = r.top := by
  cases r with
  | tab rows =>
    obtain ⟨_, h, _⟩ := ok
    simp only [R.topm, R.top]
    rw [if_pos (by omega)]
  | trm ts => rfl
theorem RuleAt.ok {Γ : Gm} {H : Hp} {v : V} {r : R} (h : RuleAt Γ H v r) : r.ok := by obtain ⟨_, _, _, _, _, _, h⟩ := h; exact h
theorem top_ge {r : R} (ok : r.ok) : 2 ≤ r.top ∧ r.top ≤ 1000000000000000000000000000000 := by
  cases r with
  | tab rows =>
    obtain ⟨h1, h, _⟩ := ok
    have : (R.tab rows).top = (rows.length : Int) + 1 := rfl
    omega
  | trm ts => exact (by decide : (2 : Int) ≤ 1000000000000000000000000000000 ∧ (1000000000000000000000000000000 : Int) ≤ 1000000000000000000000000000000)
theorem w_min {K : PySem.W.Frag} {H : Hp} {Q : VK} {a : Addr} {ns : List Int} (h : H a = some (.lst (ns.map V.int))) (h0 : 0 < ns.length) (k : ∀ m, m ∈ ns → (∀ y, y ∈ ns → m ≤ y) → Q (.int m) H) : rMin K [.ref a] H Q := ⟨a, ns, rfl, SqL.of h, h0, k⟩
theorem w_max {K : PySem.W.Frag} {H : Hp} {Q : VK} {a : Addr} {ns : List Int} (h : H a = some (.lst (ns.map V.int))) (h0 : 0 < ns.length) (k : ∀ m, m ∈ ns → (∀ y, y ∈ ns → y ≤ m) → Q (.int m) H) : rMax K [.ref a] H Q := ⟨a, ns, rfl, SqL.of h, h0, k⟩
theorem w_equal {Γ : Gm} {H : Hp} {Q : VK} {x y : V} {d : PyData} {E : XK} (hx : Dv H x d) (hy : Dv H y d) (hf : flatN 45 d = true) (k : ∀ H', Same H H' → Q (.bl true) H') : sp__law_equal Γ [x, y] H Q E := ⟨x, y, d, rfl, hx, hy, hf, k⟩

/-! ### len of an instance of an own class -/
def rLenO (C : Addr) (sp : Sp) (xs : List V) (H : Hp) (Q : VK) : Prop := ∃ a dx fs, xs = [.ref a] ∧ H a = some (.ins C dx fs) ∧ sp [.ref a] H (fun v H' => ∃ n : Int, v = .int n ∧ 0 ≤ n ∧ n < 2 ^ 63 ∧ Q (.int n) H') E0
theorem call_lenO {X : Cx} {C : Addr} {k : Nat} {ps : List Str} {sp : Sp} (c : CalM X.prog X.w X.K X.mg X.base CX0 C "__len__" k ps sp) (hr : Room (k + 1) X.A) : CallR X (.builtin "len") (rLenO C sp) := by
  obtain ⟨f, fd, F, hm, hb⟩ := c.ex
  intro pins s σ H xs us Q I rv h
  obtain ⟨a, dx, fs, rfl, ha, q⟩ := h
  obtain _ | ⟨r, rs⟩ := rv
  cases rs
  cases r
  refine wpAny_call (codeAny_call_builtin (b := PySem.Builtin.len) (by decide) entry_len ?_)
  show wpAny _ _ (pure ()) _ _ _
  refine wpAny_pure ?_
  have hi : ∃ ox od, PySem.W.InstAt s.heap a ox C od := by
    have z := I.hok a _ ha
    simp only [L2.ObjOk] at z
    obtain ⟨_, _, _, z1, mA, z2, _⟩ := z
    obtain ⟨od, hod⟩ : ∃ od, s.heap.get? dx = some od := by
      obtain ⟨o, _, _, e, _⟩ := z2
      exact ⟨o, e⟩
    exact ⟨_, some od, z1, rfl, rfl, hod⟩
  obtain ⟨ox, od, hi⟩ := hi
  show wpAny _ _ (callSpecial? (Value.ref a) "__len__" >>= _) _ _ _
  refine wpAny_bind (PySem.W.special_fn I.kIn hi hm.at_ (beq_iff_eq.mp hm.fn) ?_)
  have hl : (Value.ref a :: ([] : List Value)).length = ps.length := (F.len _ _ _ _ q).symm ▸ rfl
  have hbb := hb _ [Value.ref a] I.kIn hl
  rw [List.append_nil] at hbb
  refine wpAny_call (codeAny_mono (F.run _ X.stack _ _ ⟨[Value.ref a], []⟩ [Value.ref a] [.ref a] _ E0 hr.in1 I.env0.in1 hbb (Paired.cons (show L2.RelV (.ref a) (.ref a) from rfl) .nil) q) fun r s' hq' => ?_)
  cases r with
  | error e => exact False.elim hq'
  | ok fl =>
    cases fl with
    | ret u =>
      obtain ⟨v, H', I3, rv, n, rfl, h1, h2, q3⟩ := I.after hq'
      obtain ⟨t, rfl⟩ := rv
      show wpAny _ _ (holding [_] _ >>= _) _ _ _
      refine wpAny_bind (wpAny_holding ?_)
      refine wpAny_bind (wpAny_pure ?_)
      show wpAny _ _ (pure n) _ _ _
      refine wpAny_pure ?_
      refine wpAny_bind (wpAny_letGo ?_)
      show wpAny _ _ (if n < 0 then _ else (if n ≥ 2 ^ 63 then _ else retInt n)) _ _ _
      rw [if_neg (by omega), if_neg (by omega)]
      refine wpAny_bind (wpAny_mkInt ?_)
      show wpAny _ _ (pure _) _ _ _
      refine wpAny_pure ?_
      exact ⟨.int n, H', I3.tok _, ⟨_, rfl⟩, q3⟩
    | next => exact False.elim hq'
    | brk => exact False.elim hq'
    | cont => exact False.elim hq'
/-! ### a property whose getter is any def -/
structure CalQ (P : Program) (w : World) (K : PySem.W.Frag) (mg : Str → Option Value) (base : Heap) (C : Addr) (f : Str) (k : Nat) (sp : Sp) : Prop where
  cls : Cls K C
  ex : ∃ (p g : Addr) (fd : FuncData), PropOf K C f p g ∧ FnOk P w K mg base CX0 k g fd ["self"] sp ∧ Binds K fd ["self"] []
def kPrs (C : Addr) (sp : Sp) (x : V) (H : Hp) (Q : VK) : Prop := ∃ a dx fs, x = .ref a ∧ H a = some (.ins C dx fs) ∧ sp [.ref a] H Q E0
def tPrs (C : Addr) (sp : Sp) (ta : TE) : TE := fun σ H Q => ta σ H fun x H1 => kPrs C sp x H1 Q
theorem pe_prs {X : Cx} {C : Addr} {f : Str} {sp : Sp} {k : Nat} {e : Expr} {ta : TE} {pos : Pos} (c : CalQ X.prog X.w X.K X.mg X.base C f k sp) (hr : Room (k + 1) X.A) (he : PE X e ta)
    (hab : attributeBase e f X.env (eval e X.env) = eval e X.env) : PE X (.Attribute e f pos) (tPrs C sp ta) := by
  obtain ⟨p, g, fd, hp, F, hb⟩ := c.ex
  exact pe_prop (pos := pos) (E := E0) he c.cls hp F hr hb .nil pass0 hab
theorem w_prs {σ : St} {H : Hp} {Q : VK} {ta : TE} {C : Addr} {sp : Sp} (h : ta σ H fun x H1 => kPrs C sp x H1 Q) : tPrs C sp ta σ H Q := h
theorem w_star {σ : St} {H : Hp} {QA : List V → Hp → Prop} {K : PySem.W.Frag} {te : TE} {tr : TA} (h : te σ H fun x H1 => ∃ p xs, x = .ref p ∧ (SqT K H1 p xs ∨ SqL K H1 p xs) ∧ tr σ H1 fun ys H2 => QA (xs ++ ys) H2) : StX.tStar K te tr σ H QA := h
theorem w_metS {σ : St} {H : Hp} {Q : VK} {C : Addr} {m : Str} {sp : Sp} {E : St → XK} {ta : TE} {t : TA} (h : ta σ H fun x H1 => ∃ a dx fs, x = .ref a ∧ H1 a = some (.ins C dx fs) ∧ fs.lookup m = none ∧ t σ H1 fun vs H2 => sp (x :: vs) H2 Q (E σ)) : tMetS C m sp E ta t σ H Q := h
/-! ### slices of tuples -/
def cutD (ds : List PyData) (lo hi : Option Int) : List PyData := List.take (HT.sIx ds.length ds.length hi - HT.sIx ds.length 0 lo) (List.drop (HT.sIx ds.length 0 lo) ds)
theorem TpAll.take {H : Hp} : ∀ (n : Nat) {vs : List V} {ds : List PyData}, TpAll H vs ds → TpAll H (vs.take n) (ds.take n)
  | 0, _, _, _ => .nil
  | _ + 1, _, _, .nil => .nil
  | n + 1, _, _, .cons h k => .cons h (TpAll.take n k)
theorem TpAll.drop {H : Hp} : ∀ (n : Nat) {vs : List V} {ds : List PyData}, TpAll H vs ds → TpAll H (vs.drop n) (ds.drop n)
  | 0, _, _, h => h
  | _ + 1, _, _, .nil => .nil
  | n + 1, _, _, .cons _ k => TpAll.drop n k
theorem w_slT {K : PySem.W.Frag} {H : Hp} {Q : VK} {v : V} {ds : List PyData} {lo hi : Option Int} (hv : Tp H v (.tuple ds)) (h : ∀ u H', Same H H' → Tp H' u (.tuple (cutD ds lo hi)) → Q u H') : rSlU K v lo hi H Q := by
  obtain ⟨a, xs, rfl, ha, ta⟩ := hv.inv
  have el := ta.length
  refine .inr (.inl ⟨a, xs, rfl, SqT.of ha, ?_, ?_⟩)
  · rintro ⟨z1, z2⟩
    have := h (.ref a) H (Same.refl H)
    unfold cutD at this
    rw [← el, z1, z2, Nat.sub_zero, List.drop_zero, List.take_of_length_le (by rw [el]; exact Nat.le_refl _)] at this
    exact this hv
  · intro z p hp
    have e := Same.new (o := .tup (cutV xs lo hi)) hp
    refine h _ _ e (.tup upd_same ?_)
    unfold cutV cutD
    rw [← el]
    exact ((ta.drop _).take _).mono (Same.tups e)
theorem cutD_to {ds : List PyData} {i : Nat} : cutD ds none (some (i : Int)) = ds.take i := by
  unfold cutD HT.sIx
  simp only [Nat.sub_zero, List.drop_zero]
  rw [if_neg (by omega), Int.toNat_natCast]
  by_cases h : i ≤ ds.length
  · rw [Nat.min_eq_left h]
  · rw [Nat.min_eq_right (by omega), List.take_of_length_le (Nat.le_refl _), List.take_of_length_le (by omega)]
theorem cutD_from {ds : List PyData} {i : Nat} : cutD ds (some (i : Int)) none = ds.drop i := by
  unfold cutD HT.sIx
  simp only
  rw [if_neg (by omega), Int.toNat_natCast]
  by_cases h : i ≤ ds.length
  · rw [Nat.min_eq_left h, List.take_of_length_le (by rw [List.length_drop]; exact Nat.le_refl _)]
  · rw [Nat.min_eq_right (by omega), Nat.sub_self, List.take_zero, List.drop_of_length_le (by omega)]
theorem cutD_last {ds : List PyData} {i : Nat} : cutD ds none (some (-((i : Int) + 1))) = ds.take (ds.length - (i + 1)) := by
  unfold cutD HT.sIx
  simp only [Nat.sub_zero, List.drop_zero]
  rw [if_pos (by omega)]
  congr 1
  omega
theorem w_ifY {b : Bool} {A B : Prop} (h : b = true) (k : A) : if b = true then A else B := by rw [if_pos h]; exact k
theorem w_ifN {b : Bool} {A B : Prop} (h : b = false) (k : B) : if b = true then A else B := by rw [if_neg (by rw [h]; decide)]; exact k
theorem inD_yes {lo hi n : Int} (h1 : lo ≤ n) (h2 : n ≤ hi) : inD lo hi (.int n) = true := by
  show (decide (lo ≤ n) && decide (n ≤ hi)) = true
  rw [decide_eq_true h1, decide_eq_true h2]
  rfl
theorem w_dnewK {σ : St} {H : Hp} {Q : VK} (h : ∀ p H', H p = none → Same H H' → H' p = some (.dK []) → Q (.ref p) H') : tDNewK σ H Q := alloc h

/-! ### == of data -/
mutual
theorem Dv.dp {K : PySem.W.Frag} {H : Hp} : ∀ {n : Nat} {v : V} {d : PyData}, flatN n d = true → Dv H v d → Dp K H v d
  | 0, _, _, h, _ => by unfold flatN at h; cases h
  | n + 1, _, _, _, .non => .non
  | n + 1, _, _, _, .bl b => .bl b
  | n + 1, _, _, _, .int i => .int i
  | n + 1, _, _, _, .str x => .str x
  | n + 1, _, _, h, .lst g k => .lst (SqL.of g) (DvAll.dp (n := n) (by unfold flatN at h; exact (Bool.and_eq_true_iff.mp h).2) k)
  | n + 1, _, _, h, .tup g k => .tup (SqT.of g) (DvAll.dp (n := n) (by unfold flatN at h; exact (Bool.and_eq_true_iff.mp h).2) k)
  | n + 1, _, _, h, .dict g => by unfold flatN at h; cases h
theorem DvAll.dp {K : PySem.W.Frag} {H : Hp} : ∀ {n : Nat} {vs : List V} {ds : List PyData}, flatAll n ds = true → DvAll H vs ds → DpAll K H vs ds
  | _, _, _, _, .nil => .nil
  | n, _, _, h, .cons g k => by
    unfold flatAll at h
    have h' := Bool.and_eq_true_iff.mp h
    exact .cons (Dv.dp (n := n) h'.1 g) (DvAll.dp (n := n) h'.2 k)
end
/-! no strings but short ones, no truth values: what is compared in the laws -/
mutual
def pureD : PyData → Bool
  | .none => true
  | .bool _ => false
  | .int _ => true
  | .str x => PySem.PyData.strOk x
  | .list ds => pureAll ds
  | .tuple ds => pureAll ds
  | .dict _ => false
def pureAll : List PyData → Bool
  | [] => true
  | d :: ds => pureD d && pureAll ds
end
mutual
theorem pure_lay : ∀ {d : PyData}, pureD d = true → d.canLay0 = true
  | .none, _ => by unfold PyData.canLay0; rfl
  | .bool _, h => by unfold pureD at h; cases h
  | .int _, _ => by unfold PyData.canLay0; rfl
  | .str x, h => by unfold pureD at h; unfold PyData.canLay0; exact h
  | .list ds, h => by unfold pureD at h; unfold PyData.canLay0; exact pure_layAll h
  | .tuple ds, h => by unfold pureD at h; unfold PyData.canLay0; exact pure_layAll h
  | .dict _, h => by unfold pureD at h; cases h
theorem pure_layAll : ∀ {ds : List PyData}, pureAll ds = true → PyData.canLayAll0 ds = true
  | [], _ => by unfold PyData.canLayAll0; rfl
  | d :: ds, h => by
    unfold pureAll at h
    have h' := Bool.and_eq_true_iff.mp h
    unfold PyData.canLayAll0
    rw [pure_lay h'.1, pure_layAll h'.2]
    rfl
end
mutual
theorem eqv_pure : ∀ {d e : PyData}, pureD d = true → pureD e = true → PyData.eqv d e = true → d = e
  | .none, e, _, he, h => by cases e <;> simp [PyData.eqv] at h ⊢
  | .bool _, _, h, _, _ => by unfold pureD at h; cases h
  | .int i, e, _, he, h => by
    cases e with
    | int j => simp [PyData.eqv] at h; rw [h]
    | bool b => unfold pureD at he; cases he
    | _ => simp [PyData.eqv] at h
  | .str x, e, _, he, h => by cases e <;> simp [PyData.eqv] at h ⊢; exact h
  | .list ds, e, hd, he, h => by
    cases e with
    | list es =>
      unfold pureD at hd he
      rw [PyData.eqv] at h
      rw [eqv_pureAll hd he h]
    | _ => simp [PyData.eqv] at h
  | .tuple ds, e, hd, he, h => by
    cases e with
    | tuple es =>
      unfold pureD at hd he
      rw [PyData.eqv] at h
      rw [eqv_pureAll hd he h]
    | _ => simp [PyData.eqv] at h
  | .dict _, _, h, _, _ => by unfold pureD at h; cases h
theorem eqv_pureAll : ∀ {ds es : List PyData}, pureAll ds = true → pureAll es = true → PyData.eqvAll ds es = true → ds = es
  | [], [], _, _, _ => rfl
  | [], _ :: _, _, _, h => by simp [PyData.eqvAll] at h
  | _ :: _, [], _, _, h => by simp [PyData.eqvAll] at h
  | d :: ds, e :: es, hd, he, h => by
    unfold pureAll at hd he
    rw [PyData.eqvAll] at h
    have h1 := Bool.and_eq_true_iff.mp hd
    have h2 := Bool.and_eq_true_iff.mp he
    have h3 := Bool.and_eq_true_iff.mp h
    rw [eqv_pure h1.1 h2.1 h3.1, eqv_pureAll h1.2 h2.2 h3.2]
end
theorem eqv_dec {d e : PyData} [dec : Decidable (d = e)] (hd : pureD d = true) (he : pureD e = true) : PyData.eqv d e = decide (d = e) := by
  by_cases h : d = e
  · subst h
    rw [decide_eq_true rfl]
    exact SeqAt.eqv_refl d (pure_lay hd)
  · rw [decide_eq_false h]
    cases hb : PyData.eqv d e with
    | false => rfl
    | true => exact absurd (eqv_pure hd he hb) h
mutual
theorem flat_depth : ∀ {n : Nat} {d : PyData}, flatN n d = true → d.depth ≤ n
  | 0, _, h => by unfold flatN at h; cases h
  | n + 1, .none, _ => by simp [PyData.depth]
  | n + 1, .bool _, _ => by simp [PyData.depth]
  | n + 1, .int _, _ => by simp [PyData.depth]
  | n + 1, .str _, _ => by simp [PyData.depth]
  | n + 1, .list ds, h => by
    unfold flatN at h
    have := flat_depthAll (Bool.and_eq_true_iff.mp h).2
    simp only [PyData.depth]; omega
  | n + 1, .tuple ds, h => by
    unfold flatN at h
    have := flat_depthAll (Bool.and_eq_true_iff.mp h).2
    simp only [PyData.depth]; omega
  | n + 1, .dict _, h => by unfold flatN at h; cases h
theorem flat_depthAll : ∀ {n : Nat} {ds : List PyData}, flatAll n ds = true → PyData.depthAll ds ≤ n
  | n, [], _ => by simp [PyData.depthAll]
  | n, d :: ds, h => by
    unfold flatAll at h
    have h' := Bool.and_eq_true_iff.mp h
    have h1 := flat_depth h'.1
    have h2 := flat_depthAll h'.2
    simp only [PyData.depthAll]; omega
end
theorem shaped_of {d : PyData} (h : flatN 45 d = true) (hp : pureD d = true) : SeqAt.shaped d = true := by
  unfold SeqAt.shaped
  rw [pure_lay hp, decide_eq_true (Nat.le_trans (flat_depth h) (by decide))]
  rfl
theorem w_eqD {K : PySem.W.Frag} {H : Hp} {Q : VK} {x y : V} {d e : PyData} [dec : Decidable (d = e)] (hx : Dv H x d) (hy : Dv H y e) (fd : flatN 45 d = true) (fe : flatN 45 e = true) (pd : pureD d = true) (pe : pureD e = true) (q : Q (.bl (decide (d = e))) H) : rEqU K x y H Q :=
  .inr ⟨d, e, hx.dp fd, hy.dp fe, shaped_of fd pd, shaped_of fe pe, by rw [eqv_dec pd pe]; exact q⟩
theorem w_neD {K : PySem.W.Frag} {H : Hp} {Q : VK} {x y : V} {d e : PyData} [dec : Decidable (d = e)] (hx : Dv H x d) (hy : Dv H y e) (fd : flatN 45 d = true) (fe : flatN 45 e = true) (pd : pureD d = true) (pe : pureD e = true) (q : Q (.bl (!decide (d = e))) H) : rNeU K x y H Q :=
  .inr ⟨d, e, hx.dp fd, hy.dp fe, shaped_of fd pd, shaped_of fe pe, by rw [eqv_dec pd pe]; exact q⟩
/-! lists of ints -/
theorem pure_ints : ∀ ns : List Int, pureAll (ns.map PyData.int) = true
  | [] => by unfold pureAll; rfl
  | n :: ns => by rw [List.map_cons]; unfold pureAll pureD; rw [pure_ints ns]; rfl
theorem flat_intsN {n : Nat} : ∀ ns : List Int, flatAll (n + 1) (ns.map PyData.int) = true
  | [] => by unfold flatAll; rfl
  | m :: ns => by rw [List.map_cons]; unfold flatAll flatN; rw [flat_intsN ns]; rfl
theorem flat_listI {ns : List Int} (h : ns.length ≤ 100000) : flatN 45 (.list (ns.map PyData.int)) = true := by
  unfold flatN
  rw [flat_intsN, List.length_map, decide_eq_true h]
  rfl
theorem flat_tupI {ns : List Int} (h : ns.length ≤ 100000) : flatN 45 (.tuple (ns.map PyData.int)) = true := by
  unfold flatN
  rw [flat_intsN, List.length_map, decide_eq_true h]
  rfl
theorem pure_listI (ns : List Int) : pureD (.list (ns.map PyData.int)) = true := by unfold pureD; exact pure_ints ns
theorem pure_tupI (ns : List Int) : pureD (.tuple (ns.map PyData.int)) = true := by unfold pureD; exact pure_ints ns
theorem map_int_inj {ns ms : List Int} (h : ns.map PyData.int = ms.map PyData.int) : ns = ms := by
  induction ns generalizing ms with
  | nil => cases ms with
    | nil => rfl
    | cons _ _ => cases h
  | cons a ns ih => cases ms with
    | nil => cases h
    | cons b ms =>
      rw [List.map_cons, List.map_cons] at h
      injection h with h1 h2
      injection h1 with h1
      rw [h1, ih h2]
theorem w_eqLI {K : PySem.W.Frag} {H : Hp} {Q : VK} {a b : Addr} {ns ms : List Int} (ha : H a = some (.lst (ns.map V.int))) (hb : H b = some (.lst (ms.map V.int))) (h1 : ns.length ≤ 100000) (h2 : ms.length ≤ 100000) (q : Q (.bl (decide (ns = ms))) H) : rEqU K (.ref a) (.ref b) H Q := by
  have dec : Decidable (PyData.list (ns.map PyData.int) = .list (ms.map PyData.int)) := Classical.propDecidable _
  refine w_eqD (dec := dec) (.lst ha ((TpAll.of_ints H ns).dv)) (.lst hb ((TpAll.of_ints H ms).dv)) (flat_listI h1) (flat_listI h2) (pure_listI _) (pure_listI _) ?_
  have e : decide (PyData.list (ns.map PyData.int) = .list (ms.map PyData.int)) = decide (ns = ms) := by
    rw [decide_eq_decide]
    exact ⟨fun z => by injection z with z; exact map_int_inj z, fun z => by rw [z]⟩
  rw [e]
  exact q
theorem w_neLI {K : PySem.W.Frag} {H : Hp} {Q : VK} {a b : Addr} {ns ms : List Int} (ha : H a = some (.lst (ns.map V.int))) (hb : H b = some (.lst (ms.map V.int))) (h1 : ns.length ≤ 100000) (h2 : ms.length ≤ 100000) (q : Q (.bl (!decide (ns = ms))) H) : rNeU K (.ref a) (.ref b) H Q := by
  have dec : Decidable (PyData.list (ns.map PyData.int) = .list (ms.map PyData.int)) := Classical.propDecidable _
  refine w_neD (dec := dec) (.lst ha ((TpAll.of_ints H ns).dv)) (.lst hb ((TpAll.of_ints H ms).dv)) (flat_listI h1) (flat_listI h2) (pure_listI _) (pure_listI _) ?_
  have e : decide (PyData.list (ns.map PyData.int) = .list (ms.map PyData.int)) = decide (ns = ms) := by
    rw [decide_eq_decide]
    exact ⟨fun z => by injection z with z; exact map_int_inj z, fun z => by rw [z]⟩
  rw [e]
  exact q
/-! ### isinstance of a tuple of classes -/
theorem kitAny_ty {K : PySem.W.Frag} {a : String} : ∀ (ns : List String), (∀ n ∈ ns, n ∈ tyNames) → a ∈ ["NoneType", "int", "bool", "str", "tuple", "list", "dict"] → PySem.W.kitAny K (.type a) (ns.map Value.type) = some (ns.any fun n => tyTab a n)
  | [], _, _ => kitAny_nil
  | n :: ns, h, m => by
    have e := kit_ty (K := K) (tyTab_all a m n (h n (List.mem_cons_self ..)))
    have ih := kitAny_ty (K := K) ns (fun x hx => h x (List.mem_cons_of_mem _ hx)) m
    rw [List.map_cons, List.any_cons]
    cases hb : tyTab a n with
    | true => exact kitAny_cons (b := true) (by rw [e, hb]) (fun z => nomatch z) (fun _ => rfl)
    | false => exact kitAny_cons (b := false) (by rw [e, hb]) (fun _ => ih) (fun z => nomatch z)
theorem paired_ty : ∀ ns : List String, Paired ClsV (ns.map V.ty) (ns.map Value.type)
  | [] => .nil
  | n :: ns => .cons (.ty n) (paired_ty ns)
theorem w_isiT {K : PySem.W.Frag} {H : Hp} {v : V} {tp : Addr} {ns : List String} {Q : VK} (h : Tag K H v) (ht : H tp = some (.tup (ns.map V.ty))) (hn : ∀ n ∈ ns, n ∈ tyNames) (q : Q (.bl (ns.any fun n => isTy H n v)) H) : rIsiT K [v, .ref tp] H Q := by
  have key : ∀ (a : String), TyX K H v (.type a) → tyN H v = a → a ∈ ["NoneType", "int", "bool", "str", "tuple", "list", "dict"] → rIsiT K [v, .ref tp] H Q := fun a t e m =>
    ⟨v, tp, _, .type a, _, _, rfl, ht, paired_ty ns, t, kitAny_ty ns hn m, by unfold isTy at q; rw [e] at q; exact q⟩
  cases h with
  | non => exact key "NoneType" (.base .non) rfl (by decide)
  | bl b => exact key "bool" (.base (.bl b)) rfl (by decide)
  | int i => exact key "int" (.base (.int i)) rfl (by decide)
  | str x => exact key "str" (.base (.str x)) rfl (by decide)
  | lst h => exact key "list" (.base (.lst h)) (by simp only [tyN, h]) (by decide)
  | tup h => exact key "tuple" (.base (.tup h)) (by simp only [tyN, h]) (by decide)
  | dK h => exact key "dict" (.base (.dK h)) (by simp only [tyN, h]) (by decide)
theorem w_slL {K : PySem.W.Frag} {H : Hp} {Q : VK} {a : Addr} {xs : List V} {lo hi : Option Int} (ha : H a = some (.lst xs)) (h : ∀ p H', H p = none → Same H H' → H' p = some (.lst (cutV xs lo hi)) → Q (.ref p) H') : rSlU K (.ref a) lo hi H Q := .inl ⟨a, xs, rfl, SqL.of ha, alloc h⟩
/-! ### the law's top -/
theorem R.tle {r : R} (ok : r.ok) {m : Int} (h : 2 ≤ m) (h2 : m ≤ 1000000000000000000000000000000) : 2 ≤ r.topm m ∧ r.topm m ≤ m ∧ r.topm m ≤ r.top := by
  cases r with
  | tab rows =>
    obtain ⟨h1, _, _⟩ := ok
    simp only [R.topm, R.top]
    split <;> omega
  | trm ts => exact ⟨h, Int.le_refl _, h2⟩

local macro_rules | `(tactic| walk_at "s") => `(tactic| with_reducible first
  | refine w_prs ?_ | refine w_star ?_ | refine w_metS ?_)
/-! ### ways -/
inductive Wy where
  | one
  | two (l r : Wy)
def Wy.data : Wy → PyData
  | .one => .int 1
  | .two l r => .tuple [l.data, r.data]
def Wy.things : Wy → Nat
  | .one => 1
  | .two l r => l.things + r.things
theorem Wy.pos : ∀ w : Wy, 1 ≤ w.things
  | .one => Nat.le_refl _
  | .two l r => by have := l.pos; show 1 ≤ l.things + r.things; omega
theorem Wy.inj : ∀ (w w' : Wy), w.data = w'.data → w' = w
  | .one, .one, _ => rfl
  | .one, .two _ _, h => nomatch h
  | .two _ _, .one, h => nomatch h
  | .two l r, .two l' r', h => by
    have h' : PyData.tuple [l.data, r.data] = .tuple [l'.data, r'.data] := h
    injection h' with h'
    injection h' with h1 h'
    injection h' with h2 _
    rw [l.inj l' h1, r.inj r' h2]
/-- how many things are in a value, with so much depth -/
def thN : Nat → PyData → Int
  | 0, _ => 0
  | _ + 1, .int k => if k = 1 then 1 else 0
  | n + 1, .tuple [a, b] => if 0 < thN n a then (if 0 < thN n b then thN n a + thN n b else 0) else 0
  | _ + 1, _ => 0
/-- pairs within pairs, less deep than n -/
def dN : Nat → PyData → Bool
  | 0, _ => false
  | n + 1, .tuple [a, b] => dN n a && dN n b
  | _ + 1, _ => true
theorem Wy.dN : ∀ (w : Wy) {n : Nat}, w.things ≤ n → dN n w.data = true
  | .one, 0, h => absurd h (by decide)
  | .one, n + 1, _ => rfl
  | .two l r, 0, h => by have := l.pos; have : l.things + r.things ≤ 0 := h; omega
  | .two l r, n + 1, h => by
    have h1 := l.pos
    have h2 := r.pos
    have h' : l.things + r.things ≤ n + 1 := h
    show (Spt.dN n l.data && Spt.dN n r.data) = true
    rw [l.dN (by omega), r.dN (by omega)]
    rfl
theorem Wy.thN : ∀ (w : Wy) {n : Nat}, w.things ≤ n → thN n w.data = w.things
  | .one, 0, h => absurd h (by decide)
  | .one, n + 1, _ => rfl
  | .two l r, 0, h => by have := l.pos; have : l.things + r.things ≤ 0 := h; omega
  | .two l r, n + 1, h => by
    have h1 := l.pos
    have h2 := r.pos
    have h' : l.things + r.things ≤ n + 1 := h
    show (if 0 < Spt.thN n l.data then (if 0 < Spt.thN n r.data then Spt.thN n l.data + Spt.thN n r.data else 0) else 0) = ((l.things + r.things : Nat) : Int)
    rw [l.thN (by omega), r.thN (by omega), if_pos (by omega), if_pos (by omega)]
    omega
theorem w_int1b {H : Hp} {Q : VK} {b : Bool} (h : Q (.int (if b then 1 else 0)) H) : rInt1 [.bl b] H Q := .inr ⟨b, rfl, h⟩
def spn_things_in (Γ : Gm) (n : Nat) : Sp := fun vs H Q _ => ∃ x d, vs = [x] ∧ Dv H x d ∧ dN n d = true ∧ Q (.int (thN n d)) H
def sp_things_in (Γ : Gm) : Sp := spn_things_in Γ 45
/-- things_in: value, first, second -/
def t_things_in (Γ : Gm) (n : Nat) : TS := (tSeq (tIfS (tB (tCal (sp_is_integer Γ) E0 (tCons (tVar 0) tNil))) (tRet (tCB rInt1 (tCons (tOp (rEqU Γ.K) (tVar 0) (tC (.int 1))) tNil))) tNext)
  (tSeq (tIfS (tOr (tNot (tB (tCB (rIsi Γ.K) (tCons (tVar 0) (tCons (tC (.ty "tuple")) tNil))))) (tTest (tOp (rNeU Γ.K) (tCB (rLen Γ.K) (tCons (tVar 0) tNil)) (tC (.int 2))))) (tRet (tC (.int 0))) tNext)
  (tSeq (tAsg (tCal (spn_things_in Γ n) E0 (tCons (tOp (rIx Γ.K) (tVar 0) (tC (.int 0))) tNil)) (gName 1))
  (tSeq (tAsg (tIf (tTest (tOp rGt (tVar 1) (tC (.int 0)))) (tCal (spn_things_in Γ n) E0 (tCons (tOp (rIx Γ.K) (tVar 0) (tC (.int 1))) tNil)) (tC (.int 0))) (gName 2))
  (tRet (tIf (tTest (tOp rGt (tVar 2) (tC (.int 0)))) (tOp (rAddU Γ.K) (tVar 1) (tVar 2)) (tC (.int 0))))))))
theorem rd0_things_in (Γ : Gm) (vs : List V) (H : Hp) (Q : VK) (E : XK) (h : spn_things_in Γ 0 vs H Q E) : False := by
  obtain ⟨x, d, _, _, h, _⟩ := h
  unfold dN at h
  cases h
theorem rd_things_in (Γ : Gm) (n : Nat) (vs : List V) (H : Hp) (Q : VK) (E : XK) (h : spn_things_in Γ (n + 1) vs H Q E) : t_things_in Γ n ⟨fun _ H' => Q .non H', Q, fun _ _ => False, fun _ _ => False⟩ (startN 3 vs) H := by
  obtain ⟨x, d, rfl, hd, hn, q⟩ := h
  unfold t_things_in
  walk_at "ss"
  refine ⟨x, rfl, hd.tag, ?_⟩
  walk_at "ss"
  by_cases other : isI x = false ∧ tyTab (tyD d) "tuple" = false ∧ thN (n + 1) d = 0
  · obtain ⟨h1, h2, h3⟩ := other
    rw [h1]
    walk_at "ss"
    refine w_isi hd.tag (by decide) ?_
    rw [hd.ty, h2]
    walk_at "ss"
    rw [← h3]
    exact q
  cases d with
  | int k =>
    have e := dv_int hd
    subst e
    rw [show isI (V.int k) = true from rfl]
    walk_at "ss"
    refine w_int1b ?_
    have : (if decide (k = 1) = true then (1 : Int) else 0) = thN (n + 1) (.int k) := by
      show _ = if k = 1 then (1 : Int) else 0
      by_cases e : k = 1
      · rw [if_pos e, if_pos (decide_eq_true e)]
      · rw [if_neg e, if_neg (by rw [decide_eq_false e]; decide)]
    rw [this]
    exact q
  | none => exact absurd ⟨by cases hd; rfl, by simp [tyD, tyTab], rfl⟩ other
  | bool b => exact absurd ⟨by cases hd; rfl, by simp [tyD, tyTab], rfl⟩ other
  | str b => exact absurd ⟨by cases hd; rfl, by simp [tyD, tyTab], rfl⟩ other
  | list b => exact absurd ⟨by cases hd; rfl, by simp [tyD, tyTab], rfl⟩ other
  | dict b => exact absurd ⟨by cases hd; rfl, by simp [tyD, tyTab], rfl⟩ other
  | tuple ds =>
    clear other
    obtain ⟨a, xs, rfl, ha, ta⟩ := hd.tupInv
    rw [show isI (V.ref a) = false from rfl]
    walk_at "ss"
    refine w_isi hd.tag (by decide) ?_
    rw [hd.ty, show tyTab (tyD (.tuple ds)) "tuple" = true from by simp [tyD, tyTab]]
    walk_at "ss"
    refine w_lenT (SqT.of ha) ?_
    walk_at "ss"
    have hl := ta.length
    match ds, ta, hl, q, hn with
    | [], _, hl, q, _ =>
      rw [hl]
      refine w_ifY rfl ?_
      walk_at "ss"
      exact q
    | [_], _, hl, q, _ =>
      rw [hl]
      refine w_ifY rfl ?_
      walk_at "ss"
      exact q
    | _ :: _ :: _ :: ds', _, hl, q, _ =>
      rw [hl]
      refine w_ifY (by simp only [List.length_cons]; rw [decide_eq_false (by omega)]; rfl) ?_
      walk_at "ss"
      exact q
    | [d1, d2], ta, hl, q, hn =>
      rw [hl]
      refine w_ifN rfl ?_
      walk_at "ss"
      have hn' : dN n d1 = true ∧ dN n d2 = true := by
        have : (dN n d1 && dN n d2) = true := hn
        rwa [Bool.and_eq_true] at this
      obtain ⟨x1, g1, t1⟩ := ta.get (i := 0) rfl
      obtain ⟨x2, g2, t2⟩ := ta.get (i := 1) rfl
      have q' : Q (.int (if 0 < thN n d1 then (if 0 < thN n d2 then thN n d1 + thN n d2 else 0) else 0)) H := q
      refine w_ixT (SqT.of ha) (atI_of (by decide) g1) ?_
      walk_at "ss"
      refine ⟨x1, d1, rfl, t1, hn'.1, ?_⟩
      walk_at "ss"
      refine w_ite (fun e => ?_) (fun e => ?_)
      · rw [if_pos (of_decide_eq_true e)] at q'
        walk_at "ss"
        refine w_ixT (SqT.of ha) (atI_of (by decide) g2) ?_
        walk_at "ss"
        refine ⟨x2, d2, rfl, t2, hn'.2, ?_⟩
        walk_at "ss"
        refine w_ite (fun e2 => ?_) (fun e2 => ?_)
        · rw [if_pos (of_decide_eq_true e2)] at q'
          walk_at "ss"
          exact q'
        · rw [if_neg (of_decide_eq_false e2)] at q'
          walk_at "ss"
          exact q'
      · rw [if_neg (of_decide_eq_false e)] at q'
        walk_at "ss"
        exact q'

/-! ### is_way and what asks it -/
def wayB (d : PyData) : Bool := decide (1 ≤ thN 45 d) && decide (thN 45 d ≤ 40)
theorem thN_inv : ∀ (n : Nat) (d : PyData), 0 < thN n d → ∃ w : Wy, d = w.data ∧ (w.things : Int) = thN n d
  | 0, _, h => absurd h (by unfold thN; decide)
  | n + 1, .int k, h => by
    have h' : 0 < (if k = 1 then (1 : Int) else 0) := h
    by_cases e : k = 1
    · subst e
      exact ⟨.one, rfl, rfl⟩
    · rw [if_neg e] at h'
      exact absurd h' (by decide)
  | n + 1, .tuple [a, b], h => by
    have h' : 0 < (if 0 < thN n a then (if 0 < thN n b then thN n a + thN n b else 0) else 0) := h
    by_cases e1 : 0 < thN n a
    · by_cases e2 : 0 < thN n b
      · obtain ⟨w1, rfl, t1⟩ := thN_inv n a e1
        obtain ⟨w2, rfl, t2⟩ := thN_inv n b e2
        refine ⟨.two w1 w2, rfl, ?_⟩
        show ((w1.things + w2.things : Nat) : Int) = (if 0 < thN n w1.data then (if 0 < thN n w2.data then thN n w1.data + thN n w2.data else 0) else 0)
        rw [if_pos e1, if_pos e2, ← t1, ← t2]
        omega
      · rw [if_pos e1, if_neg e2] at h'
        exact absurd h' (by decide)
    · rw [if_neg e1] at h'
      exact absurd h' (by decide)
  | n + 1, .none, h => absurd h (by unfold thN; decide)
  | n + 1, .bool _, h => absurd h (by unfold thN; decide)
  | n + 1, .str _, h => absurd h (by unfold thN; decide)
  | n + 1, .list _, h => absurd h (by unfold thN; decide)
  | n + 1, .dict _, h => absurd h (by unfold thN; decide)
  | n + 1, .tuple [], h => absurd h (by unfold thN; decide)
  | n + 1, .tuple [_], h => absurd h (by unfold thN; decide)
  | n + 1, .tuple (_ :: _ :: _ :: _), h => absurd h (by unfold thN; decide)
theorem wayB_inv {d : PyData} (h : wayB d = true) : ∃ w : Wy, d = w.data ∧ w.things ≤ 40 := by
  unfold wayB at h
  rw [Bool.and_eq_true, decide_eq_true_eq, decide_eq_true_eq] at h
  obtain ⟨w, h1, h2⟩ := thN_inv 45 d (by omega)
  exact ⟨w, h1, by omega⟩
theorem Wy.wayB (w : Wy) (h : w.things ≤ 40) : wayB w.data = true := by
  have := w.pos
  unfold Spt.wayB
  rw [w.thN (n := 45) (by omega), decide_eq_true (by omega), decide_eq_true (by omega)]
  rfl
theorem Wy.wide (w : Wy) (h : 40 < w.things) (h2 : w.things ≤ 45) : Spt.wayB w.data = false := by
  unfold Spt.wayB
  rw [w.thN (n := 45) (by omega), decide_eq_false (show ¬ ((w.things : Int) ≤ 40) by omega), Bool.and_false]
theorem Wy.tp {H : Hp} : ∀ (w : Wy) {x : V}, Dv H x w.data → Tp H x w.data
  | .one, _, h => by cases h; exact .int 1
  | .two l r, _, h => by
    cases h with
    | tup g k =>
      cases k with
      | cons h1 k =>
        cases k with
        | cons h2 k =>
          cases k
          exact .tup g (.cons (l.tp h1) (.cons (r.tp h2) .nil))
def sp_is_way (Γ : Gm) : Sp := fun vs H Q _ => ∃ x d, vs = [x] ∧ Dv H x d ∧ dN 45 d = true ∧ Q (.bl (wayB d)) H
/-- is_way: value -/
def t_is_way (Γ : Gm) : TS := (tRet (tChain rLe rLe (tC (.int 1)) (tCal (sp_things_in Γ) E0 (tCons (tVar 0) tNil)) (tC (.int 40))))
theorem rd_is_way (Γ : Gm) (vs : List V) (H : Hp) (Q : VK) (E : XK) (h : sp_is_way Γ vs H Q E) : t_is_way Γ ⟨fun _ H' => Q .non H', Q, fun _ _ => False, fun _ _ => False⟩ (startN 1 vs) H := by
  obtain ⟨x, d, rfl, hd, hn, q⟩ := h
  unfold t_is_way
  walk_at "ss"
  refine ⟨x, d, rfl, hd, hn, ?_⟩
  walk_at "ss"
  unfold wayB at q
  refine w_ite (fun e => ?_) (fun e => ?_)
  · rw [e, Bool.true_and] at q
    walk_at "ss"
    exact q
  · rw [e, Bool.false_and] at q
    exact q
def sp_check_way (Γ : Gm) : Sp := fun vs H Q E => ∃ x d, vs = [x] ∧ Dv H x d ∧ dN 45 d = true ∧ (wayB d = false → E (.ref Γ.cBadWay) none H) ∧ (wayB d = true → Q .non H)
/-- check_way: way -/
def t_check_way (Γ : Gm) (E : XK) : TS := (tIfS (tNot (tB (tCal (sp_is_way Γ) E0 (tCons (tVar 0) tNil)))) (tRaise Γ.cBadWay (fun cls d _ H => E cls d H)) tNext)
theorem rd_check_way (Γ : Gm) (vs : List V) (H : Hp) (Q : VK) (E : XK) (h : sp_check_way Γ vs H Q E) : t_check_way Γ E ⟨fun _ H' => Q .non H', Q, fun _ _ => False, fun _ _ => False⟩ (startN 1 vs) H := by
  obtain ⟨x, d, rfl, hd, hn, k1, k2⟩ := h
  unfold t_check_way
  walk_at "ss"
  refine ⟨x, d, rfl, hd, hn, ?_⟩
  walk_at "ss"
  refine w_ite (fun e => ?_) (fun e => ?_)
  · walk_at "ss"
    exact k1 (by simpa using e)
  · walk_at "ss"
    exact k2 (by simpa using e)
def sp_heap_of (Γ : Gm) : Sp := fun vs H Q E => ∃ x d, vs = [x] ∧ Dv H x d ∧ dN 45 d = true ∧ (wayB d = false → E (.ref Γ.cBadWay) none H) ∧ (wayB d = true → Q (.int (thN 45 d)) H)
/-- heap_of: way -/
def t_heap_of (Γ : Gm) (E : XK) : TS := (tSeq (tDrop (tCal (sp_check_way Γ) E (tCons (tVar 0) tNil)))
  (tRet (tCal (sp_things_in Γ) E0 (tCons (tVar 0) tNil))))
theorem rd_heap_of (Γ : Gm) (vs : List V) (H : Hp) (Q : VK) (E : XK) (h : sp_heap_of Γ vs H Q E) : t_heap_of Γ E ⟨fun _ H' => Q .non H', Q, fun _ _ => False, fun _ _ => False⟩ (startN 1 vs) H := by
  obtain ⟨x, d, rfl, hd, hn, k1, k2⟩ := h
  unfold t_heap_of
  walk_at "ss"
  refine ⟨x, d, rfl, hd, hn, k1, fun e => ?_⟩
  walk_at "ss"
  exact ⟨x, d, rfl, hd, hn, k2 e⟩
/-! ### the splits of a way -/
def Wy.splits : Wy → List (Nat × Nat)
  | .one => []
  | .two l r => (l.things, r.things) :: (l.splits ++ r.splits)
theorem Wy.splits_len : ∀ w : Wy, w.splits.length + 1 = w.things
  | .one => rfl
  | .two l r => by
    show ((l.things, r.things) :: (l.splits ++ r.splits)).length + 1 = l.things + r.things
    have h1 := l.splits_len
    have h2 := r.splits_len
    rw [List.length_cons, List.length_append]
    omega
theorem Wy.splits_ok : ∀ (w : Wy) (p : Nat × Nat), p ∈ w.splits → 1 ≤ p.1 ∧ 1 ≤ p.2 ∧ p.1 + p.2 ≤ w.things
  | .one, _, h => nomatch h
  | .two l r, p, h => by
    have h' : p ∈ (l.things, r.things) :: (l.splits ++ r.splits) := h
    have e : (Wy.two l r).things = l.things + r.things := rfl
    rw [List.mem_cons, List.mem_append] at h'
    rcases h' with rfl | h' | h'
    · exact ⟨l.pos, r.pos, Nat.le_refl _⟩
    · have := l.splits_ok p h'
      omega
    · have := r.splits_ok p h'
      omega
def prD (p : Nat × Nat) : PyData := .tuple [.int p.1, .int p.2]
def spn_splits_of (Γ : Gm) (n : Nat) : Sp := fun vs H Q _ => ∃ x w, vs = [x] ∧ Tp H x (Wy.data w) ∧ w.things ≤ n ∧ w.things ≤ 45 ∧ ∀ l xs H', Same H H' → H l = none → H' l = some (.lst xs) → TpAll H' xs (w.splits.map prD) → Q (.ref l) H'
def sp_splits_of (Γ : Gm) : Sp := spn_splits_of Γ 45
/-- splits_of: way -/
def t_splits_of (Γ : Gm) (n : Nat) : TS := (tSeq (tIfS (tNot (tB (tCB (rIsi Γ.K) (tCons (tVar 0) (tCons (tC (.ty "tuple")) tNil))))) (tRet (tLst tNil)) tNext)
  (tRet (tLst (tCons (tTup (tCons (tCal (sp_things_in Γ) E0 (tCons (tOp (rIx Γ.K) (tVar 0) (tC (.int 0))) tNil)) (tCons (tCal (sp_things_in Γ) E0 (tCons (tOp (rIx Γ.K) (tVar 0) (tC (.int 1))) tNil)) tNil))) (StX.tStar Γ.K (tCal (spn_splits_of Γ n) E0 (tCons (tOp (rIx Γ.K) (tVar 0) (tC (.int 0))) tNil)) (StX.tStar Γ.K (tCal (spn_splits_of Γ n) E0 (tCons (tOp (rIx Γ.K) (tVar 0) (tC (.int 1))) tNil)) tNil))))))
theorem rd0_splits_of (Γ : Gm) (vs : List V) (H : Hp) (Q : VK) (E : XK) (h : spn_splits_of Γ 0 vs H Q E) : False := by
  obtain ⟨x, w, _, _, h, _⟩ := h
  have := w.pos
  omega
theorem rd_splits_of (Γ : Gm) (n : Nat) (vs : List V) (H : Hp) (Q : VK) (E : XK) (h : spn_splits_of Γ (n + 1) vs H Q E) : t_splits_of Γ n ⟨fun _ H' => Q .non H', Q, fun _ _ => False, fun _ _ => False⟩ (startN 1 vs) H := by
  obtain ⟨x, w, rfl, hx, hn, h45, k⟩ := h
  unfold t_splits_of
  walk_at "ss"
  refine w_isi hx.tag (by decide) ?_
  rw [hx.dv.ty]
  cases w with
  | one =>
    rw [show tyTab (tyD (Wy.one).data) "tuple" = false from by simp [Wy.data, tyD, tyTab]]
    walk_at "ss"
    refine n_lst fun l H1 f1 e1 g1 => ?_
    exact k l [] H1 e1 f1 g1 .nil
  | two l r =>
    rw [show tyTab (tyD (Wy.two l r).data) "tuple" = true from by simp [Wy.data, tyD, tyTab]]
    have p1 := l.pos
    have p2 := r.pos
    have hn' : l.things + r.things ≤ n + 1 := hn
    have h45' : l.things + r.things ≤ 45 := h45
    obtain ⟨a, xs, rfl, ha, ta⟩ := hx.inv
    obtain ⟨x1, g1, t1⟩ := ta.get (i := 0) rfl
    obtain ⟨x2, g2, t2⟩ := ta.get (i := 1) rfl
    walk_at "ss"
    refine w_ixT (SqT.of ha) (atI_of (by decide) g1) ?_
    walk_at "ss"
    refine ⟨x1, _, rfl, t1.dv, l.dN (by omega), ?_⟩
    rw [l.thN (by omega)]
    walk_at "ss"
    refine w_ixT (SqT.of ha) (atI_of (by decide) g2) ?_
    walk_at "ss"
    refine ⟨x2, _, rfl, t2.dv, r.dN (by omega), ?_⟩
    rw [r.thN (by omega)]
    walk_at "ss"
    refine n_tup fun q H1 f1 e1 q1 => ?_
    walk_at "ss"
    refine w_ixT (SqT.of (e1 _ _ ha)) (atI_of (by decide) g1) ?_
    walk_at "ss"
    refine ⟨x1, l, rfl, t1.mono e1.tups, by omega, by omega, fun l1 xs1 H2 e2 f2 q2 tt2 => ?_⟩
    refine ⟨l1, xs1, rfl, .inr (SqL.of q2), ?_⟩
    walk_at "ss"
    refine w_ixT (SqT.of ((e1.trans e2) _ _ ha)) (atI_of (by decide) g2) ?_
    walk_at "ss"
    refine ⟨x2, r, rfl, t2.mono (e1.trans e2).tups, by omega, by omega, fun l2 xs2 H3 e3 f3 q3 tt3 => ?_⟩
    refine ⟨l2, xs2, rfl, .inr (SqL.of q3), ?_⟩
    walk_at "ss"
    have z1 := tt2.length
    have z2 := tt3.length
    have s1 := l.splits_len
    have s2 := r.splits_len
    rw [List.length_map] at z1 z2
    refine n_lst (hz := by simp only [List.length_cons, List.length_append, List.length_nil]; exact Nat.le_trans (m := 1000) (by omega) (by decide)) fun l3 H4 f4 e4 q4 => ?_
    refine k l3 _ H4 (e1.trans (e2.trans (e3.trans e4))) ?_ q4 ?_
    · exact (e1.trans (e2.trans e3)).free f4
    · rw [List.append_nil]
      show TpAll H4 _ (prD (l.things, r.things) :: ((l.splits ++ r.splits).map prD))
      rw [List.map_append]
      refine .cons (.tup ((e2.trans (e3.trans e4)) _ _ q1) (.cons (.int _) (.cons (.int _) .nil))) ((tt2.mono (e3.trans e4).tups).append (tt3.mono e4.tups))

/-! ### rows and sums of a way -/
def R.row (r : R) (w : Wy) : List Int := w.splits.map fun p => r.pts p.1 p.2
theorem R.row_len (r : R) (w : Wy) : (r.row w).length + 1 = w.things := by
  unfold R.row
  rw [List.length_map]
  exact w.splits_len
def sp_row_by (Γ : Gm) : Sp := fun vs H Q _ => ∃ v r x w, vs = [v, x] ∧ RuleAt Γ H v r ∧ Tp H x (Wy.data w) ∧ w.things ≤ 45 ∧ (w.things : Int) ≤ r.top ∧ ∀ l H', Same H H' → H l = none → H' l = some (.lst ((r.row w).map V.int)) → Q (.ref l) H'
/-- row_by: rule, way, first, second -/
def t_row_by (Γ : Gm) : TS := (tRet (tLc (iSeq Γ.K (tCal (sp_splits_of Γ) E0 (tCons (tVar 1) tNil))) (gTup Γ.K 2 (gCons (gName 2) (gCons (gName 3) gNil))) tYes (tCal (sp_points_by Γ) E0 (tCons (tVar 0) (tCons (tVar 2) (tCons (tVar 3) tNil)))) [2, 3]))
theorem rd_row_by (Γ : Gm) (vs : List V) (H : Hp) (Q : VK) (E : XK) (h : sp_row_by Γ vs H Q E) : t_row_by Γ ⟨fun _ H' => Q .non H', Q, fun _ _ => False, fun _ _ => False⟩ (startN 4 vs) H := by
  obtain ⟨v, r, x, w, rfl, hr, hx, hw, ht, k⟩ := h
  unfold t_row_by
  walk_at "ss"
  refine ⟨x, w, rfl, hx, hw, hw, fun l xs H1 e1 f1 g1 t1 => ?_⟩
  refine k_seqL (SqL.of g1) ?_
  have hl := t1.length
  rw [List.length_map] at hl
  have hs := w.splits_len
  refine k_lcList (fun i acc H' => acc = ((w.splits.take i).map fun p => V.int (r.pts p.1 p.2))) (SqL.of g1) (fun _ _ => rfl) ?_ ?_
  · rintro i y D acc H2 hi hD e2 hacc rfl
    obtain ⟨d, hd, ty⟩ := t1.get' hi
    rw [List.getElem?_map] at hd
    obtain ⟨p, hp, rfl⟩ := Option.map_eq_some_iff.mp hd
    obtain ⟨c, zs, rfl, hc, tc⟩ := ty.inv
    have ez : zs = [V.int p.1, V.int p.2] := by
      have := TpAll.ints (ns := [(p.1 : Int), (p.2 : Int)]) tc
      exact this
    subst ez
    refine w_gTup (SqT.of (e2 _ _ hc)) rfl ?_
    walk_at "ss"
    refine ⟨rfl, ?_⟩
    walk_at "ss"
    obtain ⟨b1, b2, b3⟩ := w.splits_ok p (List.mem_of_getElem? hp)
    refine ⟨v, r, p.1, p.2, rfl, hr.mono (e1.trans e2), by omega, by omega, by omega, fun H3 e3 => ?_⟩
    have hi' : i < w.splits.length := (List.getElem?_eq_some_iff.mp hp).1
    refine lcTurn.mk hD (e2.trans e3) (e3 _ _ hacc) (by rw [List.length_map, List.length_take]; omega) ?_
    rw [take_succ hp, List.map_append]
    rfl
  · rintro D acc H2 hD e2 hacc rfl
    rw [hl, List.take_length] at hacc
    refine k D H2 (e1.trans e2) (e1.free hD) ?_
    rw [hacc]
    unfold R.row
    rw [List.map_map]
    rfl
structure WayK (Γ : Gm) (r : R) (d : PyData) (H : Hp) (E : XK) : Prop where
  bad : wayB d = false → E (.ref Γ.cBadWay) none H
  wide : wayB d = true → r.top < thN 45 d → E (.ref Γ.cBadHeap) none H
def sp_check_way_of (Γ : Gm) : Sp := fun vs H Q E => ∃ v r x d, vs = [v, x] ∧ RuleAt Γ H v r ∧ Dv H x d ∧ dN 45 d = true ∧ WayK Γ r d H E ∧ (wayB d = true → thN 45 d ≤ r.top → Q .non H)
/-- check_way_of: rule, way -/
def t_check_way_of (Γ : Gm) (E : XK) : TS := (tSeq (tDrop (tCal (sp_check_way Γ) E (tCons (tVar 1) tNil)))
  (tIfS (tTest (tOp rGt (tCal (sp_things_in Γ) E0 (tCons (tVar 1) tNil)) (tCal (sp_most_of Γ) E0 (tCons (tVar 0) tNil)))) (tRaise Γ.cBadHeap (fun cls d _ H => E cls d H)) tNext))
theorem rd_check_way_of (Γ : Gm) (vs : List V) (H : Hp) (Q : VK) (E : XK) (h : sp_check_way_of Γ vs H Q E) : t_check_way_of Γ E ⟨fun _ H' => Q .non H', Q, fun _ _ => False, fun _ _ => False⟩ (startN 2 vs) H := by
  obtain ⟨v, r, x, d, rfl, hr, hx, hn, ⟨k1, k2⟩, k3⟩ := h
  unfold t_check_way_of
  walk_at "ss"
  refine ⟨x, d, rfl, hx, hn, k1, fun e => ?_⟩
  walk_at "ss"
  refine ⟨x, d, rfl, hx, hn, ?_⟩
  walk_at "ss"
  refine ⟨v, r, rfl, hr, ?_⟩
  walk_at "ss"
  refine w_ite (fun e2 => ?_) (fun e2 => ?_)
  · walk_at "ss"
    exact k2 e (of_decide_eq_true e2)
  · walk_at "ss"
    exact k3 e (by have := of_decide_eq_false e2; omega)
def sp_row_of (Γ : Gm) : Sp := fun vs H Q E => ∃ v r x d, vs = [v, x] ∧ RuleAt Γ H v r ∧ Dv H x d ∧ dN 45 d = true ∧ WayK Γ r d H E ∧ ∀ w, d = Wy.data w → w.things ≤ 40 → (w.things : Int) ≤ r.top → ∀ l H', Same H H' → H l = none → H' l = some (.lst ((r.row w).map V.int)) → Q (.ref l) H'
def sp_sum_of (Γ : Gm) : Sp := fun vs H Q E => ∃ v r x d, vs = [v, x] ∧ RuleAt Γ H v r ∧ Dv H x d ∧ dN 45 d = true ∧ WayK Γ r d H E ∧ ∀ w, d = Wy.data w → w.things ≤ 40 → (w.things : Int) ≤ r.top → ∀ H', Same H H' → Q (.int (r.row w).sum) H'
/-- row_of: rule, way -/
def t_row_of (Γ : Gm) (E : XK) : TS := (tSeq (tDrop (tCal (sp_check_way_of Γ) E (tCons (tVar 0) (tCons (tVar 1) tNil))))
  (tRet (tCal (sp_row_by Γ) E0 (tCons (tVar 0) (tCons (tVar 1) tNil)))))
theorem rd_row_of (Γ : Gm) (vs : List V) (H : Hp) (Q : VK) (E : XK) (h : sp_row_of Γ vs H Q E) : t_row_of Γ E ⟨fun _ H' => Q .non H', Q, fun _ _ => False, fun _ _ => False⟩ (startN 2 vs) H := by
  obtain ⟨v, r, x, d, rfl, hr, hx, hn, hk, k⟩ := h
  unfold t_row_of
  walk_at "ss"
  refine ⟨v, r, x, d, rfl, hr, hx, hn, hk, fun e1 e2 => ?_⟩
  obtain ⟨w, rfl, h40⟩ := wayB_inv e1
  rw [w.thN (by omega)] at e2
  walk_at "ss"
  exact ⟨v, r, x, w, rfl, hr, w.tp hx, by omega, e2, k w rfl h40 e2⟩
/-- sum_of: rule, way -/
def t_sum_of (Γ : Gm) (E : XK) : TS := (tSeq (tDrop (tCal (sp_check_way_of Γ) E (tCons (tVar 0) (tCons (tVar 1) tNil))))
  (tRet (tCB (rSum Γ.K) (tCons (tCal (sp_row_by Γ) E0 (tCons (tVar 0) (tCons (tVar 1) tNil))) tNil))))
theorem rd_sum_of (Γ : Gm) (vs : List V) (H : Hp) (Q : VK) (E : XK) (h : sp_sum_of Γ vs H Q E) : t_sum_of Γ E ⟨fun _ H' => Q .non H', Q, fun _ _ => False, fun _ _ => False⟩ (startN 2 vs) H := by
  obtain ⟨v, r, x, d, rfl, hr, hx, hn, hk, k⟩ := h
  unfold t_sum_of
  walk_at "ss"
  refine ⟨v, r, x, d, rfl, hr, hx, hn, hk, fun e1 e2 => ?_⟩
  obtain ⟨w, rfl, h40⟩ := wayB_inv e1
  rw [w.thN (by omega)] at e2
  walk_at "ss"
  refine ⟨v, r, x, w, rfl, hr, w.tp hx, by omega, e2, fun l H1 e3 f3 g3 => ?_⟩
  walk_at "ss"
  refine w_sum (SqL.of g3) ?_
  exact k w rfl h40 e2 H1 e3
/-! ### the law's own ways -/
def spn__law_way (Γ : Gm) (n : Nat) : Sp := fun vs H Q _ => ∃ (d : Addr) (m : Int), vs = [.ref d, .int m] ∧ H d = some (dO d) ∧ 1 ≤ m ∧ m ≤ n ∧ m ≤ 45 ∧ ∀ w v H', Same H H' → Tp H' v (Wy.data w) → (w.things : Int) = m → Q v H'
def sp__law_way (Γ : Gm) : Sp := spn__law_way Γ 45
/-- law_way: _law_d, _law_heap, _law_one -/
def t__law_way (Γ : Gm) (n : Nat) : TS := (tSeq (tIfS (tTest (tOp (rEqU Γ.K) (tVar 1) (tC (.int 1)))) (tRet (tC (.int 1))) tNext)
  (tSeq (tAsg (tCal (sp__law_pick Γ) E0 (tCons (tVar 0) (tCons (tLst (tCons (tC (.int 1)) (tCons (tOp rSubI (tVar 1) (tC (.int 1))) (tCons (tOp (rAddU Γ.K) (tC (.int 1)) (tCal (sp__law_below Γ) E0 (tCons (tVar 0) (tCons (tOp rSubI (tVar 1) (tC (.int 1))) tNil)))) tNil)))) tNil))) (gName 2))
  (tRet (tTup (tCons (tCal (spn__law_way Γ n) E0 (tCons (tVar 0) (tCons (tVar 2) tNil))) (tCons (tCal (spn__law_way Γ n) E0 (tCons (tVar 0) (tCons (tOp rSubI (tVar 1) (tVar 2)) tNil))) tNil))))))
theorem rd0__law_way (Γ : Gm) (vs : List V) (H : Hp) (Q : VK) (E : XK) (h : spn__law_way Γ 0 vs H Q E) : False := by
  obtain ⟨d, m, _, _, h1, h2, _⟩ := h
  omega
theorem rd__law_way (Γ : Gm) (n : Nat) (vs : List V) (H : Hp) (Q : VK) (E : XK) (h : spn__law_way Γ (n + 1) vs H Q E) : t__law_way Γ n ⟨fun _ H' => Q .non H', Q, fun _ _ => False, fun _ _ => False⟩ (startN 3 vs) H := by
  obtain ⟨d, m, rfl, hd, h1, h2, h45, k⟩ := h
  unfold t__law_way
  walk_at "ss"
  refine w_ite (fun e => ?_) (fun e => ?_)
  · walk_at "ss"
    have := of_decide_eq_true e
    subst this
    exact k .one _ H (Same.refl H) (.int 1) rfl
  have hm := of_decide_eq_false e
  walk_at "ss"
  refine ⟨d, m - 1, rfl, hd, by omega, by omega, fun q q1 q2 => ?_⟩
  walk_at "ss"
  refine n_lst fun l H1 f1 e1 g1 => ?_
  walk_at "ss"
  refine ⟨d, l, _, rfl, e1 _ _ hd, SqL.of g1, show 0 < 3 from by decide, show 3 ≤ 100000 from by decide, fun i x hi => ?_⟩
  obtain ⟨o, rfl, o1, o2⟩ : ∃ o : Int, x = .int o ∧ 1 ≤ o ∧ o < m := by
    have := List.mem_of_getElem? hi
    simp only [List.mem_cons, List.not_mem_nil, or_false] at this
    rcases this with rfl | rfl | rfl
    · exact ⟨_, rfl, by omega, by omega⟩
    · exact ⟨_, rfl, by omega, by omega⟩
    · exact ⟨_, rfl, by omega, by omega⟩
  walk_at "ss"
  refine ⟨d, o, rfl, e1 _ _ hd, o1, by omega, by omega, fun w1 v1 H2 e2 t1 c1 => ?_⟩
  walk_at "ss"
  refine ⟨d, m - o, rfl, (e1.trans e2) _ _ hd, by omega, by omega, by omega, fun w2 v2 H3 e3 t2 c2 => ?_⟩
  walk_at "ss"
  refine n_tup fun p H4 f4 e4 g4 => ?_
  refine k (.two w1 w2) _ H4 (e1.trans (e2.trans (e3.trans e4))) (.tup g4 (.cons (t1.mono (e3.trans e4).tups) (.cons (t2.mono e4.tups) .nil))) ?_
  show ((w1.things + w2.things : Nat) : Int) = m
  omega
def spn__law_things (Γ : Gm) (n : Nat) : Sp := fun vs H Q _ => ∃ x w, vs = [x] ∧ Tp H x (Wy.data w) ∧ w.things ≤ n ∧ Q (.int w.things) H
def sp__law_things (Γ : Gm) : Sp := spn__law_things Γ 45
/-- law_things: _law_way_here -/
def t__law_things (Γ : Gm) (n : Nat) : TS := (tRet (tIf (tB (tCB (rIsi Γ.K) (tCons (tVar 0) (tCons (tC (.ty "tuple")) tNil)))) (tOp (rAddU Γ.K) (tCal (spn__law_things Γ n) E0 (tCons (tOp (rIx Γ.K) (tVar 0) (tC (.int 0))) tNil)) (tCal (spn__law_things Γ n) E0 (tCons (tOp (rIx Γ.K) (tVar 0) (tC (.int 1))) tNil))) (tC (.int 1))))
theorem rd0__law_things (Γ : Gm) (vs : List V) (H : Hp) (Q : VK) (E : XK) (h : spn__law_things Γ 0 vs H Q E) : False := by
  obtain ⟨x, w, _, _, h, _⟩ := h
  have := w.pos
  omega
theorem rd__law_things (Γ : Gm) (n : Nat) (vs : List V) (H : Hp) (Q : VK) (E : XK) (h : spn__law_things Γ (n + 1) vs H Q E) : t__law_things Γ n ⟨fun _ H' => Q .non H', Q, fun _ _ => False, fun _ _ => False⟩ (startN 1 vs) H := by
  obtain ⟨x, w, rfl, hx, hn, q⟩ := h
  unfold t__law_things
  walk_at "ss"
  refine w_isi hx.tag (by decide) ?_
  rw [hx.dv.ty]
  cases w with
  | one =>
    rw [show tyTab (tyD (Wy.one).data) "tuple" = false from by simp [Wy.data, tyD, tyTab]]
    walk_at "ss"
    exact q
  | two l r =>
    rw [show tyTab (tyD (Wy.two l r).data) "tuple" = true from by simp [Wy.data, tyD, tyTab]]
    have p1 := l.pos
    have p2 := r.pos
    have hn' : l.things + r.things ≤ n + 1 := hn
    obtain ⟨a, xs, rfl, ha, ta⟩ := hx.inv
    obtain ⟨x1, g1, t1⟩ := ta.get (i := 0) rfl
    obtain ⟨x2, g2, t2⟩ := ta.get (i := 1) rfl
    walk_at "ss"
    refine w_ixT (SqT.of ha) (atI_of (by decide) g1) ?_
    walk_at "ss"
    refine ⟨x1, l, rfl, t1, by omega, ?_⟩
    walk_at "ss"
    refine w_ixT (SqT.of ha) (atI_of (by decide) g2) ?_
    walk_at "ss"
    refine ⟨x2, r, rfl, t2, by omega, ?_⟩
    walk_at "ss"
    exact q
def spn__law_row (Γ : Gm) (n : Nat) : Sp := fun vs H Q _ => ∃ v r x w, vs = [v, x] ∧ RuleAt Γ H v r ∧ Tp H x (Wy.data w) ∧ w.things ≤ n ∧ w.things ≤ 45 ∧ (w.things : Int) ≤ r.top ∧ ∀ l H', Same H H' → H l = none → H' l = some (.lst ((r.row w).map V.int)) → Q (.ref l) H'
def sp__law_row (Γ : Gm) : Sp := spn__law_row Γ 45
/-- law_row: _law_rule_here, _law_way_here, _law_own -/
def t__law_row (Γ : Gm) (n : Nat) : TS := (tSeq (tIfS (tNot (tB (tCB (rIsi Γ.K) (tCons (tVar 1) (tCons (tC (.ty "tuple")) tNil))))) (tRet (tLst tNil)) tNext)
  (tSeq (tAsg (tLst (tCons (tCal (sp__law_points Γ) E0 (tCons (tVar 0) (tCons (tCal (sp__law_things Γ) E0 (tCons (tOp (rIx Γ.K) (tVar 1) (tC (.int 0))) tNil)) (tCons (tCal (sp__law_things Γ) E0 (tCons (tOp (rIx Γ.K) (tVar 1) (tC (.int 1))) tNil)) tNil)))) tNil)) (gName 2))
  (tRet (tOp (rAddU Γ.K) (tOp (rAddU Γ.K) (tVar 2) (tCal (spn__law_row Γ n) E0 (tCons (tVar 0) (tCons (tOp (rIx Γ.K) (tVar 1) (tC (.int 0))) tNil)))) (tCal (spn__law_row Γ n) E0 (tCons (tVar 0) (tCons (tOp (rIx Γ.K) (tVar 1) (tC (.int 1))) tNil)))))))
theorem rd0__law_row (Γ : Gm) (vs : List V) (H : Hp) (Q : VK) (E : XK) (h : spn__law_row Γ 0 vs H Q E) : False := by
  obtain ⟨v, r, x, w, _, _, _, h, _⟩ := h
  have := w.pos
  omega
theorem R.row_two (r : R) (a b : Wy) : r.row (.two a b) = r.pts a.things b.things :: (r.row a ++ r.row b) := by
  show ((a.things, b.things) :: (a.splits ++ b.splits)).map _ = _
  rw [List.map_cons, List.map_append]
  rfl
theorem rd__law_row (Γ : Gm) (n : Nat) (vs : List V) (H : Hp) (Q : VK) (E : XK) (h : spn__law_row Γ (n + 1) vs H Q E) : t__law_row Γ n ⟨fun _ H' => Q .non H', Q, fun _ _ => False, fun _ _ => False⟩ (startN 3 vs) H := by
  obtain ⟨v, r, x, w, rfl, hr, hx, hn, h45, ht, k⟩ := h
  unfold t__law_row
  walk_at "ss"
  refine w_isi hx.tag (by decide) ?_
  rw [hx.dv.ty]
  cases w with
  | one =>
    rw [show tyTab (tyD (Wy.one).data) "tuple" = false from by simp [Wy.data, tyD, tyTab]]
    walk_at "ss"
    refine n_lst fun l H1 f1 e1 g1 => ?_
    exact k l H1 e1 f1 g1
  | two a b =>
    rw [show tyTab (tyD (Wy.two a b).data) "tuple" = true from by simp [Wy.data, tyD, tyTab]]
    have p1 := a.pos
    have p2 := b.pos
    have hn' : a.things + b.things ≤ n + 1 := hn
    have h45' : a.things + b.things ≤ 45 := h45
    have ht' : ((a.things + b.things : Nat) : Int) ≤ r.top := ht
    obtain ⟨c, xs, rfl, ha, ta⟩ := hx.inv
    obtain ⟨x1, g1, t1⟩ := ta.get (i := 0) rfl
    obtain ⟨x2, g2, t2⟩ := ta.get (i := 1) rfl
    walk_at "ss"
    refine w_ixT (SqT.of ha) (atI_of (by decide) g1) ?_
    walk_at "ss"
    refine ⟨x1, a, rfl, t1, by omega, ?_⟩
    walk_at "ss"
    refine w_ixT (SqT.of ha) (atI_of (by decide) g2) ?_
    walk_at "ss"
    refine ⟨x2, b, rfl, t2, by omega, ?_⟩
    walk_at "ss"
    refine ⟨v, r, a.things, b.things, rfl, hr, by omega, by omega, by omega, ?_⟩
    walk_at "ss"
    refine n_lst fun l1 H1 f1 e1 q1 => ?_
    walk_at "ss"
    refine w_ixT (SqT.of (e1 _ _ ha)) (atI_of (by decide) g1) ?_
    walk_at "ss"
    refine ⟨v, r, x1, a, rfl, hr.mono e1, t1.mono e1.tups, by omega, by omega, by omega, fun l2 H2 e2 f2 q2 => ?_⟩
    walk_at "ss"
    have z1 := r.row_len a
    have z2 := r.row_len b
    refine w_addL (e2 _ _ q1) q2 (Nat.le_trans (m := 1000) (by simp only [List.length_cons, List.length_nil, List.length_map]; omega) (by decide)) fun l3 H3 f3 e3 q3 => ?_
    walk_at "ss"
    have e13 := e1.trans (e2.trans e3)
    refine w_ixT (SqT.of (e13 _ _ ha)) (atI_of (by decide) g2) ?_
    walk_at "ss"
    refine ⟨v, r, x2, b, rfl, hr.mono e13, t2.mono e13.tups, by omega, by omega, by omega, fun l4 H4 e4 f4 q4 => ?_⟩
    walk_at "ss"
    refine w_addL (e4 _ _ q3) q4 (Nat.le_trans (m := 1000) (by simp only [List.length_append, List.length_cons, List.length_nil, List.length_map]; omega) (by decide)) fun l5 H5 f5 e5 q5 => ?_
    refine k l5 H5 (e13.trans (e4.trans e5)) ((e13.trans e4).free f5) ?_
    rw [q5, R.row_two, List.map_cons, List.map_append]
    rfl

/-! ### ways turned -/
def turnTop (l r : Wy) : Nat → Option Wy
  | 0 => match l with
    | .two a b => some (.two a (.two b r))
    | .one => none
  | 1 => match r with
    | .two a b => some (.two (.two l a) b)
    | .one => none
  | _ => some (.two r l)
def turnAt : Wy → List Nat → Option Wy
  | .one, _ => none
  | .two _ _, [] => none
  | .two l r, [p] => turnTop l r p
  | .two l r, p :: q :: ps => if p = 0 then (turnAt l (q :: ps)).map (fun w => .two w r) else if p = 1 then (turnAt r (q :: ps)).map (fun w => .two l w) else none
def pathD (path : List Nat) : PyData := .tuple (path.map fun p : Nat => PyData.int (p : Int))
def OptW (H : Hp) (v : V) : Option Wy → Prop
  | none => v = .non
  | some w => Tp H v w.data
def spn_turned_at (Γ : Gm) (n : Nat) : Sp := fun vs H Q _ => ∃ x p w path, vs = [x, p] ∧ Tp H x (Wy.data w) ∧ w.things ≤ n ∧ Tp H p (pathD path) ∧ path ≠ [] ∧ (∀ z ∈ path, z ≤ 2) ∧ ∀ v H', Same H H' → OptW H' v (turnAt w path) → Q v H'
def sp_turned_at (Γ : Gm) : Sp := spn_turned_at Γ 45
theorem path_tl {H : Hp} {p : Addr} {ys : List V} {z : Nat} {zs : List Nat} (h : TpAll H ys ((z :: zs).map fun p : Nat => PyData.int (p : Int))) : ys[0]? = some (.int z) ∧ ys.length = zs.length + 1 := by
  obtain ⟨v, g, t⟩ := h.get (i := 0) rfl
  cases t
  exact ⟨g, by rw [h.length, List.length_map]; rfl⟩
theorem isT_one {K : PySem.W.Frag} {H : Hp} {x : V} (h : Tp H x (Wy.one).data) : isTy H "tuple" x = false := by
  rw [h.dv.ty]
  simp [Wy.data, tyD, tyTab]
theorem isT_two {H : Hp} {x : V} {l r : Wy} (h : Tp H x (Wy.two l r).data) : isTy H "tuple" x = true := by
  rw [h.dv.ty]
  simp [Wy.data, tyD, tyTab]
theorem two_inv {H : Hp} {x : V} {l r : Wy} (h : Tp H x (Wy.two l r).data) : ∃ a x1 x2, x = .ref a ∧ H a = some (.tup [x1, x2]) ∧ Tp H x1 l.data ∧ Tp H x2 r.data := by
  obtain ⟨a, xs, rfl, ha, ta⟩ := h.inv
  cases ta with
  | cons h1 ta =>
    cases ta with
    | cons h2 ta =>
      cases ta
      exact ⟨a, _, _, rfl, ha, h1, h2⟩
/-- turned_at: way, path, inner -/
def t_turned_at (Γ : Gm) (n : Nat) : TS := (tSeq (tIfS (tNot (tB (tCB (rIsi Γ.K) (tCons (tVar 0) (tCons (tC (.ty "tuple")) tNil))))) (tRet (tC .non)) tNext)
  (tSeq (tIfS (tTest (tOp rGt (tCB (rLen Γ.K) (tCons (tVar 1) tNil)) (tC (.int 1)))) (tSeq (tIfS (tTest (tOp (rEqU Γ.K) (tOp (rIx Γ.K) (tVar 1) (tC (.int 0))) (tC (.int 2)))) (tRet (tC .non)) tNext)
  (tSeq (tAsg (tCal (spn_turned_at Γ n) E0 (tCons (tOp (rIx Γ.K) (tVar 0) (tOp (rIx Γ.K) (tVar 1) (tC (.int 0)))) (tCons (tSl (rSlU Γ.K) (tVar 1) (tPart (tC (.int 1))) tNoPart) tNil))) (gName 2))
  (tSeq (tIfS (tTest (tOp rIsU (tVar 2) (tC .non))) (tRet (tC .non)) tNext)
  (tRet (tIf (tTest (tOp (rEqU Γ.K) (tOp (rIx Γ.K) (tVar 1) (tC (.int 0))) (tC (.int 0)))) (tTup (tCons (tVar 2) (tCons (tOp (rIx Γ.K) (tVar 0) (tC (.int 1))) tNil))) (tTup (tCons (tOp (rIx Γ.K) (tVar 0) (tC (.int 0))) (tCons (tVar 2) tNil)))))))) tNext)
  (tSeq (tIfS (tAnd (tTest (tOp (rEqU Γ.K) (tOp (rIx Γ.K) (tVar 1) (tC (.int 0))) (tC (.int 0)))) (tB (tCB (rIsi Γ.K) (tCons (tOp (rIx Γ.K) (tVar 0) (tC (.int 0))) (tCons (tC (.ty "tuple")) tNil))))) (tRet (tTup (tCons (tOp (rIx Γ.K) (tOp (rIx Γ.K) (tVar 0) (tC (.int 0))) (tC (.int 0))) (tCons (tTup (tCons (tOp (rIx Γ.K) (tOp (rIx Γ.K) (tVar 0) (tC (.int 0))) (tC (.int 1))) (tCons (tOp (rIx Γ.K) (tVar 0) (tC (.int 1))) tNil))) tNil)))) tNext)
  (tSeq (tIfS (tAnd (tTest (tOp (rEqU Γ.K) (tOp (rIx Γ.K) (tVar 1) (tC (.int 0))) (tC (.int 1)))) (tB (tCB (rIsi Γ.K) (tCons (tOp (rIx Γ.K) (tVar 0) (tC (.int 1))) (tCons (tC (.ty "tuple")) tNil))))) (tRet (tTup (tCons (tTup (tCons (tOp (rIx Γ.K) (tVar 0) (tC (.int 0))) (tCons (tOp (rIx Γ.K) (tOp (rIx Γ.K) (tVar 0) (tC (.int 1))) (tC (.int 0))) tNil))) (tCons (tOp (rIx Γ.K) (tOp (rIx Γ.K) (tVar 0) (tC (.int 1))) (tC (.int 1))) tNil)))) tNext)
  (tRet (tIf (tTest (tOp (rEqU Γ.K) (tOp (rIx Γ.K) (tVar 1) (tC (.int 0))) (tC (.int 2)))) (tTup (tCons (tOp (rIx Γ.K) (tVar 0) (tC (.int 1))) (tCons (tOp (rIx Γ.K) (tVar 0) (tC (.int 0))) tNil))) (tC .non)))))))
theorem rd0_turned_at (Γ : Gm) (vs : List V) (H : Hp) (Q : VK) (E : XK) (h : spn_turned_at Γ 0 vs H Q E) : False := by
  obtain ⟨x, p, w, path, _, _, h, _⟩ := h
  have := w.pos
  omega
theorem rd_turned_at (Γ : Gm) (n : Nat) (vs : List V) (H : Hp) (Q : VK) (E : XK) (h : spn_turned_at Γ (n + 1) vs H Q E) : t_turned_at Γ n ⟨fun _ H' => Q .non H', Q, fun _ _ => False, fun _ _ => False⟩ (startN 3 vs) H := by
  obtain ⟨x, p, w, path, rfl, hx, hn, hp, hne, h2, k⟩ := h
  unfold t_turned_at
  walk_at "ss"
  refine w_isi hx.tag (by decide) ?_
  walk_at "ss"
  cases w with
  | one =>
    rw [isT_one (K := Γ.K) hx]
    walk_at "ss"
    exact k .non H (Same.refl H) rfl
  | two l r =>
    rw [isT_two hx]
    walk_at "ss"
    have q1 := l.pos
    have q2 := r.pos
    have hn' : l.things + r.things ≤ n + 1 := hn
    obtain ⟨a, x1, x2, rfl, ha, t1, t2⟩ := two_inv hx
    obtain ⟨b, ys, rfl, hb, tb⟩ := hp.inv
    match path, tb, hne, h2, k with
    | z :: q :: qs, tb, hne, h2, k =>
      obtain ⟨y0, yl⟩ := path_tl (p := b) tb
      rw [List.length_cons] at yl
      refine w_lenT (SqT.of hb) ?_
      walk_at "ss"
      refine w_ifY (decide_eq_true (show (1 : Int) < ys.length by omega)) ?_
      have sub : ∀ z ∈ q :: qs, z ≤ 2 := fun y hy => h2 y (List.mem_cons_of_mem _ hy)
      walk_at "ss"
      refine w_ixT (SqT.of hb) (atI_of (by decide) y0) ?_
      walk_at "ss"
      have ix0 : atI [x1, x2] ((0 : Nat) : Int) = some x1 := rfl
      have ix1 : atI [x1, x2] ((1 : Nat) : Int) = some x2 := rfl
      obtain rfl | rfl | rfl : z = 0 ∨ z = 1 ∨ z = 2 := by
        have := h2 z (List.mem_cons_self ..)
        omega
      · refine w_ifN rfl ?_
        walk_at "ss"
        refine w_ixT (SqT.of hb) (atI_of (by decide) y0) ?_
        walk_at "ss"
        refine w_ixT (SqT.of ha) ix0 ?_
        walk_at "ss"
        refine w_slT (lo := some ((1 : Nat) : Int)) (hi := none) hp fun u H1 e1 tu => ?_
        rw [cutD_from] at tu
        walk_at "ss"
        refine ⟨x1, u, l, q :: qs, rfl, t1.mono e1.tups, by omega, tu, by simp, sub, fun v H2 e2 ov => ?_⟩
        have kk : turnAt (.two l r) (0 :: q :: qs) = (turnAt l (q :: qs)).map (fun w => .two w r) := rfl
        rw [kk] at k
        walk_at "ss"
        cases ho : turnAt l (q :: qs) with
        | none =>
          rw [ho] at ov k
          have ov' : v = .non := ov
          subst ov'
          refine w_ifY (decide_eq_true rfl) ?_
          walk_at "ss"
          exact k .non H2 (e1.trans e2) rfl
        | some w' =>
          rw [ho] at ov k
          have ov' : Tp H2 v w'.data := ov
          refine w_ifN (decide_eq_false (by rintro rfl; cases w' <;> cases ov')) ?_
          walk_at "ss"
          refine w_ixT (SqT.of ((e1.trans e2) _ _ hb)) (atI_of (by decide) y0) ?_
          walk_at "ss"
          refine w_ifY rfl ?_
          walk_at "ss"
          refine w_ixT (SqT.of ((e1.trans e2) _ _ ha)) ix1 ?_
          walk_at "ss"
          refine n_tup fun t H3 f3 e3 g3 => ?_
          exact k _ H3 (e1.trans (e2.trans e3)) (.tup g3 (.cons (ov'.mono e3.tups) (.cons (t2.mono (e1.trans (e2.trans e3)).tups) .nil)))
      · refine w_ifN rfl ?_
        walk_at "ss"
        refine w_ixT (SqT.of hb) (atI_of (by decide) y0) ?_
        walk_at "ss"
        refine w_ixT (SqT.of ha) ix1 ?_
        walk_at "ss"
        refine w_slT (lo := some ((1 : Nat) : Int)) (hi := none) hp fun u H1 e1 tu => ?_
        rw [cutD_from] at tu
        walk_at "ss"
        refine ⟨x2, u, r, q :: qs, rfl, t2.mono e1.tups, by omega, tu, by simp, sub, fun v H2 e2 ov => ?_⟩
        have kk : turnAt (.two l r) (1 :: q :: qs) = (turnAt r (q :: qs)).map (fun w => .two l w) := rfl
        rw [kk] at k
        walk_at "ss"
        cases ho : turnAt r (q :: qs) with
        | none =>
          rw [ho] at ov k
          have ov' : v = .non := ov
          subst ov'
          refine w_ifY (decide_eq_true rfl) ?_
          walk_at "ss"
          exact k .non H2 (e1.trans e2) rfl
        | some w' =>
          rw [ho] at ov k
          have ov' : Tp H2 v w'.data := ov
          refine w_ifN (decide_eq_false (by rintro rfl; cases w' <;> cases ov')) ?_
          walk_at "ss"
          refine w_ixT (SqT.of ((e1.trans e2) _ _ hb)) (atI_of (by decide) y0) ?_
          walk_at "ss"
          refine w_ifN rfl ?_
          walk_at "ss"
          refine w_ixT (SqT.of ((e1.trans e2) _ _ ha)) ix0 ?_
          walk_at "ss"
          refine n_tup fun t H3 f3 e3 g3 => ?_
          exact k _ H3 (e1.trans (e2.trans e3)) (.tup g3 (.cons (t1.mono (e1.trans (e2.trans e3)).tups) (.cons (ov'.mono e3.tups) .nil)))
      · refine w_ifY rfl ?_
        walk_at "ss"
        exact k .non H (Same.refl H) rfl
    | [z], tb, hne, h2, k =>
      obtain ⟨y0, yl⟩ := path_tl (p := b) tb
      rw [List.length_nil] at yl
      refine w_lenT (SqT.of hb) ?_
      walk_at "ss"
      refine w_ifN (decide_eq_false (show ¬ (1 : Int) < ys.length by omega)) ?_
      have ix0 : atI [x1, x2] (0 : Int) = some x1 := rfl
      have ix1 : atI [x1, x2] (1 : Int) = some x2 := rfl
      have iz := atI_of (i := 0) (by decide) y0
      walk_at "ss"
      refine w_ixT (SqT.of hb) iz ?_
      walk_at "ss"
      obtain rfl | rfl | rfl : z = 0 ∨ z = 1 ∨ z = 2 := by
        have := h2 z (List.mem_cons_self ..)
        omega
      · refine w_ifY rfl ?_
        walk_at "ss"
        refine w_ixT (SqT.of ha) ix0 ?_
        walk_at "ss"
        refine w_isi t1.tag (by decide) ?_
        walk_at "ss"
        cases l with
        | one =>
          refine w_ifN (isT_one (K := Γ.K) t1) ?_
          walk_at "ss"
          refine w_ixT (SqT.of hb) iz ?_
          walk_at "ss"
          refine w_ifN rfl ?_
          walk_at "ss"
          refine w_ixT (SqT.of hb) iz ?_
          walk_at "ss"
          refine w_ifN rfl ?_
          exact k .non H (Same.refl H) rfl
        | two c e =>
          refine w_ifY (isT_two t1) ?_
          obtain ⟨a', z1, z2, rfl, ha', s1, s2⟩ := two_inv t1
          walk_at "ss"
          refine w_ixT (SqT.of ha) ix0 ?_
          walk_at "ss"
          refine w_ixT (SqT.of ha') (show atI [z1, z2] (0 : Int) = some z1 from rfl) ?_
          walk_at "ss"
          refine w_ixT (SqT.of ha) ix0 ?_
          walk_at "ss"
          refine w_ixT (SqT.of ha') (show atI [z1, z2] (1 : Int) = some z2 from rfl) ?_
          walk_at "ss"
          refine w_ixT (SqT.of ha) ix1 ?_
          walk_at "ss"
          refine n_tup fun t3 H3 f3 e3 g3 => ?_
          walk_at "ss"
          refine n_tup fun t4 H4 f4 e4 g4 => ?_
          exact k _ H4 (e3.trans e4) (.tup g4 (.cons (s1.mono (e3.trans e4).tups) (.cons (.tup (e4 _ _ g3) (.cons (s2.mono (e3.trans e4).tups) (.cons (t2.mono (e3.trans e4).tups) .nil))) .nil)))
      · refine w_ifN rfl ?_
        walk_at "ss"
        refine w_ixT (SqT.of hb) iz ?_
        walk_at "ss"
        refine w_ifY rfl ?_
        walk_at "ss"
        refine w_ixT (SqT.of ha) ix1 ?_
        walk_at "ss"
        refine w_isi t2.tag (by decide) ?_
        walk_at "ss"
        cases r with
        | one =>
          refine w_ifN (isT_one (K := Γ.K) t2) ?_
          walk_at "ss"
          refine w_ixT (SqT.of hb) iz ?_
          walk_at "ss"
          refine w_ifN rfl ?_
          exact k .non H (Same.refl H) rfl
        | two c e =>
          refine w_ifY (isT_two t2) ?_
          obtain ⟨a', z1, z2, rfl, ha', s1, s2⟩ := two_inv t2
          walk_at "ss"
          refine w_ixT (SqT.of ha) ix0 ?_
          walk_at "ss"
          refine w_ixT (SqT.of ha) ix1 ?_
          walk_at "ss"
          refine w_ixT (SqT.of ha') (show atI [z1, z2] (0 : Int) = some z1 from rfl) ?_
          walk_at "ss"
          refine n_tup fun t3 H3 f3 e3 g3 => ?_
          walk_at "ss"
          refine w_ixT (SqT.of (e3 _ _ ha)) ix1 ?_
          walk_at "ss"
          refine w_ixT (SqT.of (e3 _ _ ha')) (show atI [z1, z2] (1 : Int) = some z2 from rfl) ?_
          walk_at "ss"
          refine n_tup fun t4 H4 f4 e4 g4 => ?_
          exact k _ H4 (e3.trans e4) (.tup g4 (.cons (.tup (e4 _ _ g3) (.cons (t1.mono (e3.trans e4).tups) (.cons (s1.mono (e3.trans e4).tups) .nil))) (.cons (s2.mono (e3.trans e4).tups) .nil)))
      · refine w_ifN rfl ?_
        walk_at "ss"
        refine w_ixT (SqT.of hb) iz ?_
        walk_at "ss"
        refine w_ifN rfl ?_
        walk_at "ss"
        refine w_ixT (SqT.of hb) iz ?_
        walk_at "ss"
        refine w_ifY rfl ?_
        walk_at "ss"
        refine w_ixT (SqT.of ha) ix1 ?_
        walk_at "ss"
        refine w_ixT (SqT.of ha) ix0 ?_
        walk_at "ss"
        refine n_tup fun t3 H3 f3 e3 g3 => ?_
        exact k _ H3 e3 (.tup g3 (.cons (t2.mono e3.tups) (.cons (t1.mono e3.tups) .nil)))
/-! ### turned -/
def pathOf : PyData → Option (List Nat)
  | .tuple ds => if ds.all (inD 0 2) = true ∧ ds ≠ [] then some (ds.map fun d => (intD d).toNat) else none
  | _ => none
theorem pathOf_tup (ds : List PyData) : pathOf (.tuple ds) = if ds.all (inD 0 2) = true ∧ ds ≠ [] then some (ds.map fun d => (intD d).toNat) else none := rfl
def lenOk : PyData → Prop
  | .tuple ds => ds.length ≤ 1000
  | _ => True
def sp_turned (Γ : Gm) : Sp := fun vs H Q E => ∃ x p w dp, vs = [x, p] ∧ Tp H x (Wy.data w) ∧ w.things ≤ 40 ∧ Dv H p dp ∧ lenOk dp ∧ (∀ H', Same H H' → (pathOf dp).bind (turnAt w) = none → E (.ref Γ.cBadSplit) none H') ∧ ∀ w' v H', Same H H' → (pathOf dp).bind (turnAt w) = some w' → Tp H' v w'.data → Q v H'
theorem dvs_tps {H : Hp} : ∀ {vs : List V} (ns : List Int), DvAll H vs (ns.map PyData.int) → TpAll H vs (ns.map PyData.int)
  | _, [], .nil => .nil
  | _, n :: ns, .cons h k => by
    cases h
    exact .cons (.int n) (dvs_tps ns k)
theorem path_back {ds : List PyData} (h : ds.all (inD 0 2) = true) : (ds.map fun d => (intD d).toNat).map (fun p : Nat => PyData.int (p : Int)) = ds ∧ ∀ z ∈ ds.map (fun d => (intD d).toNat), z ≤ 2 := by
  obtain ⟨e, b⟩ := ints_back h
  constructor
  · conv => rhs; rw [e]
    rw [List.map_map, List.map_map]
    apply List.map_congr_left
    intro d hd
    have := b (intD d) (List.mem_map_of_mem hd)
    show PyData.int ((intD d).toNat : Int) = .int (intD d)
    rw [Int.toNat_of_nonneg this.1]
  · intro z hz
    obtain ⟨d, hd, rfl⟩ := List.mem_map.mp hz
    have := b (intD d) (List.mem_map_of_mem hd)
    show (intD d).toNat ≤ 2
    omega
/-- turned: way, path, found, one -/
def t_turned (Γ : Gm) (E : XK) : TS := (tSeq (tDrop (tCal (sp_check_way Γ) E (tCons (tVar 0) tNil)))
  (tSeq (tIfS (tOr (tNot (tB (tCB (rIsi Γ.K) (tCons (tVar 1) (tCons (tC (.ty "tuple")) tNil))))) (tOr (tNot (tB (tCB (rAll Γ.K) (tCons (tLc (iSeq Γ.K (tVar 1)) (gName 3) tYes (tCal (sp_is_from Γ) E0 (tCons (tVar 3) (tCons (tC (.int 0)) (tCons (tC (.int 2)) tNil)))) [3]) tNil)))) (tTest (tOp (rEqU Γ.K) (tCB (rLen Γ.K) (tCons (tVar 1) tNil)) (tC (.int 0)))))) (tRaise Γ.cBadSplit (fun cls d _ H => E cls d H)) tNext)
  (tSeq (tAsg (tCal (sp_turned_at Γ) E0 (tCons (tVar 0) (tCons (tVar 1) tNil))) (gName 2))
  (tSeq (tIfS (tTest (tOp rIsU (tVar 2) (tC .non))) (tRaise Γ.cBadSplit (fun cls d _ H => E cls d H)) tNext)
  (tRet (tVar 2))))))
theorem rd_turned (Γ : Gm) (vs : List V) (H : Hp) (Q : VK) (E : XK) (h : sp_turned Γ vs H Q E) : t_turned Γ E ⟨fun _ H' => Q .non H', Q, fun _ _ => False, fun _ _ => False⟩ (startN 4 vs) H := by
  obtain ⟨x, p, w, dp, rfl, hx, hw, hp, hl, k1, k2⟩ := h
  unfold t_turned
  walk_at "ss"
  refine ⟨x, _, rfl, hx.dv, w.dN (by omega), (fun z => by rw [w.wayB hw] at z; cases z), fun _ => ?_⟩
  walk_at "ss"
  refine w_isi hp.tag (by decide) ?_
  walk_at "ss"
  rw [hp.ty]
  by_cases tp : tyTab (tyD dp) "tuple" = false
  · rw [tp]
    walk_at "ss"
    refine k1 H (Same.refl H) ?_
    cases dp with
    | tuple ds => simp [tyD, tyTab] at tp
    | _ => rfl
  cases dp with
  | tuple ds =>
    rw [show tyTab (tyD (.tuple ds)) "tuple" = true from by simp [tyD, tyTab]]
    have hl' : ds.length ≤ 1000 := hl
    obtain ⟨a, xs, rfl, ha, ta⟩ := hp.tupInv
    have el := ta.length
    walk_at "ss"
    refine k_seqT (SqT.of ha) ?_
    refine k_lcTup (fun i acc H' => acc = ((ds.take i).map fun d => V.bl (inD 0 2 d))) (SqT.of ha) (fun _ _ => rfl) ?_ ?_
    · rintro i y D acc H2 hi hD e2 hacc rfl
      obtain ⟨d, hd, ty⟩ := ta.get' hi
      walk_at "ss"
      refine ⟨rfl, ?_⟩
      walk_at "ss"
      refine ⟨y, 0, 2, rfl, (ty.mono e2).tag, ?_⟩
      rw [ty.inR]
      refine lcTurn.mk hD e2 hacc (by rw [List.length_map, List.length_take]; omega) ?_
      rw [take_succ hd, List.map_append]
      rfl
    · rintro D acc H2 hD e2 hacc rfl
      rw [el, List.take_length] at hacc
      walk_at "ss"
      refine w_all (bs := ds.map (inD 0 2)) (SqL.of (by rw [hacc, List.map_map]; rfl)) ?_
      walk_at "ss"
      have ea : (ds.map (inD 0 2)).all id = ds.all (inD 0 2) := by rw [List.all_map]; rfl
      rw [ea]
      cases hb : ds.all (inD 0 2) with
      | false =>
        walk_at "ss"
        refine k1 H2 e2 ?_
        rw [pathOf_tup, if_neg (fun z => by rw [hb] at z; cases z.1)]
        rfl
      | true =>
        walk_at "ss"
        refine w_lenT (SqT.of (e2 _ _ ha)) ?_
        walk_at "ss"
        by_cases hne : ds = []
        · subst hne
          rw [el]
          refine w_ifY rfl ?_
          walk_at "ss"
          refine k1 H2 e2 ?_
          rw [pathOf_tup]
          rw [if_neg (fun z => z.2 rfl)]
          rfl
        have hpos : 0 < ds.length := List.length_pos_iff.mpr hne
        refine w_ifN (decide_eq_false (by omega)) ?_
        obtain ⟨pb1, pb2⟩ := path_back hb
        have ep : pathOf (.tuple ds) = some (ds.map fun d => (intD d).toNat) := by
          rw [pathOf_tup]
          rw [if_pos ⟨hb, hne⟩]
        rw [ep] at k1 k2
        have tpp : Tp H (.ref a) (pathD (ds.map fun d => (intD d).toNat)) := by
          unfold pathD
          rw [pb1]
          refine .tup ha ?_
          have e3 := (ints_back hb).1
          rw [e3] at ta ⊢
          exact dvs_tps _ ta
        walk_at "ss"
        refine ⟨x, .ref a, w, _, rfl, hx.mono e2.tups, by omega, tpp.mono e2.tups, by simpa using hne, pb2, fun v H3 e3 ov => ?_⟩
        walk_at "ss"
        cases ho : turnAt w (ds.map fun d => (intD d).toNat) with
        | none =>
          rw [ho] at ov
          have ov' : v = .non := ov
          subst ov'
          refine w_ifY (decide_eq_true rfl) ?_
          walk_at "ss"
          exact k1 H3 (e2.trans e3) ho
        | some w' =>
          rw [ho] at ov
          have ov' : Tp H3 v w'.data := ov
          refine w_ifN (decide_eq_false (by rintro rfl; cases w' <;> cases ov')) ?_
          walk_at "ss"
          exact k2 w' v H3 (e2.trans e3) ho ov'
  | _ => exact absurd (by simp [tyD, tyTab]) tp

/-! ### the least and the most points, size by size -/
def fAt (gs : List Int) (n : Nat) : Int := gs.getD (n - 1) 0
def cand (r : R) (s : Int) (gs : List Int) (n i : Nat) : Int := fAt gs i + fAt gs (n - i) + s * r.pts i (n - i : Nat)
structure Tab (r : R) (s : Int) (gs : List Int) : Prop where
  one : fAt gs 1 = 0
  low : ∀ n, 2 ≤ n → n ≤ gs.length → ∀ i, 1 ≤ i → i < n → fAt gs n ≤ cand r s gs n i
  hit : ∀ n, 2 ≤ n → n ≤ gs.length → ∃ i, 1 ≤ i ∧ i < n ∧ fAt gs n = cand r s gs n i
theorem fAt_app {gs : List Int} {m : Int} {n : Nat} (h1 : 1 ≤ n) (h : n ≤ gs.length) : fAt (gs ++ [m]) n = fAt gs n := by
  unfold fAt
  rw [List.getD_eq_getElem?_getD, List.getD_eq_getElem?_getD, List.getElem?_append_left (by omega)]
theorem fAt_new {gs : List Int} {m : Int} : fAt (gs ++ [m]) (gs.length + 1) = m := by
  unfold fAt
  rw [List.getD_eq_getElem?_getD, Nat.add_sub_cancel, List.getElem?_append_right (Nat.le_refl _), Nat.sub_self]
  rfl
theorem cand_app {r : R} {s m : Int} {gs : List Int} {n i : Nat} (h1 : 1 ≤ i) (h2 : i < n) (h : n ≤ gs.length + 1) : cand r s (gs ++ [m]) n i = cand r s gs n i := by
  unfold cand
  rw [fAt_app h1 (by omega), fAt_app (by omega) (by omega)]
theorem Tab.app {r : R} {s m : Int} {gs : List Int} (T : Tab r s gs) (hl : 1 ≤ gs.length) (h1 : ∀ i, 1 ≤ i → i < gs.length + 1 → m ≤ cand r s gs (gs.length + 1) i) (h2 : ∃ i, 1 ≤ i ∧ i < gs.length + 1 ∧ m = cand r s gs (gs.length + 1) i) : Tab r s (gs ++ [m]) := by
  refine ⟨?_, fun n hn hn2 i i1 i2 => ?_, fun n hn hn2 => ?_⟩
  · rw [fAt_app (Nat.le_refl _) hl]
    exact T.one
  · rw [List.length_append] at hn2
    have hn2' : n ≤ gs.length + 1 := hn2
    rw [cand_app i1 i2 hn2']
    by_cases e : n ≤ gs.length
    · rw [fAt_app (by omega) e]
      exact T.low n hn e i i1 i2
    · have e' : n = gs.length + 1 := by omega
      subst e'
      rw [fAt_new]
      exact h1 i i1 i2
  · rw [List.length_append] at hn2
    have hn2' : n ≤ gs.length + 1 := hn2
    by_cases e : n ≤ gs.length
    · obtain ⟨i, i1, i2, i3⟩ := T.hit n hn e
      refine ⟨i, i1, i2, ?_⟩
      rw [cand_app i1 i2 hn2', fAt_app (by omega) e]
      exact i3
    · have e' : n = gs.length + 1 := by omega
      subst e'
      obtain ⟨i, i1, i2, i3⟩ := h2
      refine ⟨i, i1, i2, ?_⟩
      rw [cand_app i1 i2 (Nat.le_refl _), fAt_new]
      exact i3
/-- the table's list -/
abbrev tabV (gs : List Int) : List V := .non :: gs.map V.int
theorem tab_ix {gs : List Int} {n : Nat} (h1 : 1 ≤ n) (h : n ≤ gs.length) {j : Int} (e : j = n) : atI (tabV gs) j = some (.int (fAt gs n)) := by
  subst e
  refine atI_of (by omega) ?_
  rw [Int.toNat_natCast]
  obtain ⟨m, rfl⟩ : ∃ m, n = m + 1 := ⟨n - 1, by omega⟩
  unfold tabV fAt
  rw [List.getElem?_cons_succ, List.getElem?_map, List.getElem?_eq_getElem (by omega), Nat.add_sub_cancel, List.getD_eq_getElem?_getD, List.getElem?_eq_getElem (by omega)]
  rfl
/-- how great points are -/
theorem pow_small {x : Int} {k : Nat} (hx : x.natAbs ≤ 2 ^ 100) (hk : k ≤ 4) : (x ^ k).natAbs ≤ 2 ^ 400 := Nat.le_trans (pow_nat hx) (Nat.pow_le_pow_right (by decide) (by omega))
theorem sum_small : ∀ (xs : List Int) {B : Nat}, (∀ x ∈ xs, x.natAbs ≤ B) → xs.sum.natAbs ≤ xs.length * B
  | [], B, _ => by simp
  | x :: xs, B, h => by
    have h1 := h x (List.mem_cons_self ..)
    have h2 := sum_small xs (B := B) fun y hy => h y (List.mem_cons_of_mem _ hy)
    rw [List.sum_cons, List.length_cons, Nat.succ_mul]
    have := Int.natAbs_add_le x xs.sum
    omega
theorem pts_small {r : R} {a b : Int} (ok : r.ok) (ha : 1 ≤ a) (hb : 1 ≤ b) (hs : a + b ≤ r.top) : (r.pts a b).natAbs ≤ 2 ^ 830 := by
  cases r with
  | tab rows =>
    obtain ⟨row, e1, e2⟩ := tab_at ok ha hb hs
    obtain ⟨_, hb'⟩ := ok.2.2 _ _ e1
    have := hb' _ (List.mem_of_getElem? e2)
    refine Nat.le_trans (m := 2 ^ 20) (by omega) (Nat.pow_le_pow_right (by decide) (by decide))
  | trm ts =>
    have top : a + b ≤ 1000000000000000000000000000000 := hs
    have z1 : a.natAbs ≤ 2 ^ 100 := by omega
    have z2 : b.natAbs ≤ 2 ^ 100 := by omega
    obtain ⟨h6, hb6⟩ := ok
    show (ts.map fun t : Int × Nat × Nat => t.1 * a ^ t.2.1 * b ^ t.2.2).sum.natAbs ≤ _
    have key : ∀ x ∈ ts.map (fun t : Int × Nat × Nat => t.1 * a ^ t.2.1 * b ^ t.2.2), x.natAbs ≤ 2 ^ 820 := fun x hx => by
      obtain ⟨t, ht, rfl⟩ := List.mem_map.mp hx
      obtain ⟨t1, t2, t3, t4⟩ := hb6 t ht
      exact mul_nat (m := 420) (n := 400) (mul_nat (m := 20) (n := 400) (by omega) (pow_small z1 t3)) (pow_small z2 t4)
    refine Nat.le_trans (sum_small _ key) ?_
    rw [List.length_map]
    refine Nat.le_trans (Nat.mul_le_mul_right _ (Nat.le_trans h6 (show 6 ≤ 2 ^ 10 from by decide))) ?_
    rw [← Nat.pow_add]
    exact Nat.le_refl _
def sgn (s : Int) : Prop := s = 1 ∨ s = -1
def sp_table_of (Γ : Gm) : Sp := fun vs H Q _ => ∃ v r h s, vs = [v, .int h, .int s] ∧ RuleAt Γ H v r ∧ 1 ≤ h ∧ h ≤ 40 ∧ h ≤ r.top ∧ sgn s ∧ ∀ l gs H', Same H H' → H l = none → H' l = some (.lst (tabV gs)) → (gs.length : Int) = h → Tab r s gs → Q (.ref l) H'
/-- table_of: rule, heap, sign, found, size, some, first -/
def t_table_of (Γ : Gm) : TS := (tSeq (tAsg (tLst (tCons (tC .non) (tCons (tC (.int 0)) tNil))) (gName 3))
  (tSeq (tFor (iRng2 (tCons (tC (.int 2)) (tCons (tOp (rAddU Γ.K) (tVar 1) (tC (.int 1))) tNil))) (gName 4) (tSeq (tAsg (tLst tNil) (gName 5))
  (tSeq (tFor (iRng2 (tCons (tC (.int 1)) (tCons (tVar 4) tNil))) (gName 6) (tDrop (tBM Γ.K "list" rAppend (tVar 5) (tCons (tOp (rAddU Γ.K) (tOp (rAddU Γ.K) (tOp (rIx Γ.K) (tVar 3) (tVar 6)) (tOp (rIx Γ.K) (tVar 3) (tOp rSubI (tVar 4) (tVar 6)))) (tOp (rMulU Γ.K) (tVar 2) (tCal (sp_points_by Γ) E0 (tCons (tVar 0) (tCons (tVar 6) (tCons (tOp rSubI (tVar 4) (tVar 6)) tNil)))))) tNil))))
  (tDrop (tBM Γ.K "list" rAppend (tVar 3) (tCons (tCB (rMin Γ.K) (tCons (tVar 5) tNil)) tNil))))))
  (tRet (tVar 3))))
theorem rd_table_of (Γ : Gm) (vs : List V) (H : Hp) (Q : VK) (E : XK) (h : sp_table_of Γ vs H Q E) : t_table_of Γ ⟨fun _ H' => Q .non H', Q, fun _ _ => False, fun _ _ => False⟩ (startN 7 vs) H := by
  obtain ⟨v, r, h, s, rfl, hr, h1, h40, ht, hs, k⟩ := h
  have hok := hr.ok
  have hsn : s.natAbs ≤ 2 ^ 1 := by rcases hs with rfl | rfl <;> decide
  unfold t_table_of
  walk_at "ss"
  refine n_lst fun L H1 fL e1 g1 => ?_
  walk_at "ss"
  refine k_rng2 (by omega) ?_
  refine k_range (fun i σ H' => ∃ gs x4 x5 x6, σ = [some v, some (.int h), some (.int s), some (.ref L), x4, x5, x6] ∧ gs.length = i + 1 ∧ Same H H' ∧ H' L = some (.lst (tabV gs)) ∧ Tab r s gs) ⟨[0], none, none, none, rfl, rfl, e1, g1, ⟨rfl, fun n n2 n3 => by simp only [List.length_cons, List.length_nil] at n3; omega, fun n n2 n3 => by simp only [List.length_cons, List.length_nil] at n3; omega⟩⟩ ?_ ?_
  · rintro i σ H2 hi ⟨gs, x4, x5, x6, rfl, hgl, e2, g2, T⟩
    have hi' : (i : Int) + 2 ≤ h := by omega
    walk_at "ss"
    refine n_lst fun M H3 fM e3 g3 => ?_
    walk_at "ss"
    refine k_rng2 (by omega) ?_
    refine k_range (fun j σ H' => ∃ x6, σ = [some v, some (.int h), some (.int s), some (.ref L), some (.int (2 + (i : Int))), some (.ref M), x6] ∧ Same H2 H' ∧ H' M = some (.lst (((List.range j).map fun j => cand r s gs (i + 2) (j + 1)).map V.int))) ⟨_, rfl, e3, g3⟩ ?_ ?_
    · rintro j σ H4 hj ⟨x6', rfl, e4, g4⟩
      have hj' : j < i + 1 := by omega
      walk_at "ss"
      refine w_tyL g4 ?_
      walk_at "ss"
      refine w_ixL (SqL.of (e4 _ _ g2)) (tab_ix (n := j + 1) (by omega) (by omega) (by omega)) ?_
      walk_at "ss"
      refine w_ixL (SqL.of (e4 _ _ g2)) (tab_ix (n := i + 2 - (j + 1)) (by omega) (by omega) (by omega)) ?_
      walk_at "ss"
      refine ⟨v, r, _, _, rfl, hr.mono (e2.trans e4), by omega, by omega, by omega, fun H5 e5 => ?_⟩
      have ps := pts_small (r := r) (a := 1 + (j : Int)) (b := 2 + (i : Int) - (1 + (j : Int))) hok (by omega) (by omega) (by omega)
      walk_at "ss"
      refine w_mulI (cmul_of hsn ps) ?_
      walk_at "ss"
      refine w_app (e5 _ _ g4) (by rw [List.length_map, List.length_map, List.length_range]; omega) ?_
      refine ⟨_, rfl, Same.mut (e4.trans e5) fM, ?_⟩
      rw [upd_same, List.range_succ, List.map_append, List.map_append]
      have ec : cand r s gs (i + 2) (j + 1) = fAt gs (j + 1) + fAt gs (i + 2 - (j + 1)) + s * r.pts (1 + (j : Int)) (2 + (i : Int) - (1 + (j : Int))) := by
        unfold cand
        rw [show (((j + 1 : Nat)) : Int) = 1 + (j : Int) by omega, show (((i + 2 - (j + 1) : Nat)) : Int) = 2 + (i : Int) - (1 + (j : Int)) by omega]
      rw [← ec]
      rfl
    · rintro σ H4 ⟨x6', rfl, e4, g4⟩
      have ej : (2 + (i : Int) - 1).toNat = i + 1 := by omega
      rw [ej] at g4
      walk_at "ss"
      have gL := e4 _ _ g2
      refine w_tyL gL ?_
      walk_at "ss"
      refine w_min g4 (by rw [List.length_map, List.length_range]; omega) fun m hm hlow => ?_
      walk_at "ss"
      refine w_app gL (by simp only [List.length_cons, List.length_map]; omega) ?_
      have hmem : ∀ j, j < i + 1 → cand r s gs (i + 2) (j + 1) ∈ (List.range (i + 1)).map fun j => cand r s gs (i + 2) (j + 1) := fun j hj => List.mem_map.mpr ⟨j, List.mem_range.mpr hj, rfl⟩
      refine ⟨gs ++ [m], _, _, _, rfl, by rw [List.length_append, hgl]; rfl, Same.mut (e2.trans e4) fL, ?_, ?_⟩
      · rw [upd_same]
        unfold tabV
        rw [List.map_append]
        rfl
      · refine T.app (by omega) (fun a a1 a2 => ?_) ?_
        · rw [hgl]
          have := hlow _ (hmem (a - 1) (by omega))
          rwa [show a - 1 + 1 = a by omega] at this
        · obtain ⟨j, hj, rfl⟩ := List.mem_map.mp hm
          have := List.mem_range.mp hj
          refine ⟨j + 1, by omega, by omega, ?_⟩
          rw [hgl]
  · rintro σ H2 ⟨gs, x4, x5, x6, rfl, hgl, e2, g2, T⟩
    walk_at "ss"
    exact k L gs H2 e2 fL g2 (by omega) T

/-! ### least, greatest, the first ways -/
theorem heap_yes {r : R} {n : Int} (h1 : 1 ≤ n) (h2 : n ≤ 40) (h3 : n ≤ r.top) : heapOk r 40 (.int n) = true := by
  unfold heapOk
  refine inD_yes h1 ?_
  split <;> omega
theorem w_heap {Γ : Gm} {H : Hp} {Q : VK} {E : XK} {v : V} {r : R} {n : Int} (hr : RuleAt Γ H v r) (h1 : 1 ≤ n) (h2 : n ≤ 40) (h3 : n ≤ r.top) (k : Q .non H) : sp_check_heap Γ [v, .int n, .int 40] H Q E :=
  ⟨v, r, .int n, .int n, 40, rfl, hr, .int n, (fun z => by rw [heap_yes h1 h2 h3] at z; cases z), fun _ => k⟩
def sp_least (Γ : Gm) : Sp := fun vs H Q _ => ∃ v r, ∃ n : Nat, vs = [v, .int n] ∧ RuleAt Γ H v r ∧ 1 ≤ n ∧ n ≤ 40 ∧ (n : Int) ≤ r.top ∧ ∀ gs H', Same H H' → gs.length = n → Tab r 1 gs → Q (.int (fAt gs n)) H'
def sp_greatest (Γ : Gm) : Sp := fun vs H Q _ => ∃ v r, ∃ n : Nat, vs = [v, .int n] ∧ RuleAt Γ H v r ∧ 1 ≤ n ∧ n ≤ 40 ∧ (n : Int) ≤ r.top ∧ ∀ gs H', Same H H' → gs.length = n → Tab r (-1) gs → Q (.int (0 - fAt gs n)) H'
/-- least: rule, heap -/
def t_least (Γ : Gm) (E : XK) : TS := (tSeq (tDrop (tCal (sp_check_heap Γ) E (tCons (tVar 0) (tCons (tVar 1) (tCons (tC (.int 40)) tNil)))))
  (tRet (tOp (rIx Γ.K) (tCal (sp_table_of Γ) E0 (tCons (tVar 0) (tCons (tVar 1) (tCons (tC (.int 1)) tNil)))) (tVar 1))))
theorem rd_least (Γ : Gm) (vs : List V) (H : Hp) (Q : VK) (E : XK) (h : sp_least Γ vs H Q E) : t_least Γ E ⟨fun _ H' => Q .non H', Q, fun _ _ => False, fun _ _ => False⟩ (startN 2 vs) H := by
  obtain ⟨v, r, n, rfl, hr, h1, h40, ht, k⟩ := h
  unfold t_least
  walk_at "ss"
  refine w_heap hr (by omega) (by omega) ht ?_
  walk_at "ss"
  refine ⟨v, r, n, 1, rfl, hr, by omega, by omega, ht, .inl rfl, fun l gs H1 e1 f1 g1 hl T => ?_⟩
  walk_at "ss"
  refine w_ixL (SqL.of g1) (tab_ix (n := n) h1 (by omega) rfl) ?_
  exact k gs H1 e1 (by omega) T
/-- greatest: rule, heap -/
def t_greatest (Γ : Gm) (E : XK) : TS := (tSeq (tDrop (tCal (sp_check_heap Γ) E (tCons (tVar 0) (tCons (tVar 1) (tCons (tC (.int 40)) tNil)))))
  (tRet (tOp rSubI (tC (.int 0)) (tOp (rIx Γ.K) (tCal (sp_table_of Γ) E0 (tCons (tVar 0) (tCons (tVar 1) (tCons (tUn (rU fun i => .int (-i)) (tC (.int 1))) tNil)))) (tVar 1)))))
theorem rd_greatest (Γ : Gm) (vs : List V) (H : Hp) (Q : VK) (E : XK) (h : sp_greatest Γ vs H Q E) : t_greatest Γ E ⟨fun _ H' => Q .non H', Q, fun _ _ => False, fun _ _ => False⟩ (startN 2 vs) H := by
  obtain ⟨v, r, n, rfl, hr, h1, h40, ht, k⟩ := h
  unfold t_greatest
  walk_at "ss"
  refine w_heap hr (by omega) (by omega) ht ?_
  walk_at "ss"
  refine ⟨v, r, n, -1, rfl, hr, by omega, by omega, ht, .inr rfl, fun l gs H1 e1 f1 g1 hl T => ?_⟩
  walk_at "ss"
  refine w_ixL (SqL.of g1) (tab_ix (n := n) h1 (by omega) rfl) ?_
  walk_at "ss"
  exact k gs H1 e1 (by omega) T
def firsts (r : R) (s : Int) (gs : List Int) (n : Nat) : List Nat := ((List.range (n - 1)).map (· + 1)).filter fun i => decide (cand r s gs n i = fAt gs n)
def sp_firsts_of (Γ : Gm) : Sp := fun vs H Q _ => ∃ v r t gs, ∃ n : Nat, ∃ s, vs = [v, .ref t, .int n, .int s] ∧ RuleAt Γ H v r ∧ H t = some (.lst (tabV gs)) ∧ 1 ≤ n ∧ n ≤ gs.length ∧ n ≤ 40 ∧ (n : Int) ≤ r.top ∧ sgn s ∧
  ∀ l H', Same H H' → H l = none → H' l = some (.lst ((firsts r s gs n).map fun i : Nat => V.int (i : Int))) → Q (.ref l) H'
/-- firsts_of: rule, table, heap, sign, found, first -/
def t_firsts_of (Γ : Gm) : TS := (tSeq (tAsg (tLst tNil) (gName 4))
  (tSeq (tFor (iRng2 (tCons (tC (.int 1)) (tCons (tVar 2) tNil))) (gName 5) (tIfS (tTest (tOp (rEqU Γ.K) (tOp (rAddU Γ.K) (tOp (rAddU Γ.K) (tOp (rIx Γ.K) (tVar 1) (tVar 5)) (tOp (rIx Γ.K) (tVar 1) (tOp rSubI (tVar 2) (tVar 5)))) (tOp (rMulU Γ.K) (tVar 3) (tCal (sp_points_by Γ) E0 (tCons (tVar 0) (tCons (tVar 5) (tCons (tOp rSubI (tVar 2) (tVar 5)) tNil)))))) (tOp (rIx Γ.K) (tVar 1) (tVar 2)))) (tDrop (tBM Γ.K "list" rAppend (tVar 4) (tCons (tVar 5) tNil))) tNext))
  (tRet (tVar 4))))
theorem rd_firsts_of (Γ : Gm) (vs : List V) (H : Hp) (Q : VK) (E : XK) (h : sp_firsts_of Γ vs H Q E) : t_firsts_of Γ ⟨fun _ H' => Q .non H', Q, fun _ _ => False, fun _ _ => False⟩ (startN 6 vs) H := by
  obtain ⟨v, r, t, gs, n, s, rfl, hr, ht, h1, hg, h40, htop, hs, k⟩ := h
  have hok := hr.ok
  have hsn : s.natAbs ≤ 2 ^ 1 := by rcases hs with rfl | rfl <;> decide
  unfold t_firsts_of
  walk_at "ss"
  refine n_lst fun L H1 fL e1 g1 => ?_
  walk_at "ss"
  refine k_rng2 (by omega) ?_
  refine k_range (fun j σ H' => ∃ x5, σ = [some v, some (.ref t), some (.int n), some (.int s), some (.ref L), x5] ∧ Same H H' ∧ H' L = some (.lst ((((List.range j).map (· + 1)).filter fun i => decide (cand r s gs n i = fAt gs n)).map fun i : Nat => V.int (i : Int)))) ⟨_, rfl, e1, g1⟩ ?_ ?_
  · rintro j σ H2 hj ⟨x5, rfl, e2, g2⟩
    have hj' : j + 1 < n := by omega
    walk_at "ss"
    refine w_ixL (SqL.of (e2 _ _ ht)) (tab_ix (n := j + 1) (by omega) (by omega) (by omega)) ?_
    walk_at "ss"
    refine w_ixL (SqL.of (e2 _ _ ht)) (tab_ix (n := n - (j + 1)) (by omega) (by omega) (by omega)) ?_
    walk_at "ss"
    refine ⟨v, r, _, _, rfl, hr.mono e2, by omega, by omega, by omega, fun H3 e3 => ?_⟩
    have ps := pts_small (r := r) (a := 1 + (j : Int)) (b := (n : Int) - (1 + (j : Int))) hok (by omega) (by omega) (by omega)
    walk_at "ss"
    refine w_mulI (cmul_of hsn ps) ?_
    walk_at "ss"
    refine w_ixL (SqL.of ((e2.trans e3) _ _ ht)) (tab_ix (n := n) (by omega) (by omega) rfl) ?_
    walk_at "ss"
    have ec : cand r s gs n (j + 1) = fAt gs (j + 1) + fAt gs (n - (j + 1)) + s * r.pts (1 + (j : Int)) ((n : Int) - (1 + (j : Int))) := by
      unfold cand
      rw [show (((j + 1 : Nat)) : Int) = 1 + (j : Int) by omega, show (((n - (j + 1) : Nat)) : Int) = (n : Int) - (1 + (j : Int)) by omega]
    rw [← ec]
    refine w_ite (fun e => ?_) (fun e => ?_)
    · walk_at "ss"
      refine w_tyL (e3 _ _ g2) ?_
      walk_at "ss"
      have ll : (((List.range j).map (· + 1)).filter fun i => decide (cand r s gs n i = fAt gs n)).length ≤ j := by
        refine Nat.le_trans (List.length_filter_le _ _) ?_
        rw [List.length_map, List.length_range]
        exact Nat.le_refl _
      refine w_app (e3 _ _ g2) (by rw [List.length_map]; omega) ?_
      refine ⟨_, rfl, Same.mut (e2.trans e3) fL, ?_⟩
      rw [upd_same, List.range_succ, List.map_append, List.filter_append, List.map_append]
      simp only [List.map_cons, List.map_nil]
      rw [show [j + 1].filter (fun i => decide (cand r s gs n i = fAt gs n)) = [j + 1] from by simp only [List.filter_cons, List.filter_nil]; rw [if_pos e]]
      simp only [List.map_cons, List.map_nil]
      rw [show (((j + 1 : Nat)) : Int) = 1 + (j : Int) by omega]
    · walk_at "ss"
      refine ⟨_, rfl, e2.trans e3, ?_⟩
      rw [List.range_succ, List.map_append, List.filter_append, List.map_append]
      simp only [List.map_cons, List.map_nil]
      rw [show [j + 1].filter (fun i => decide (cand r s gs n i = fAt gs n)) = [] from by simp only [List.filter_cons, List.filter_nil]; rw [if_neg (by rw [e]; decide)]]
      simp only [List.map_nil, List.append_nil]
      exact e3 _ _ g2
  · rintro σ H2 ⟨x5, rfl, e2, g2⟩
    walk_at "ss"
    refine k L H2 e2 fL ?_
    rw [show ((n : Int) - 1).toNat = n - 1 by omega] at g2
    exact g2
theorem mem_firsts {r : R} {s : Int} {gs : List Int} {n i : Nat} : i ∈ firsts r s gs n ↔ 1 ≤ i ∧ i < n ∧ cand r s gs n i = fAt gs n := by
  unfold firsts
  rw [List.mem_filter, decide_eq_true_eq, List.mem_map]
  constructor
  · rintro ⟨⟨j, hj, rfl⟩, h⟩
    have := List.mem_range.mp hj
    exact ⟨by omega, by omega, h⟩
  · rintro ⟨h1, h2, h3⟩
    exact ⟨⟨i - 1, List.mem_range.mpr (by omega), by omega⟩, h3⟩
theorem firsts_ne {r : R} {s : Int} {gs : List Int} {n : Nat} (T : Tab r s gs) (h2 : 2 ≤ n) (h : n ≤ gs.length) : ∃ i is, firsts r s gs n = i :: is := by
  obtain ⟨i, i1, i2, i3⟩ := T.hit n h2 h
  have : i ∈ firsts r s gs n := mem_firsts.mpr ⟨i1, i2, i3.symm⟩
  cases e : firsts r s gs n with
  | nil => rw [e] at this; cases this
  | cons a as => exact ⟨a, as, rfl⟩
/-- the first of the best ways -/
def fwN (r : R) (s : Int) (gs : List Int) : Nat → Nat → Wy
  | 0, _ => .one
  | k + 1, n => if n = 1 then .one else .two (fwN r s gs k ((firsts r s gs n).headD 1)) (fwN r s gs k (n - (firsts r s gs n).headD 1))
def spn_first_way (Γ : Gm) (k : Nat) : Sp := fun vs H Q _ => ∃ v r t gs, ∃ n : Nat, ∃ s, vs = [v, .ref t, .int n, .int s] ∧ RuleAt Γ H v r ∧ H t = some (.lst (tabV gs)) ∧ Tab r s gs ∧ 1 ≤ n ∧ n ≤ k ∧ n ≤ gs.length ∧ n ≤ 40 ∧ (n : Int) ≤ r.top ∧ sgn s ∧
  ∀ y H', Same H H' → Tp H' y (fwN r s gs k n).data → Q y H'
def sp_first_way (Γ : Gm) : Sp := spn_first_way Γ 45
/-- first_way: rule, table, heap, sign, first -/
def t_first_way (Γ : Gm) (n : Nat) : TS := (tSeq (tIfS (tTest (tOp (rEqU Γ.K) (tVar 2) (tC (.int 1)))) (tRet (tC (.int 1))) tNext)
  (tSeq (tAsg (tOp (rIx Γ.K) (tCal (sp_firsts_of Γ) E0 (tCons (tVar 0) (tCons (tVar 1) (tCons (tVar 2) (tCons (tVar 3) tNil))))) (tC (.int 0))) (gName 4))
  (tRet (tTup (tCons (tCal (spn_first_way Γ n) E0 (tCons (tVar 0) (tCons (tVar 1) (tCons (tVar 4) (tCons (tVar 3) tNil))))) (tCons (tCal (spn_first_way Γ n) E0 (tCons (tVar 0) (tCons (tVar 1) (tCons (tOp rSubI (tVar 2) (tVar 4)) (tCons (tVar 3) tNil))))) tNil))))))
theorem rd0_first_way (Γ : Gm) (vs : List V) (H : Hp) (Q : VK) (E : XK) (h : spn_first_way Γ 0 vs H Q E) : False := by
  obtain ⟨v, r, t, gs, n, s, _, _, _, _, h1, h2, _⟩ := h
  omega
theorem rd_first_way (Γ : Gm) (k : Nat) (vs : List V) (H : Hp) (Q : VK) (E : XK) (h : spn_first_way Γ (k + 1) vs H Q E) : t_first_way Γ k ⟨fun _ H' => Q .non H', Q, fun _ _ => False, fun _ _ => False⟩ (startN 5 vs) H := by
  obtain ⟨v, r, t, gs, n, s, rfl, hr, ht, T, h1, hk, hg, h40, htop, hs, q⟩ := h
  unfold t_first_way
  walk_at "ss"
  have unf : fwN r s gs (k + 1) n = if n = 1 then .one else .two (fwN r s gs k ((firsts r s gs n).headD 1)) (fwN r s gs k (n - (firsts r s gs n).headD 1)) := rfl
  rw [unf] at q
  by_cases e : n = 1
  · subst e
    rw [if_pos rfl] at q
    refine w_ifY rfl ?_
    walk_at "ss"
    exact q _ H (Same.refl H) (.int 1)
  rw [if_neg e] at q
  refine w_ifN (decide_eq_false (by omega)) ?_
  walk_at "ss"
  refine ⟨v, r, t, gs, n, s, rfl, hr, ht, h1, hg, h40, htop, hs, fun l H1 e1 f1 g1 => ?_⟩
  obtain ⟨i, is, ef⟩ := firsts_ne T (by omega) hg
  obtain ⟨i1, i2, i3⟩ := mem_firsts.mp (show i ∈ firsts r s gs n by rw [ef]; exact List.mem_cons_self ..)
  rw [ef] at g1 q
  walk_at "ss"
  refine w_ixL (SqL.of g1) (atI_of (by decide) rfl) ?_
  walk_at "ss"
  refine ⟨v, r, t, gs, i, s, rfl, hr.mono e1, e1 _ _ ht, T, i1, by omega, by omega, by omega, by omega, hs, fun y1 H2 e2 t1 => ?_⟩
  walk_at "ss"
  refine ⟨v, r, t, gs, n - i, s, ?_, hr.mono (e1.trans e2), (e1.trans e2) _ _ ht, T, by omega, by omega, by omega, by omega, by omega, hs, fun y2 H3 e3 t2 => ?_⟩
  · rw [show ((n - i : Nat) : Int) = (n : Int) - (i : Int) by omega]
  walk_at "ss"
  refine n_tup fun p H4 f4 e4 g4 => ?_
  exact q _ H4 (e1.trans (e2.trans (e3.trans e4))) (.tup g4 (.cons (t1.mono (e3.trans e4).tups) (.cons (t2.mono e4.tups) .nil)))
def sp_least_way (Γ : Gm) : Sp := fun vs H Q _ => ∃ v r, ∃ n : Nat, vs = [v, .int n] ∧ RuleAt Γ H v r ∧ 1 ≤ n ∧ n ≤ 40 ∧ (n : Int) ≤ r.top ∧ ∀ gs y H', Same H H' → gs.length = n → Tab r 1 gs → Tp H' y (fwN r 1 gs 45 n).data → Q y H'
def sp_greatest_way (Γ : Gm) : Sp := fun vs H Q _ => ∃ v r, ∃ n : Nat, vs = [v, .int n] ∧ RuleAt Γ H v r ∧ 1 ≤ n ∧ n ≤ 40 ∧ (n : Int) ≤ r.top ∧ ∀ gs y H', Same H H' → gs.length = n → Tab r (-1) gs → Tp H' y (fwN r (-1) gs 45 n).data → Q y H'
/-- least_way: rule, heap -/
def t_least_way (Γ : Gm) (E : XK) : TS := (tSeq (tDrop (tCal (sp_check_heap Γ) E (tCons (tVar 0) (tCons (tVar 1) (tCons (tC (.int 40)) tNil)))))
  (tRet (tCal (sp_first_way Γ) E0 (tCons (tVar 0) (tCons (tCal (sp_table_of Γ) E0 (tCons (tVar 0) (tCons (tVar 1) (tCons (tC (.int 1)) tNil)))) (tCons (tVar 1) (tCons (tC (.int 1)) tNil)))))))
theorem rd_least_way (Γ : Gm) (vs : List V) (H : Hp) (Q : VK) (E : XK) (h : sp_least_way Γ vs H Q E) : t_least_way Γ E ⟨fun _ H' => Q .non H', Q, fun _ _ => False, fun _ _ => False⟩ (startN 2 vs) H := by
  obtain ⟨v, r, n, rfl, hr, h1, h40, ht, k⟩ := h
  unfold t_least_way
  walk_at "ss"
  refine w_heap hr (by omega) (by omega) ht ?_
  walk_at "ss"
  refine ⟨v, r, n, 1, rfl, hr, by omega, by omega, ht, .inl rfl, fun l gs H1 e1 f1 g1 hl T => ?_⟩
  walk_at "ss"
  exact ⟨v, r, l, gs, n, 1, rfl, hr.mono e1, g1, T, h1, by omega, by omega, h40, ht, .inl rfl, fun y H2 e2 ty => k gs y H2 (e1.trans e2) (by omega) T ty⟩
/-- greatest_way: rule, heap -/
def t_greatest_way (Γ : Gm) (E : XK) : TS := (tSeq (tDrop (tCal (sp_check_heap Γ) E (tCons (tVar 0) (tCons (tVar 1) (tCons (tC (.int 40)) tNil)))))
  (tRet (tCal (sp_first_way Γ) E0 (tCons (tVar 0) (tCons (tCal (sp_table_of Γ) E0 (tCons (tVar 0) (tCons (tVar 1) (tCons (tUn (rU fun i => .int (-i)) (tC (.int 1))) tNil)))) (tCons (tVar 1) (tCons (tUn (rU fun i => .int (-i)) (tC (.int 1))) tNil)))))))
theorem rd_greatest_way (Γ : Gm) (vs : List V) (H : Hp) (Q : VK) (E : XK) (h : sp_greatest_way Γ vs H Q E) : t_greatest_way Γ E ⟨fun _ H' => Q .non H', Q, fun _ _ => False, fun _ _ => False⟩ (startN 2 vs) H := by
  obtain ⟨v, r, n, rfl, hr, h1, h40, ht, k⟩ := h
  unfold t_greatest_way
  walk_at "ss"
  refine w_heap hr (by omega) (by omega) ht ?_
  walk_at "ss"
  refine ⟨v, r, n, -1, rfl, hr, by omega, by omega, ht, .inr rfl, fun l gs H1 e1 f1 g1 hl T => ?_⟩
  walk_at "ss"
  exact ⟨v, r, l, gs, n, -1, rfl, hr.mono e1, g1, T, h1, by omega, by omega, h40, ht, .inr rfl, fun y H2 e2 ty => k gs y H2 (e1.trans e2) (by omega) T ty⟩

/-! ### how many best ways there are -/
structure Cnt (r : R) (s : Int) (gs : List Int) (cs : List Int) : Prop where
  one : cs.getD 1 0 = 1
  step : ∀ n, 2 ≤ n → n < cs.length → cs.getD n 0 = ((firsts r s gs n).map fun i => cs.getD i 0 * cs.getD (n - i) 0).sum
  small : ∀ n, 1 ≤ n → n < cs.length → (cs.getD n 0).natAbs ≤ 2 ^ (6 * (n - 1))
theorem getD_app {cs : List Int} {m : Int} {n : Nat} (h : n < cs.length) : (cs ++ [m]).getD n 0 = cs.getD n 0 := by
  rw [List.getD_eq_getElem?_getD, List.getD_eq_getElem?_getD, List.getElem?_append_left h]
theorem getD_new {cs : List Int} {m : Int} : (cs ++ [m]).getD cs.length 0 = m := by
  rw [List.getD_eq_getElem?_getD, List.getElem?_append_right (Nat.le_refl _), Nat.sub_self]
  rfl
theorem firsts_len {r : R} {s : Int} {gs : List Int} {n : Nat} : (firsts r s gs n).length ≤ n - 1 := by
  unfold firsts
  refine Nat.le_trans (List.length_filter_le _ _) ?_
  rw [List.length_map, List.length_range]
  exact Nat.le_refl _
theorem Cnt.app {r : R} {s : Int} {gs cs : List Int} (C : Cnt r s gs cs) (h2 : 2 ≤ cs.length) (h40 : cs.length ≤ 40) : Cnt r s gs (cs ++ [((firsts r s gs cs.length).map fun i => cs.getD i 0 * cs.getD (cs.length - i) 0).sum]) := by
  have same : ∀ n, n ≤ cs.length → ∀ m, ((firsts r s gs n).map fun i => (cs ++ [m]).getD i 0 * (cs ++ [m]).getD (n - i) 0) = (firsts r s gs n).map fun i => cs.getD i 0 * cs.getD (n - i) 0 := fun n hn m => by
    apply List.map_congr_left
    intro i hi
    obtain ⟨i1, i2, _⟩ := mem_firsts.mp hi
    rw [getD_app (by omega), getD_app (by omega)]
  refine ⟨?_, fun n n2 nl => ?_, fun n n1 nl => ?_⟩
  · rw [getD_app (by omega)]
    exact C.one
  · rw [List.length_append] at nl
    have nl' : n < cs.length + 1 := nl
    rw [same n (by omega)]
    by_cases e : n < cs.length
    · rw [getD_app e]
      exact C.step n n2 e
    · have : n = cs.length := by omega
      subst this
      rw [getD_new]
  · rw [List.length_append] at nl
    have nl' : n < cs.length + 1 := nl
    by_cases e : n < cs.length
    · rw [getD_app e]
      exact C.small n n1 e
    · have : n = cs.length := by omega
      subst this
      rw [getD_new]
      have b : ∀ x ∈ (firsts r s gs cs.length).map (fun i => cs.getD i 0 * cs.getD (cs.length - i) 0), x.natAbs ≤ 2 ^ (6 * (cs.length - 2)) := fun x hx => by
        obtain ⟨i, hi, rfl⟩ := List.mem_map.mp hx
        obtain ⟨i1, i2, _⟩ := mem_firsts.mp hi
        have := mul_nat (C.small i i1 (by omega)) (C.small (cs.length - i) (by omega) (by omega))
        rwa [show 6 * (i - 1) + 6 * (cs.length - i - 1) = 6 * (cs.length - 2) by omega] at this
      refine Nat.le_trans (sum_small _ b) ?_
      rw [List.length_map, show 6 * (cs.length - 1) = 6 + 6 * (cs.length - 2) by omega, Nat.pow_add]
      refine Nat.mul_le_mul_right _ (Nat.le_trans firsts_len ?_)
      show cs.length - 1 ≤ 64
      omega
def sp_counted (Γ : Gm) : Sp := fun vs H Q _ => ∃ v r, ∃ n : Nat, ∃ s, vs = [v, .int n, .int s] ∧ RuleAt Γ H v r ∧ 1 ≤ n ∧ n ≤ 40 ∧ (n : Int) ≤ r.top ∧ sgn s ∧ ∀ gs cs H', Same H H' → gs.length = n → Tab r s gs → cs.length = n + 1 → Cnt r s gs cs → Q (.int (cs.getD n 0)) H'
theorem ints_ix {cs : List Int} {n : Nat} (h : n < cs.length) {j : Int} (e : j = n) : atI (cs.map V.int) j = some (.int (cs.getD n 0)) := by
  subst e
  refine atI_of (by omega) ?_
  rw [Int.toNat_natCast, List.getElem?_map, List.getElem?_eq_getElem h, List.getD_eq_getElem?_getD, List.getElem?_eq_getElem h]
  rfl
/-- counted: rule, heap, sign, table, found, size, some, first -/
def t_counted (Γ : Gm) : TS := (tSeq (tAsg (tTup (tCons (tCal (sp_table_of Γ) E0 (tCons (tVar 0) (tCons (tVar 1) (tCons (tVar 2) tNil)))) (tCons (tLst (tCons (tC (.int 0)) (tCons (tC (.int 1)) tNil))) tNil))) (gTup Γ.K 2 (gCons (gName 3) (gCons (gName 4) gNil))))
  (tSeq (tFor (iRng2 (tCons (tC (.int 2)) (tCons (tOp (rAddU Γ.K) (tVar 1) (tC (.int 1))) tNil))) (gName 5) (tSeq (tAsg (tCal (sp_firsts_of Γ) E0 (tCons (tVar 0) (tCons (tVar 3) (tCons (tVar 5) (tCons (tVar 2) tNil))))) (gName 6))
  (tDrop (tBM Γ.K "list" rAppend (tVar 4) (tCons (tCB (rSum Γ.K) (tCons (tLc (iSeq Γ.K (tVar 6)) (gName 7) tYes (tOp (rMulU Γ.K) (tOp (rIx Γ.K) (tVar 4) (tVar 7)) (tOp (rIx Γ.K) (tVar 4) (tOp rSubI (tVar 5) (tVar 7)))) [7]) tNil)) tNil)))))
  (tRet (tOp (rIx Γ.K) (tVar 4) (tVar 1)))))
theorem rd_counted (Γ : Gm) (vs : List V) (H : Hp) (Q : VK) (E : XK) (h : sp_counted Γ vs H Q E) : t_counted Γ ⟨fun _ H' => Q .non H', Q, fun _ _ => False, fun _ _ => False⟩ (startN 8 vs) H := by
  obtain ⟨v, r, n, s, rfl, hr, h1, h40, ht, hs, k⟩ := h
  unfold t_counted
  walk_at "ss"
  refine ⟨v, r, n, s, rfl, hr, by omega, by omega, ht, hs, fun t gs H1 e1 f1 g1 hl T => ?_⟩
  have hgl : gs.length = n := by omega
  walk_at "ss"
  refine n_lst fun L H2 fL e2 g2 => ?_
  walk_at "ss"
  refine n_tup fun p H3 f3 e3 g3 => ?_
  refine w_gTup (SqT.of g3) rfl ?_
  walk_at "ss"
  refine k_rng2 (by omega) ?_
  have e13 := e1.trans (e2.trans e3)
  refine k_range (fun i σ H' => ∃ cs x5 x6 x7, σ = [some v, some (.int n), some (.int s), some (.ref t), some (.ref L), x5, x6, x7] ∧ Same H1 H' ∧ H' L = some (.lst (cs.map V.int)) ∧ cs.length = i + 2 ∧ Cnt r s gs cs) ⟨[0, 1], none, none, none, rfl, e2.trans e3, e3 _ _ g2, rfl, ⟨rfl, fun n n2 nl => by simp only [List.length_cons, List.length_nil] at nl; omega, fun n n1 nl => by
    simp only [List.length_cons, List.length_nil] at nl
    have : n = 1 := by omega
    subst this
    decide⟩⟩ ?_ ?_
  · rintro i σ H4 hi ⟨cs, x5, x6, x7, rfl, e4, g4, cl, C⟩
    have hi' : i + 2 ≤ n := by omega
    walk_at "ss"
    refine ⟨v, r, t, gs, i + 2, s, ?_, hr.mono (e1.trans e4), e4 _ _ g1, by omega, by omega, by omega, by omega, hs, fun M H5 e5 f5 g5 => ?_⟩
    · rw [show (((i + 2 : Nat)) : Int) = 2 + (i : Int) by omega]
    walk_at "ss"
    refine w_tyL (e5 _ _ g4) ?_
    walk_at "ss"
    refine k_seqL (SqL.of g5) ?_
    have fl := firsts_len (r := r) (s := s) (gs := gs) (n := i + 2)
    refine k_lcList (fun j acc H' => acc = (((firsts r s gs (i + 2)).take j).map fun a => cs.getD a 0 * cs.getD (i + 2 - a) 0).map V.int) (SqL.of g5) (fun _ _ => rfl) ?_ ?_
    · rintro j x D acc H6 hj hD e6 hacc rfl
      rw [List.getElem?_map] at hj
      obtain ⟨a, ha, rfl⟩ := Option.map_eq_some_iff.mp hj
      obtain ⟨a1, a2, _⟩ := mem_firsts.mp (List.mem_of_getElem? ha)
      have gL := (e5.trans e6) _ _ g4
      walk_at "ss"
      refine ⟨rfl, ?_⟩
      walk_at "ss"
      refine w_ixL (SqL.of gL) (ints_ix (n := a) (by omega) rfl) ?_
      walk_at "ss"
      refine w_ixL (SqL.of gL) (ints_ix (n := i + 2 - a) (by omega) (by omega)) ?_
      have s1 := C.small a a1 (by omega)
      have s2 := C.small (i + 2 - a) (by omega) (by omega)
      refine w_mulI (cmul_of s1 s2) ?_
      have jl : j < (firsts r s gs (i + 2)).length := (List.getElem?_eq_some_iff.mp ha).1
      refine lcTurn.mk hD e6 hacc (by rw [List.length_map, List.length_map, List.length_take]; omega) ?_
      rw [take_succ ha, List.map_append, List.map_append]
      rfl
    · rintro D acc H6 hD e6 hacc rfl
      rw [List.length_map, List.take_length] at hacc
      walk_at "ss"
      refine w_sum (SqL.of hacc) ?_
      walk_at "ss"
      have gL := (e5.trans e6) _ _ g4
      refine w_app gL (by rw [List.length_map]; omega) ?_
      refine ⟨cs ++ [((firsts r s gs cs.length).map fun i => cs.getD i 0 * cs.getD (cs.length - i) 0).sum], _, _, _, rfl, ?_, ?_, by rw [List.length_append, cl]; rfl, C.app (by omega) (by omega)⟩
      · exact Same.mut (e4.trans (e5.trans e6)) fL
      · rw [upd_same, List.map_append, cl]
        rfl
  · rintro σ H4 ⟨cs, x5, x6, x7, rfl, e4, g4, cl, C⟩
    walk_at "ss"
    refine w_ixL (SqL.of g4) (ints_ix (n := n) (by omega) rfl) ?_
    exact k gs cs H4 (e1.trans e4) hgl T (by omega) C
def sp_count_least (Γ : Gm) : Sp := fun vs H Q _ => ∃ v r, ∃ n : Nat, vs = [v, .int n] ∧ RuleAt Γ H v r ∧ 1 ≤ n ∧ n ≤ 40 ∧ (n : Int) ≤ r.top ∧ ∀ gs cs H', Same H H' → gs.length = n → Tab r 1 gs → cs.length = n + 1 → Cnt r 1 gs cs → Q (.int (cs.getD n 0)) H'
def sp_count_greatest (Γ : Gm) : Sp := fun vs H Q _ => ∃ v r, ∃ n : Nat, vs = [v, .int n] ∧ RuleAt Γ H v r ∧ 1 ≤ n ∧ n ≤ 40 ∧ (n : Int) ≤ r.top ∧ ∀ gs cs H', Same H H' → gs.length = n → Tab r (-1) gs → cs.length = n + 1 → Cnt r (-1) gs cs → Q (.int (cs.getD n 0)) H'
/-- count_least: rule, heap -/
def t_count_least (Γ : Gm) (E : XK) : TS := (tSeq (tDrop (tCal (sp_check_heap Γ) E (tCons (tVar 0) (tCons (tVar 1) (tCons (tC (.int 40)) tNil)))))
  (tRet (tCal (sp_counted Γ) E0 (tCons (tVar 0) (tCons (tVar 1) (tCons (tC (.int 1)) tNil))))))
theorem rd_count_least (Γ : Gm) (vs : List V) (H : Hp) (Q : VK) (E : XK) (h : sp_count_least Γ vs H Q E) : t_count_least Γ E ⟨fun _ H' => Q .non H', Q, fun _ _ => False, fun _ _ => False⟩ (startN 2 vs) H := by
  obtain ⟨v, r, n, rfl, hr, h1, h40, ht, k⟩ := h
  unfold t_count_least
  walk_at "ss"
  refine w_heap hr (by omega) (by omega) ht ?_
  walk_at "ss"
  exact ⟨v, r, n, 1, rfl, hr, h1, h40, ht, .inl rfl, k⟩
/-- count_greatest: rule, heap -/
def t_count_greatest (Γ : Gm) (E : XK) : TS := (tSeq (tDrop (tCal (sp_check_heap Γ) E (tCons (tVar 0) (tCons (tVar 1) (tCons (tC (.int 40)) tNil)))))
  (tRet (tCal (sp_counted Γ) E0 (tCons (tVar 0) (tCons (tVar 1) (tCons (tUn (rU fun i => .int (-i)) (tC (.int 1))) tNil))))))
theorem rd_count_greatest (Γ : Gm) (vs : List V) (H : Hp) (Q : VK) (E : XK) (h : sp_count_greatest Γ vs H Q E) : t_count_greatest Γ E ⟨fun _ H' => Q .non H', Q, fun _ _ => False, fun _ _ => False⟩ (startN 2 vs) H := by
  obtain ⟨v, r, n, rfl, hr, h1, h40, ht, k⟩ := h
  unfold t_count_greatest
  walk_at "ss"
  refine w_heap hr (by omega) (by omega) ht ?_
  walk_at "ss"
  exact ⟨v, r, n, -1, rfl, hr, h1, h40, ht, .inr rfl, k⟩

/-! ### all ways of a heap -/
def pairs (a b : List Wy) : List Wy := a.flatMap fun l => b.map fun r => Wy.two l r
def nextW (t : List (List Wy)) (n k : Nat) : List Wy := (List.range k).flatMap fun j => pairs (t.getD (j + 1) []) (t.getD (n - (j + 1)) [])
def wTab : Nat → List (List Wy)
  | 0 => [[], [.one]]
  | k + 1 => wTab k ++ [nextW (wTab k) (k + 2) (k + 1)]
theorem wTab_len : ∀ k, (wTab k).length = k + 2
  | 0 => rfl
  | k + 1 => by
    show (wTab k ++ [_]).length = _
    rw [List.length_append, wTab_len k]
    rfl
def waysN (n : Nat) : List Wy := (wTab (n - 1)).getD n []
theorem nextW_succ (t : List (List Wy)) (n k : Nat) : nextW t n (k + 1) = nextW t n k ++ pairs (t.getD (k + 1) []) (t.getD (n - (k + 1)) []) := by
  unfold nextW
  rw [List.range_succ, List.flatMap_append]
  simp
theorem nextW_le (t : List (List Wy)) (n k m : Nat) (h : k ≤ m) : (nextW t n k).length ≤ (nextW t n m).length := by
  induction m with
  | zero => rw [Nat.le_zero.mp h]; exact Nat.le_refl _
  | succ m ih =>
    by_cases e : k = m + 1
    · rw [e]; exact Nat.le_refl _
    · rw [nextW_succ, List.length_append]
      have := ih (by omega)
      omega
theorem wTab_sz : ∀ k < 8, (nextW (wTab k) (k + 2) (k + 1)).length ≤ 1430 := by decide +kernel
theorem wTab_szs : ∀ k < 8, ∀ ws ∈ wTab k, ws.length ≤ 1430 := by decide +kernel
/-- a list of ways -/
def WL (H : Hp) (a : Addr) (ws : List Wy) : Prop := ∃ xs, H a = some (.lst xs) ∧ TpAll H xs (ws.map Wy.data)
theorem WL.mono {H H' : Hp} {a : Addr} {ws : List Wy} (e : Same H H') (h : WL H a ws) : WL H' a ws := by
  obtain ⟨xs, h1, h2⟩ := h
  exact ⟨xs, e _ _ h1, h2.mono e.tups⟩
structure WI (H0 H : Hp) (L : Addr) (refs : List Addr) (t : List (List Wy)) : Prop where
  same : Same H0 H
  l : H L = some (.lst (refs.map V.ref))
  len : refs.length = t.length
  ne : ∀ a ∈ refs, a ≠ L
  at_ : ∀ (j : Nat) (ws : List Wy), t[j]? = some ws → ∃ a, refs[j]? = some a ∧ WL H a ws
theorem pairs_take {a b : List Wy} {i : Nat} {l : Wy} (h : a[i]? = some l) : pairs (a.take (i + 1)) b = pairs (a.take i) b ++ b.map fun r => Wy.two l r := by
  unfold pairs
  rw [take_succ h, List.flatMap_append]
  simp
theorem pairs_le {a b : List Wy} {i : Nat} : (pairs (a.take i) b).length ≤ (pairs a b).length := by
  conv => rhs; rw [← List.take_append_drop i a]
  unfold pairs
  rw [List.flatMap_append, List.length_append]
  omega
def sp__law_ways (Γ : Gm) : Sp := fun vs H Q _ => ∃ n : Nat, vs = [.int n] ∧ 1 ≤ n ∧ n ≤ 8 ∧ ∀ l xs H', Same H H' → H' l = some (.lst xs) → TpAll H' xs ((waysN n).map Wy.data) → Q (.ref l) H'
/-- law_ways: _law_heap, _law_found, _law_size, _law_own, _law_one, _law_left, _law_right -/
def t__law_ways (Γ : Gm) : TS := (tSeq (tAsg (tLst (tCons (tLst tNil) (tCons (tLst (tCons (tC (.int 1)) tNil)) tNil))) (gName 1))
  (tSeq (tFor (iRng2 (tCons (tC (.int 2)) (tCons (tOp (rAddU Γ.K) (tVar 0) (tC (.int 1))) tNil))) (gName 2) (tSeq (tAsg (tLst tNil) (gName 3))
  (tSeq (tFor (iRng2 (tCons (tC (.int 1)) (tCons (tVar 2) tNil))) (gName 4) (tFor (iSeq Γ.K (tOp (rIx Γ.K) (tVar 1) (tVar 4))) (gName 5) (tAsg (tOp (rAddU Γ.K) (tVar 3) (tLc (iSeq Γ.K (tOp (rIx Γ.K) (tVar 1) (tOp rSubI (tVar 2) (tVar 4)))) (gName 6) tYes (tTup (tCons (tVar 5) (tCons (tVar 6) tNil))) [6])) (gName 3))))
  (tDrop (tBM Γ.K "list" rAppend (tVar 1) (tCons (tVar 3) tNil))))))
  (tRet (tOp (rIx Γ.K) (tVar 1) (tVar 0)))))
theorem rd__law_ways (Γ : Gm) (vs : List V) (H : Hp) (Q : VK) (E : XK) (h : sp__law_ways Γ vs H Q E) : t__law_ways Γ ⟨fun _ H' => Q .non H', Q, fun _ _ => False, fun _ _ => False⟩ (startN 7 vs) H := by
  obtain ⟨n, rfl, h1, h8, k⟩ := h
  unfold t__law_ways
  walk_at "ss"
  refine n_lst fun l0 H1 f1 e1 g1 => ?_
  walk_at "ss"
  refine n_lst fun l1 H2 f2 e2 g2 => ?_
  walk_at "ss"
  refine n_lst fun L H3 f3 e3 g3 => ?_
  walk_at "ss"
  refine k_rng2 (by omega) ?_
  have e02 := e1.trans e2
  have fL : H2 L = none := f3
  have nl0 : l0 ≠ L := fun z => by subst z; rw [e2 _ _ g1] at f3; cases f3
  have nl1 : l1 ≠ L := fun z => by subst z; rw [g2] at f3; cases f3
  refine k_range (fun i σ H' => ∃ refs x2 x3 x4 x5 x6, σ = [some (.int n), some (.ref L), x2, x3, x4, x5, x6] ∧ WI H2 H' L refs (wTab i)) ⟨[l0, l1], none, none, none, none, none, rfl, e3, g3, rfl, fun a ha => ?_, fun j ws hj => ?_⟩ ?_ ?_
  · simp only [List.mem_cons, List.not_mem_nil, or_false] at ha
    rcases ha with rfl | rfl
    · exact nl0
    · exact nl1
  · match j, hj with
    | 0, hj =>
      cases hj
      exact ⟨l0, rfl, [], (e2.trans e3) _ _ g1, .nil⟩
    | 1, hj =>
      cases hj
      exact ⟨l1, rfl, _, e3 _ _ g2, .cons (.int 1) .nil⟩
  · rintro i σ H4 hi ⟨refs, x2, x3, x4, x5, x6, rfl, I⟩
    have hi' : i + 2 ≤ n := by omega
    have tl := wTab_len i
    have sz := wTab_sz i (by omega)
    have szs := wTab_szs i (by omega)
    have getw : ∀ j, j < i + 2 → ∃ a, refs[j]? = some a ∧ WL H4 a ((wTab i).getD j []) := fun j hj => by
      obtain ⟨a, h1, h2⟩ := I.at_ j _ (List.getElem?_eq_getElem (by omega))
      refine ⟨a, h1, ?_⟩
      rw [List.getD_eq_getElem?_getD, List.getElem?_eq_getElem (by omega)]
      exact h2
    walk_at "ss"
    refine n_lst fun M0 H5 f5 e5 g5 => ?_
    walk_at "ss"
    refine k_rng2 (by omega) ?_
    refine k_range (fun j σ H' => ∃ M x4 x5 x6, σ = [some (.int n), some (.ref L), some (.int (2 + (i : Int))), some (.ref M), x4, x5, x6] ∧ Same H4 H' ∧ WL H' M (nextW (wTab i) (i + 2) j) ∧ H4 M = none) ⟨M0, _, _, _, rfl, e5, ⟨[], g5, .nil⟩, f5⟩ ?_ ?_
    · rintro j σ H6 hj ⟨M, x4', x5', x6', rfl, e6, w6, fM⟩
      have hj' : j < i + 1 := by omega
      obtain ⟨a, ra, wa⟩ := getw (j + 1) (by omega)
      obtain ⟨b, rb, wb⟩ := getw (i + 2 - (j + 1)) (by omega)
      obtain ⟨xs, ga, ta⟩ := wa
      obtain ⟨ys, gb, tb⟩ := wb
      have lx := ta.length
      have ly := tb.length
      rw [List.length_map] at lx ly
      have total : (nextW (wTab i) (i + 2) (j + 1)).length ≤ 1430 := Nat.le_trans (nextW_le _ _ _ (i + 1) (by omega)) sz
      rw [nextW_succ, List.length_append] at total
      have lb : ((wTab i).getD (i + 2 - (j + 1)) []).length ≤ 1430 := by
        rw [List.getD_eq_getElem?_getD, List.getElem?_eq_getElem (by omega)]
        exact szs _ (List.getElem_mem _)
      walk_at "ss"
      refine w_ixL (SqL.of (e6 _ _ I.l)) (atI_of (x := .ref a) (by omega) (by rw [List.getElem?_map, show (1 + (j : Int)).toNat = j + 1 by omega, ra]; rfl)) ?_
      refine k_seqL (SqL.of (e6 _ _ ga)) ?_
      refine k_list (xs := xs) (fun q σ H' => ∃ M x5 x6, σ = [some (.int n), some (.ref L), some (.int (2 + (i : Int))), some (.ref M), some (.int (1 + (j : Int))), x5, x6] ∧ Same H4 H' ∧ WL H' M (nextW (wTab i) (i + 2) j ++ pairs (((wTab i).getD (j + 1) []).take q) ((wTab i).getD (i + 2 - (j + 1)) [])) ∧ H4 M = none) ⟨M, _, _, rfl, e6, by simpa [pairs] using w6, fM⟩ (fun q σ H' _ ⟨_, _, _, _, e, _⟩ => SqL.of (e _ _ ga)) ?_ ?_
      · rintro q x σ H7 hq ⟨M', x5'', x6'', rfl, e7, w7, fM'⟩
        obtain ⟨d, hd, tx⟩ := ta.get' hq
        rw [List.getElem?_map] at hd
        obtain ⟨l, hl, rfl⟩ := Option.map_eq_some_iff.mp hd
        have le := pairs_le (a := (wTab i).getD (j + 1) []) (b := (wTab i).getD (i + 2 - (j + 1)) []) (i := q + 1)
        rw [pairs_take hl, List.length_append, List.length_map] at le
        walk_at "ss"
        refine w_ixL (SqL.of (e7 _ _ I.l)) (atI_of (x := .ref b) (by omega) (by rw [List.getElem?_map, show (2 + (i : Int) - (1 + (j : Int))).toNat = i + 2 - (j + 1) by omega, rb]; rfl)) ?_
        refine k_seqL (SqL.of (e7 _ _ gb)) ?_
        refine k_lcList (fun c acc H' => TpAll H' acc ((((wTab i).getD (i + 2 - (j + 1)) []).take c).map fun r => (Wy.two l r).data)) (SqL.of (e7 _ _ gb)) (fun _ _ => .nil) ?_ ?_
        · rintro c y D acc H8 hc hD e8 hacc tacc
          obtain ⟨d, hd, ty⟩ := tb.get' hc
          rw [List.getElem?_map] at hd
          obtain ⟨r, hr, rfl⟩ := Option.map_eq_some_iff.mp hd
          have hcl : c < ((wTab i).getD (i + 2 - (j + 1)) []).length := (List.getElem?_eq_some_iff.mp hr).1
          have al := tacc.length
          rw [List.length_map, List.length_take] at al
          walk_at "ss"
          refine ⟨rfl, ?_⟩
          walk_at "ss"
          refine n_tup fun p H9 f9 e9 g9 => ?_
          have d9 := e9 _ _ hacc
          have u9 : Tups H9 (upd H9 D (.lst (acc ++ [.ref p]))) := (Same.refl H9).tups.upd (fun xs z => by rw [d9] at z; cases z)
          refine lcTurn.mk hD (e8.trans e9) d9 (by omega) ?_
          rw [take_succ hr, List.map_append]
          refine (tacc.mono (e9.tups.trans u9)).append (.cons (.tup (u9 _ _ g9) (.cons (tx.mono ((e7.trans (e8.trans e9)).tups.trans u9)) (.cons (ty.mono ((e7.trans (e8.trans e9)).tups.trans u9)) .nil))) .nil)
        · rintro D acc H8 hD e8 hacc tacc
          rw [ly, List.take_length] at tacc
          have al := tacc.length
          rw [List.length_map] at al
          obtain ⟨zs, gM, tM⟩ := w7
          have zl := tM.length
          rw [List.length_map, List.length_append] at zl
          refine w_addL (e8 _ _ gM) hacc (Nat.le_trans (m := 100000) (by omega) (by decide)) fun P H9 f9 e9 g9 => ?_
          walk_at "ss"
          refine ⟨P, _, _, rfl, e7.trans (e8.trans e9), ⟨_, g9, ?_⟩, (e7.trans e8).free f9⟩
          rw [pairs_take hl, ← List.append_assoc, List.map_append, List.map_map]
          exact (tM.mono (e8.trans e9).tups).append (tacc.mono e9.tups)
      · rintro σ H7 ⟨M', x5'', x6'', rfl, e7, w7, fM'⟩
        walk_at "ss"
        refine ⟨M', _, _, _, rfl, e7, ?_, fM'⟩
        rw [lx, List.take_length] at w7
        rw [nextW_succ]
        exact w7
    · rintro σ H6 ⟨M, x4', x5', x6', rfl, e6, w6, fM⟩
      rw [show (2 + (i : Int) - 1).toNat = i + 1 by omega] at w6
      have gL := e6 _ _ I.l
      walk_at "ss"
      refine w_tyL gL ?_
      walk_at "ss"
      have il := I.len
      refine w_app gL (by rw [List.length_map]; omega) ?_
      have hL2 : Same H2 (upd H6 L (.lst (refs.map V.ref ++ [.ref M]))) := Same.mut (I.same.trans e6) fL
      have nM : M ≠ L := fun z => by subst z; rw [I.l] at fM; cases fM
      have u6 : Tups H6 (upd H6 L (.lst (refs.map V.ref ++ [.ref M]))) := (Same.refl H6).tups.upd (fun xs z => by rw [gL] at z; cases z)
      have wl : ∀ {a : Addr} {ws : List Wy}, a ≠ L → WL H6 a ws → WL (upd H6 L (.lst (refs.map V.ref ++ [.ref M]))) a ws := fun ne ⟨xs, g1, g2⟩ => ⟨xs, by rw [upd_ne ne]; exact g1, g2.mono u6⟩
      refine ⟨refs ++ [M], _, _, _, _, _, rfl, hL2, by rw [upd_same, List.map_append]; rfl, by rw [List.length_append]; show _ = (wTab i ++ [_]).length; rw [List.length_append, il]; rfl, fun a ha => ?_, fun j ws hj => ?_⟩
      · rcases List.mem_append.mp ha with ha | ha
        · exact I.ne a ha
        · rw [List.mem_singleton] at ha
          rw [ha]
          exact nM
      · have hj2 : (wTab i ++ [nextW (wTab i) (i + 2) (i + 1)])[j]? = some ws := hj
        by_cases hjl : j < (wTab i).length
        · rw [List.getElem?_append_left hjl] at hj2
          obtain ⟨a, h1, h2⟩ := I.at_ j ws hj2
          refine ⟨a, by rw [List.getElem?_append_left (by omega)]; exact h1, wl (I.ne a (List.mem_of_getElem? h1)) (h2.mono e6)⟩
        · have hj3 : j = (wTab i).length := by
            have := (List.getElem?_eq_some_iff.mp hj2).1
            rw [List.length_append] at this
            simp only [List.length_cons, List.length_nil] at this
            omega
          subst hj3
          rw [List.getElem?_append_right (Nat.le_refl _), Nat.sub_self] at hj2
          cases hj2
          refine ⟨M, by rw [← il, List.getElem?_append_right (Nat.le_refl _), Nat.sub_self]; rfl, wl nM w6⟩
  · rintro σ H4 ⟨refs, x2, x3, x4, x5, x6, rfl, I⟩
    rw [show ((n : Int) + 1 - 2).toNat = n - 1 by omega] at I
    have tl := wTab_len (n - 1)
    obtain ⟨a, ra, xs, ga, ta⟩ := I.at_ n _ (List.getElem?_eq_getElem (by omega))
    walk_at "ss"
    refine w_ixL (SqL.of I.l) (atI_of (x := .ref a) (by omega) (by rw [List.getElem?_map, Int.toNat_natCast, ra]; rfl)) ?_
    refine k a xs H4 (e02.trans I.same) ga ?_
    unfold waysN
    rw [List.getD_eq_getElem?_getD, List.getElem?_eq_getElem (by omega)]
    exact ta

/-! ### the plain laws of the extremes -/
abbrev R.sum (r : R) (w : Wy) : Int := (r.row w).sum
theorem R.sum_one (r : R) : r.sum .one = 0 := rfl
theorem R.sum_two (r : R) (a b : Wy) : r.sum (.two a b) = r.pts a.things b.things + (r.sum a + r.sum b) := by
  show (r.row (.two a b)).sum = _
  rw [R.row_two, List.sum_cons, List.sum_append]
theorem things_two (a b : Wy) : (Wy.two a b).things = a.things + b.things := rfl
theorem best_low {r : R} {s : Int} {gs : List Int} (T : Tab r s gs) : ∀ w : Wy, w.things ≤ gs.length → fAt gs w.things ≤ s * r.sum w
  | .one, _ => by
    rw [R.sum_one, Int.mul_zero]
    exact Int.le_of_eq T.one
  | .two a b, h => by
    rw [things_two] at h
    have ha := a.pos
    have hb := b.pos
    have i1 := best_low T a (by omega)
    have i2 := best_low T b (by omega)
    have i3 := T.low (a.things + b.things) (by omega) h a.things ha (by omega)
    unfold cand at i3
    rw [show a.things + b.things - a.things = b.things by omega] at i3
    rw [things_two, R.sum_two, Int.mul_add, Int.mul_add]
    omega
theorem fw_ok {r : R} {s : Int} {gs : List Int} (T : Tab r s gs) : ∀ k n, 1 ≤ n → n ≤ k → n ≤ gs.length → (fwN r s gs k n).things = n ∧ s * r.sum (fwN r s gs k n) = fAt gs n
  | 0, n, h1, h2, _ => by omega
  | k + 1, n, h1, h2, h3 => by
    have unf : fwN r s gs (k + 1) n = if n = 1 then .one else .two (fwN r s gs k ((firsts r s gs n).headD 1)) (fwN r s gs k (n - (firsts r s gs n).headD 1)) := rfl
    rw [unf]
    by_cases e : n = 1
    · subst e
      rw [if_pos rfl, R.sum_one, Int.mul_zero]
      exact ⟨rfl, T.one.symm⟩
    rw [if_neg e]
    obtain ⟨i, is, ef⟩ := firsts_ne T (by omega) h3
    obtain ⟨i1, i2, i3⟩ := mem_firsts.mp (show i ∈ firsts r s gs n by rw [ef]; exact List.mem_cons_self ..)
    rw [ef]
    show (Wy.two (fwN r s gs k i) (fwN r s gs k (n - i))).things = n ∧ _
    obtain ⟨a1, a2⟩ := fw_ok T k i i1 (by omega) (by omega)
    obtain ⟨b1, b2⟩ := fw_ok T k (n - i) (by omega) (by omega) (by omega)
    refine ⟨by rw [things_two, a1, b1]; omega, ?_⟩
    show s * r.sum (Wy.two (fwN r s gs k i) (fwN r s gs k (n - i))) = _
    rw [R.sum_two, a1, b1, Int.mul_add, Int.mul_add, a2, b2, ← i3]
    unfold cand
    omega
theorem wTab_get : ∀ k m, 1 ≤ m → m ≤ k + 1 → (wTab k).getD m [] = waysN m
  | 0, m, h1, h2 => by
    have : m = 1 := by omega
    subst this
    rfl
  | k + 1, m, h1, h2 => by
    by_cases e : m = k + 2
    · subst e
      rfl
    · rw [← wTab_get k m h1 (by omega)]
      show (wTab k ++ [_]).getD m [] = _
      rw [List.getD_eq_getElem?_getD, List.getElem?_append_left (by rw [wTab_len]; omega), List.getD_eq_getElem?_getD]
theorem waysN_step {n : Nat} (h : 2 ≤ n) : waysN n = (List.range (n - 1)).flatMap fun j => pairs (waysN (j + 1)) (waysN (n - (j + 1))) := by
  obtain ⟨k, rfl⟩ : ∃ k, n = k + 2 := ⟨n - 2, by omega⟩
  have e1 : waysN (k + 2) = nextW (wTab k) (k + 2) (k + 1) := by
    show (wTab k ++ [_]).getD (k + 2) [] = _
    rw [List.getD_eq_getElem?_getD, List.getElem?_append_right (by rw [wTab_len]; exact Nat.le_refl _), wTab_len, Nat.sub_self]
    rfl
  rw [e1]
  unfold nextW
  show (List.range (k + 1)).flatMap _ = (List.range (k + 1)).flatMap _
  have : ∀ l : List Nat, (∀ j ∈ l, j < k + 1) → l.flatMap (fun j => pairs ((wTab k).getD (j + 1) []) ((wTab k).getD (k + 2 - (j + 1)) [])) = l.flatMap fun j => pairs (waysN (j + 1)) (waysN (k + 2 - (j + 1))) := by
    intro l
    induction l with
    | nil => intro _; rfl
    | cons a l ih =>
      intro h
      have ha := h a (List.mem_cons_self ..)
      rw [List.flatMap_cons, List.flatMap_cons, ih fun j hj => h j (List.mem_cons_of_mem _ hj), wTab_get k (a + 1) (by omega) (by omega), wTab_get k (k + 2 - (a + 1)) (by omega) (by omega)]
  exact this _ fun j hj => List.mem_range.mp hj
theorem mem_pairs {a b : List Wy} {w : Wy} : w ∈ pairs a b ↔ ∃ l ∈ a, ∃ r ∈ b, w = .two l r := by
  unfold pairs
  simp only [List.mem_flatMap, List.mem_map]
  constructor
  · rintro ⟨l, hl, r, hr, rfl⟩
    exact ⟨l, hl, r, hr, rfl⟩
  · rintro ⟨l, hl, r, hr, rfl⟩
    exact ⟨l, hl, r, hr, rfl⟩
theorem ways_things : ∀ n, 1 ≤ n → ∀ w ∈ waysN n, w.things = n := by
  intro n
  induction n using Nat.strongRecOn with
  | ind n ih =>
    intro h1 w hw
    by_cases e : n = 1
    · subst e
      have : w ∈ [Wy.one] := hw
      rw [List.mem_singleton] at this
      rw [this]
      rfl
    · rw [waysN_step (by omega), List.mem_flatMap] at hw
      obtain ⟨j, hj, hw⟩ := hw
      have := List.mem_range.mp hj
      obtain ⟨l, hl, r, hr, rfl⟩ := mem_pairs.mp hw
      rw [things_two, ih (j + 1) (by omega) (by omega) l hl, ih (n - (j + 1)) (by omega) (by omega) r hr]
      omega
/-! ### the first best way, and how many -/
def isB (r : R) (s : Int) (gs : List Int) (n : Nat) (w : Wy) : Bool := decide (s * r.sum w = fAt gs n)
theorem isB_two {r : R} {s : Int} {gs : List Int} (T : Tab r s gs) {n i : Nat} (i1 : 1 ≤ i) (i2 : i < n) (hg : n ≤ gs.length) {a b : Wy} (ha : a.things = i) (hb : b.things = n - i) :
    isB r s gs n (.two a b) = (decide (cand r s gs n i = fAt gs n) && (isB r s gs i a && isB r s gs (n - i) b)) := by
  have l1 := best_low T a (by omega)
  have l2 := best_low T b (by omega)
  have l3 := T.low n (by omega) hg i i1 i2
  rw [ha] at l1
  rw [hb] at l2
  unfold isB
  rw [R.sum_two, ha, hb, Int.mul_add, Int.mul_add, Bool.eq_iff_iff]
  simp only [Bool.and_eq_true, decide_eq_true_eq]
  unfold cand at l3 ⊢
  constructor
  · intro h
    refine ⟨?_, ?_, ?_⟩ <;> omega
  · rintro ⟨h1, h2, h3⟩
    omega
theorem find_pairs {p pa pb : Wy → Bool} {c : Bool} : ∀ (A B : List Wy), (∀ a ∈ A, ∀ b ∈ B, p (.two a b) = (c && (pa a && pb b))) → (pairs A B).find? p = if c then (A.find? pa).bind (fun a => (B.find? pb).map fun b => Wy.two a b) else none
  | [], B, _ => by cases c <;> rfl
  | a :: A, B, h => by
    have ih := find_pairs A B fun a' ha' b hb => h a' (List.mem_cons_of_mem _ ha') b hb
    have hd : pairs (a :: A) B = (B.map fun b => Wy.two a b) ++ pairs A B := by
      unfold pairs
      rw [List.flatMap_cons]
    have inner : ∀ B' : List Wy, (∀ b ∈ B', p (.two a b) = (c && (pa a && pb b))) → (B'.map fun b => Wy.two a b).find? p = if c && pa a then (B'.find? pb).map fun b => Wy.two a b else none := by
      intro B'
      induction B' with
      | nil => intro _; cases (c && pa a) <;> rfl
      | cons b B' ihb =>
        intro hB
        rw [List.map_cons, List.find?_cons, List.find?_cons, hB b (List.mem_cons_self ..), ihb fun b' hb' => hB b' (List.mem_cons_of_mem _ hb')]
        cases c <;> cases pa a <;> cases pb b <;> rfl
    rw [hd, List.find?_append, inner B fun b hb => h a (List.mem_cons_self ..) b hb, ih, List.find?_cons]
    cases c with
    | false => rfl
    | true =>
      cases pa a with
      | false => rfl
      | true =>
        simp only [Bool.and_self, if_true]
        cases B.find? pb with
        | none =>
          show (none : Option Wy).or _ = none
          cases A.find? pa <;> rfl
        | some b => rfl
theorem find_flat {p : Wy → Bool} {q : Nat → Bool} {f : Nat → List Wy} {X : Nat → Wy} : ∀ (l : List Nat), (∀ j ∈ l, (f j).find? p = if q j then some (X j) else none) → (l.flatMap f).find? p = (l.find? q).map X
  | [], _ => rfl
  | j :: l, h => by
    rw [List.flatMap_cons, List.find?_append, h j (List.mem_cons_self ..), List.find?_cons, find_flat l fun j' hj' => h j' (List.mem_cons_of_mem _ hj')]
    cases q j <;> rfl
theorem find_ways {r : R} {s : Int} {gs : List Int} (T : Tab r s gs) : ∀ n, 1 ≤ n → n ≤ gs.length → ∀ k, n ≤ k → (waysN n).find? (isB r s gs n) = some (fwN r s gs k n) := by
  intro n
  induction n using Nat.strongRecOn with
  | ind n ih =>
    intro h1 hg k hk
    obtain ⟨k, rfl⟩ : ∃ k', k = k' + 1 := ⟨k - 1, by omega⟩
    have unf : fwN r s gs (k + 1) n = if n = 1 then .one else .two (fwN r s gs k ((firsts r s gs n).headD 1)) (fwN r s gs k (n - (firsts r s gs n).headD 1)) := rfl
    rw [unf]
    by_cases e : n = 1
    · subst e
      rw [if_pos rfl]
      show List.find? _ [Wy.one] = _
      rw [List.find?_cons]
      have : isB r s gs 1 .one = true := decide_eq_true (by rw [R.sum_one, Int.mul_zero]; exact T.one.symm)
      rw [this]
    rw [if_neg e, waysN_step (by omega)]
    rw [find_flat (q := fun j => decide (cand r s gs n (j + 1) = fAt gs n)) (X := fun j => .two (fwN r s gs k (j + 1)) (fwN r s gs k (n - (j + 1))))]
    · obtain ⟨i, is, ef⟩ := firsts_ne T (by omega) hg
      rw [ef]
      show _ = some (Wy.two (fwN r s gs k i) (fwN r s gs k (n - i)))
      have : ∀ l : List Nat, (l.map (· + 1)).filter (fun i => decide (cand r s gs n i = fAt gs n)) = i :: is → l.find? (fun j => decide (cand r s gs n (j + 1) = fAt gs n)) = some (i - 1) ∧ 1 ≤ i := by
        intro l
        induction l with
        | nil => intro h; cases h
        | cons a l ihl =>
          intro h
          rw [List.map_cons, List.filter_cons] at h
          rw [List.find?_cons]
          cases hb : decide (cand r s gs n (a + 1) = fAt gs n) with
          | true =>
            rw [hb] at h
            simp only [if_true] at h
            injection h with h1 h2
            subst h1
            exact ⟨rfl, by omega⟩
          | false =>
            rw [hb] at h
            simp only [Bool.false_eq_true, if_false] at h
            exact ihl h
      obtain ⟨z1, z2⟩ := this (List.range (n - 1)) ef
      rw [z1]
      show some (Wy.two (fwN r s gs k (i - 1 + 1)) (fwN r s gs k (n - (i - 1 + 1)))) = _
      rw [show i - 1 + 1 = i by omega]
    · intro j hj
      have hj' := List.mem_range.mp hj
      rw [find_pairs (pa := isB r s gs (j + 1)) (pb := isB r s gs (n - (j + 1))) (c := decide (cand r s gs n (j + 1) = fAt gs n))]
      · rw [ih (j + 1) (by omega) (by omega) (by omega) k (by omega), ih (n - (j + 1)) (by omega) (by omega) (by omega) k (by omega)]
        rfl
      · intro a ha b hb
        exact isB_two T (by omega) (by omega) hg (ways_things _ (by omega) a ha) (ways_things _ (by omega) b hb)
theorem count_pairs {p pa pb : Wy → Bool} {c : Bool} : ∀ (A B : List Wy), (∀ a ∈ A, ∀ b ∈ B, p (.two a b) = (c && (pa a && pb b))) → (pairs A B).countP p = if c then A.countP pa * B.countP pb else 0
  | [], B, _ => by
    show 0 = _
    cases c <;> simp
  | a :: A, B, h => by
    have ih := count_pairs A B fun a' ha' b hb => h a' (List.mem_cons_of_mem _ ha') b hb
    have hd : pairs (a :: A) B = (B.map fun b => Wy.two a b) ++ pairs A B := by
      unfold pairs
      rw [List.flatMap_cons]
    have inner : ∀ B' : List Wy, (∀ b ∈ B', p (.two a b) = (c && (pa a && pb b))) → (B'.map fun b => Wy.two a b).countP p = if c && pa a then B'.countP pb else 0 := by
      intro B'
      induction B' with
      | nil => intro _; cases (c && pa a) <;> rfl
      | cons b B' ihb =>
        intro hB
        rw [List.map_cons, List.countP_cons, List.countP_cons, hB b (List.mem_cons_self ..), ihb fun b' hb' => hB b' (List.mem_cons_of_mem _ hb')]
        cases c <;> cases pa a <;> cases pb b <;> rfl
    rw [hd, List.countP_append, inner B fun b hb => h a (List.mem_cons_self ..) b hb, ih, List.countP_cons]
    cases c <;> cases pa a <;> simp [Nat.add_mul, Nat.add_comm]
theorem count_ways {r : R} {s : Int} {gs cs : List Int} (T : Tab r s gs) (C : Cnt r s gs cs) : ∀ n, 1 ≤ n → n ≤ gs.length → n < cs.length → (((waysN n).countP (isB r s gs n) : Nat) : Int) = cs.getD n 0 := by
  intro n
  induction n using Nat.strongRecOn with
  | ind n ih =>
    intro h1 hg hc
    by_cases e : n = 1
    · subst e
      rw [C.one]
      show ((List.countP _ [Wy.one] : Nat) : Int) = 1
      have : isB r s gs 1 .one = true := decide_eq_true (by rw [R.sum_one, Int.mul_zero]; exact T.one.symm)
      rw [List.countP_cons, this]
      rfl
    rw [waysN_step (by omega), C.step n (by omega) hc]
    unfold firsts
    have : ∀ l : List Nat, (∀ j ∈ l, j + 1 < n) → (((l.flatMap fun j => pairs (waysN (j + 1)) (waysN (n - (j + 1)))).countP (isB r s gs n) : Nat) : Int) = (((l.map (· + 1)).filter fun i => decide (cand r s gs n i = fAt gs n)).map fun i => cs.getD i 0 * cs.getD (n - i) 0).sum := by
      intro l
      induction l with
      | nil => intro _; rfl
      | cons j l ihl =>
        intro h
        have hj := h j (List.mem_cons_self ..)
        rw [List.flatMap_cons, List.countP_append, List.map_cons, List.filter_cons]
        have il := ihl fun j' hj' => h j' (List.mem_cons_of_mem _ hj')
        rw [count_pairs (pa := isB r s gs (j + 1)) (pb := isB r s gs (n - (j + 1))) (c := decide (cand r s gs n (j + 1) = fAt gs n)) _ _ fun a ha b hb => isB_two T (by omega) (by omega) hg (ways_things _ (by omega) a ha) (ways_things _ (by omega) b hb)]
        have c1 := ih (j + 1) (by omega) (by omega) (by omega) (by omega)
        have c2 := ih (n - (j + 1)) (by omega) (by omega) (by omega) (by omega)
        cases hb : decide (cand r s gs n (j + 1) = fAt gs n) with
        | true =>
          simp only [if_true]
          rw [List.map_cons, List.sum_cons, ← il, ← c1, ← c2, Int.natCast_add, Int.natCast_mul]
        | false =>
          simp only [Bool.false_eq_true, if_false]
          rw [← il]
          omega
    exact this _ fun j hj => by have := List.mem_range.mp hj; omega

/-! ### ways read off a row of points -/
def wby (r : R) : Nat → Nat → List Int → List (Wy × List Int)
  | 0, _, _ => []
  | k + 1, n, row => if n = 1 then [(.one, row)] else (List.range (n - 1)).flatMap fun j => if row.head? = some (r.pts (j + 1 : Nat) (n - (j + 1) : Nat)) then (wby r k (j + 1) row.tail).flatMap fun p => (wby r k (n - (j + 1)) p.2).map fun q => (Wy.two p.1 q.1, q.2) else []
/-- what is left of a row behind a way's own -/
def pre (r : R) (row : List Int) (w : Wy) : Option (Wy × List Int) := if r.row w = row.take (r.row w).length then some (w, row.drop (r.row w).length) else none
theorem pre_some {r : R} {row : List Int} {w : Wy} (h : r.row w = row.take (r.row w).length) : pre r row w = some (w, row.drop (r.row w).length) := if_pos h
theorem pre_none {r : R} {row : List Int} {w : Wy} (h : ¬ r.row w = row.take (r.row w).length) : pre r row w = none := if_neg h
theorem pre_two {r : R} {row : List Int} {a b : Wy} : pre r row (.two a b) = if row.head? = some (r.pts a.things b.things) then (pre r row.tail a).bind (fun p => (pre r p.2 b).map fun q => (Wy.two p.1 q.1, q.2)) else none := by
  have e := r.row_two a b
  have el : (r.row (.two a b)).length = (r.row a).length + (r.row b).length + 1 := by rw [e, List.length_cons, List.length_append]
  cases row with
  | nil =>
    rw [pre_none (by rw [e]; simp), if_neg (by simp)]
  | cons x xs =>
    show pre r (x :: xs) (.two a b) = if some x = some (r.pts a.things b.things) then (pre r xs a).bind _ else none
    have et : (x :: xs).take (r.row (.two a b)).length = x :: xs.take ((r.row a).length + (r.row b).length) := by rw [el, List.take_succ_cons]
    have ed : (x :: xs).drop (r.row (.two a b)).length = xs.drop ((r.row a).length + (r.row b).length) := by rw [el, List.drop_succ_cons]
    by_cases hx : x = r.pts a.things b.things
    · rw [if_pos (by rw [hx])]
      by_cases h1 : r.row a = xs.take (r.row a).length
      · rw [pre_some h1]
        show _ = (pre r (xs.drop (r.row a).length) b).map fun q => (Wy.two a q.1, q.2)
        by_cases h2 : r.row b = (xs.drop (r.row a).length).take (r.row b).length
        · rw [pre_some h2, pre_some (by rw [et, e, ← hx, List.take_add, ← h1, ← h2]), ed]
          show some _ = some _
          rw [List.drop_drop]
        · rw [pre_none h2, pre_none (fun h => ?_)]
          · rfl
          · rw [et, e, ← hx, List.take_add, ← h1] at h
            injection h with _ h
            exact h2 (List.append_cancel_left h)
      · rw [pre_none h1, pre_none (fun h => ?_)]
        · rfl
        · rw [et, e, ← hx, List.take_add] at h
          injection h with _ h
          have hl : (r.row a).length ≤ xs.length := by
            have := congrArg List.length h
            simp only [List.length_append, List.length_take, List.length_drop] at this
            omega
          exact h1 (List.append_inj_left h (by rw [List.length_take]; omega))
    · rw [if_neg (fun z => by injection z with z; exact hx z), pre_none (fun h => ?_)]
      rw [et, e] at h
      injection h with h _
      exact hx h.symm
theorem fm_pairs {r : R} {row : List Int} {i m : Nat} : ∀ (A B : List Wy), (∀ a ∈ A, a.things = i) → (∀ b ∈ B, b.things = m) → (pairs A B).filterMap (pre r row) = if row.head? = some (r.pts (i : Nat) (m : Nat)) then (A.filterMap (pre r row.tail)).flatMap (fun p => (B.filterMap (pre r p.2)).map fun q => (Wy.two p.1 q.1, q.2)) else []
  | [], B, _, _ => by
    show [] = _
    split <;> rfl
  | a :: A, B, hA, hB => by
    have ih := fm_pairs (r := r) (row := row) A B (fun a' h => hA a' (List.mem_cons_of_mem _ h)) hB
    have ha := hA a (List.mem_cons_self ..)
    have hd : pairs (a :: A) B = (B.map fun b => Wy.two a b) ++ pairs A B := by
      unfold pairs
      rw [List.flatMap_cons]
    have inner : ∀ B' : List Wy, (∀ b ∈ B', b.things = m) → (B'.map fun b => Wy.two a b).filterMap (pre r row) = if row.head? = some (r.pts (i : Nat) (m : Nat)) then (match pre r row.tail a with | none => [] | some p => (B'.filterMap (pre r p.2)).map fun q => (Wy.two p.1 q.1, q.2)) else [] := by
      intro B'
      induction B' with
      | nil =>
        intro _
        split
        · cases pre r row.tail a <;> rfl
        · rfl
      | cons b B' ihb =>
        intro hb
        have hb1 := hb b (List.mem_cons_self ..)
        rw [List.map_cons, List.filterMap_cons, ihb fun b' h => hb b' (List.mem_cons_of_mem _ h), pre_two, ha, hb1]
        by_cases hh : row.head? = some (r.pts (i : Nat) (m : Nat))
        · rw [if_pos hh, if_pos hh, if_pos hh]
          cases pre r row.tail a with
          | none => rfl
          | some p =>
            simp only [Option.bind_some, List.filterMap_cons]
            cases pre r p.2 b <;> rfl
        · rw [if_neg hh, if_neg hh, if_neg hh]
    rw [hd, List.filterMap_append, inner B hB, ih, List.filterMap_cons]
    by_cases hh : row.head? = some (r.pts (i : Nat) (m : Nat))
    · rw [if_pos hh, if_pos hh, if_pos hh]
      cases pre r row.tail a with
      | none => rfl
      | some p =>
        show _ = ((p :: A.filterMap (pre r row.tail)).flatMap _)
        rw [List.flatMap_cons]
    · rw [if_neg hh, if_neg hh, if_neg hh]
      rfl
theorem wby_eq {r : R} : ∀ (k n : Nat) (row : List Int), 1 ≤ n → n ≤ k → wby r k n row = (waysN n).filterMap (pre r row)
  | 0, n, row, h1, h2 => by omega
  | k + 1, n, row, h1, h2 => by
    have unf : wby r (k + 1) n row = if n = 1 then [(.one, row)] else (List.range (n - 1)).flatMap fun j => if row.head? = some (r.pts (j + 1 : Nat) (n - (j + 1) : Nat)) then (wby r k (j + 1) row.tail).flatMap fun p => (wby r k (n - (j + 1)) p.2).map fun q => (Wy.two p.1 q.1, q.2) else [] := rfl
    rw [unf]
    by_cases e : n = 1
    · subst e
      rw [if_pos rfl]
      show _ = [Wy.one].filterMap (pre r row)
      rw [List.filterMap_cons, pre_some (by show ([] : List Int) = row.take 0; rw [List.take_zero])]
      rfl
    rw [if_neg e, waysN_step (by omega)]
    have : ∀ l : List Nat, (∀ j ∈ l, j + 1 < n) → l.flatMap (fun j => if row.head? = some (r.pts (j + 1 : Nat) (n - (j + 1) : Nat)) then (wby r k (j + 1) row.tail).flatMap fun p => (wby r k (n - (j + 1)) p.2).map fun q => (Wy.two p.1 q.1, q.2) else []) = (l.flatMap fun j => pairs (waysN (j + 1)) (waysN (n - (j + 1)))).filterMap (pre r row) := by
      intro l
      induction l with
      | nil => intro _; rfl
      | cons j l ihl =>
        intro h
        have hj := h j (List.mem_cons_self ..)
        rw [List.flatMap_cons, List.flatMap_cons, List.filterMap_append, ihl fun j' h' => h j' (List.mem_cons_of_mem _ h'), fm_pairs (i := j + 1) (m := n - (j + 1)) _ _ (ways_things _ (by omega)) (ways_things _ (by omega))]
        congr 1
        by_cases hh : row.head? = some (r.pts (j + 1 : Nat) (n - (j + 1) : Nat))
        · rw [if_pos hh, if_pos hh, wby_eq k (j + 1) row.tail (by omega) (by omega)]
          congr 1
          funext p
          rw [wby_eq k (n - (j + 1)) p.2 (by omega) (by omega)]
        · rw [if_neg hh, if_neg hh]
    exact this _ fun j hj => by have := List.mem_range.mp hj; omega

/-! ### ways_by, told_ways -/
def wrD (p : Wy × List Int) : PyData := .tuple [p.1.data, .tuple (p.2.map PyData.int)]
theorem wby_len {r : R} {k n : Nat} {row : List Int} (h1 : 1 ≤ n) (h2 : n ≤ k) (h8 : n ≤ 8) : (wby r k n row).length ≤ 1430 := by
  rw [wby_eq k n row h1 h2]
  refine Nat.le_trans (List.length_filterMap_le _ _) ?_
  have := wTab_szs (n - 1) (by omega)
  refine this _ ?_
  unfold waysN
  rw [List.getD_eq_getElem?_getD, List.getElem?_eq_getElem (by rw [wTab_len]; omega)]
  exact List.getElem_mem _
theorem w_ext {l b : Addr} {xs zs : List V} {H : Hp} {Q : VK} (h1 : H l = some (.lst xs)) (h2 : H b = some (.lst zs)) (hz : xs.length + zs.length ≤ 100000) (h : Q .non (upd H l (.lst (xs ++ zs)))) : rExtend (.ref l) [.ref b] H Q := ⟨l, b, xs, zs, rfl, rfl, h1, h2, Nat.le_trans hz (by decide), h⟩
def spn_ways_by (Γ : Gm) (k : Nat) : Sp := fun vs H Q _ => ∃ v r, ∃ n : Nat, ∃ p row, vs = [v, .int n, p] ∧ RuleAt Γ H v r ∧ Tp H p (.tuple (row.map PyData.int)) ∧ row.length ≤ 1000 ∧ 1 ≤ n ∧ n ≤ k ∧ n ≤ 8 ∧ (n : Int) ≤ r.top ∧
  ∀ l xs H', Same H H' → H l = none → H' l = some (.lst xs) → TpAll H' xs ((wby r k n row).map wrD) → Q (.ref l) H'
def sp_ways_by (Γ : Gm) : Sp := spn_ways_by Γ 45
/-- ways_by: rule, heap, row, found, first, left, rest, right, last -/
def t_ways_by (Γ : Gm) (n : Nat) : TS := (tSeq (tIfS (tTest (tOp (rEqU Γ.K) (tVar 1) (tC (.int 1)))) (tRet (tLst (tCons (tTup (tCons (tC (.int 1)) (tCons (tVar 2) tNil))) tNil))) tNext)
  (tSeq (tAsg (tLst tNil) (gName 3))
  (tSeq (tFor (iRng2 (tCons (tC (.int 1)) (tCons (tVar 1) tNil))) (gName 4) (tIfS (tAnd (tTest (tOp rGt (tCB (rLen Γ.K) (tCons (tVar 2) tNil)) (tC (.int 0)))) (tTest (tOp (rEqU Γ.K) (tOp (rIx Γ.K) (tVar 2) (tC (.int 0))) (tCal (sp_points_by Γ) E0 (tCons (tVar 0) (tCons (tVar 4) (tCons (tOp rSubI (tVar 1) (tVar 4)) tNil))))))) (tFor (iSeq Γ.K (tCal (spn_ways_by Γ n) E0 (tCons (tVar 0) (tCons (tVar 4) (tCons (tSl (rSlU Γ.K) (tVar 2) (tPart (tC (.int 1))) tNoPart) tNil))))) (gTup Γ.K 2 (gCons (gName 5) (gCons (gName 6) gNil))) (tDrop (tBM Γ.K "list" rExtend (tVar 3) (tCons (tLc (iSeq Γ.K (tCal (spn_ways_by Γ n) E0 (tCons (tVar 0) (tCons (tOp rSubI (tVar 1) (tVar 4)) (tCons (tVar 6) tNil))))) (gTup Γ.K 2 (gCons (gName 7) (gCons (gName 8) gNil))) tYes (tTup (tCons (tTup (tCons (tVar 5) (tCons (tVar 7) tNil))) (tCons (tVar 8) tNil))) [7, 8]) tNil)))) tNext))
  (tRet (tVar 3)))))
theorem rd0_ways_by (Γ : Gm) (vs : List V) (H : Hp) (Q : VK) (E : XK) (h : spn_ways_by Γ 0 vs H Q E) : False := by
  obtain ⟨v, r, n, p, row, _, _, _, _, h1, h2, _⟩ := h
  omega
def stepW (r : R) (k n : Nat) (row : List Int) (j : Nat) : List (Wy × List Int) := if row.head? = some (r.pts (j + 1 : Nat) (n - (j + 1) : Nat)) then (wby r k (j + 1) row.tail).flatMap fun p => (wby r k (n - (j + 1)) p.2).map fun q => (Wy.two p.1 q.1, q.2) else []
theorem wby_step {r : R} {k n : Nat} {row : List Int} (h : n ≠ 1) : wby r (k + 1) n row = (List.range (n - 1)).flatMap (stepW r k n row) := if_neg h
theorem flat_le {α β : Type} (f : α → List β) : ∀ (l m : List α), ((l.flatMap f).length ≤ ((l ++ m).flatMap f).length)
  | l, m => by
    rw [List.flatMap_append, List.length_append]
    omega
theorem range_le {β : Type} (f : Nat → List β) {i n : Nat} (h : i ≤ n) : ((List.range i).flatMap f).length ≤ ((List.range n).flatMap f).length := by
  obtain ⟨d, rfl⟩ : ∃ d, n = i + d := ⟨n - i, by omega⟩
  rw [List.range_add]
  exact flat_le f _ _
theorem take_le {α β : Type} (f : α → List β) (l : List α) (i : Nat) : ((l.take i).flatMap f).length ≤ (l.flatMap f).length := by
  conv => rhs; rw [← List.take_append_drop i l]
  exact flat_le f _ _
theorem wr_inv {H : Hp} {x : V} {p : Wy × List Int} (h : Tp H x (wrD p)) : ∃ a y z, x = .ref a ∧ H a = some (.tup [y, z]) ∧ Tp H y p.1.data ∧ Tp H z (.tuple (p.2.map PyData.int)) := by
  obtain ⟨a, xs, rfl, ha, ta⟩ := h.inv
  cases ta with
  | cons h1 ta =>
    cases ta with
    | cons h2 ta =>
      cases ta
      exact ⟨a, _, _, rfl, ha, h1, h2⟩
/-- the rest of a row is a part of it -/
theorem wby_rest {r : R} {k n : Nat} {row : List Int} (h1 : 1 ≤ n) (h2 : n ≤ k) : ∀ p ∈ wby r k n row, p.2.length ≤ row.length := by
  intro p hp
  rw [wby_eq k n row h1 h2, List.mem_filterMap] at hp
  obtain ⟨w, _, h⟩ := hp
  unfold pre at h
  split at h
  · cases h
    rw [List.length_drop]
    omega
  · cases h
theorem rd_ways_by (Γ : Gm) (k : Nat) (vs : List V) (H : Hp) (Q : VK) (E : XK) (h : spn_ways_by Γ (k + 1) vs H Q E) : t_ways_by Γ k ⟨fun _ H' => Q .non H', Q, fun _ _ => False, fun _ _ => False⟩ (startN 9 vs) H := by
  obtain ⟨v, r, n, p, row, rfl, hr, hp, hrow, h1, hk, h8, htop, q⟩ := h
  unfold t_ways_by
  walk_at "ss"
  by_cases e : n = 1
  · subst e
    refine w_ifY rfl ?_
    walk_at "ss"
    refine n_tup fun t H1 f1 e1 g1 => ?_
    walk_at "ss"
    refine n_lst fun l H2 f2 e2 g2 => ?_
    exact q l _ H2 (e1.trans e2) (e1.free f2) g2 (.cons (.tup (e2 _ _ g1) (.cons (.int 1) (.cons (hp.mono (e1.trans e2).tups) .nil))) .nil)
  have lens := wby_len (r := r) (row := row) h1 hk h8
  rw [wby_step e] at q lens
  refine w_ifN (decide_eq_false (by omega)) ?_
  walk_at "ss"
  refine n_lst fun L H1 fL e1 g1 => ?_
  walk_at "ss"
  refine k_rng2 (by omega) ?_
  obtain ⟨pa, ps, rfl, hpa, tpa⟩ := hp.inv
  refine k_range (fun j σ H' => ∃ xs x4 x5 x6 x7 x8, σ = [some v, some (.int n), some (.ref pa), some (.ref L), x4, x5, x6, x7, x8] ∧ Same H H' ∧ H' L = some (.lst xs) ∧ TpAll H' xs (((List.range j).flatMap (stepW r k n row)).map wrD)) ⟨[], none, none, none, none, none, rfl, e1, g1, .nil⟩ ?_ ?_
  · rintro j σ H2 hj ⟨xs, x4, x5, x6, x7, x8, rfl, e2, g2, t2⟩
    have hj' : j + 1 < n := by omega
    walk_at "ss"
    refine w_lenT (SqT.of (e2 _ _ hpa)) ?_
    walk_at "ss"
    have tot := Nat.le_trans (range_le (stepW r k n row) (i := j + 1) (n := n - 1) (by omega)) lens
    rw [List.range_succ, List.flatMap_append, List.length_append, show [j].flatMap (stepW r k n row) = stepW r k n row j from by simp] at tot
    have xl := t2.length
    rw [List.length_map] at xl
    have nx : ∀ {H' : Hp} {zs : List V} {σ' : St}, (∃ x4 x5 x6 x7 x8, σ' = [some v, some (.int n), some (.ref pa), some (.ref L), x4, x5, x6, x7, x8]) → Same H H' → H' L = some (.lst zs) → TpAll H' zs (((List.range j).flatMap (stepW r k n row) ++ stepW r k n row j).map wrD) → ∃ xs x4 x5 x6 x7 x8, σ' = [some v, some (.int n), some (.ref pa), some (.ref L), x4, x5, x6, x7, x8] ∧ Same H H' ∧ H' L = some (.lst xs) ∧ TpAll H' xs (((List.range (j + 1)).flatMap (stepW r k n row)).map wrD) := fun ⟨x4, x5, x6, x7, x8, es⟩ a b c => ⟨_, x4, x5, x6, x7, x8, es, a, b, by rw [List.range_succ, List.flatMap_append]; simpa using c⟩
    have none_ : stepW r k n row j = [] → TpAll H2 xs (((List.range j).flatMap (stepW r k n row) ++ stepW r k n row j).map wrD) := fun z => by rw [z, List.append_nil]; exact t2
    have pl := tpa.length
    rw [List.length_map] at pl
    cases row with
    | nil =>
      have pl0 : ps.length = 0 := pl
      refine w_ifN (decide_eq_false (by omega)) ?_
      walk_at "ss"
      exact nx ⟨_, _, _, _, _, rfl⟩ e2 g2 (none_ (if_neg (by simp)))
    | cons x row' =>
      rw [List.length_cons] at pl hrow
      obtain ⟨y0, gy0, ty0⟩ := tpa.get (i := 0) rfl
      cases ty0
      refine w_ifY (decide_eq_true (by omega)) ?_
      walk_at "ss"
      refine w_ixT (SqT.of (e2 _ _ hpa)) (atI_of (by decide) gy0) ?_
      walk_at "ss"
      refine ⟨v, r, _, _, rfl, hr.mono e2, by omega, by omega, by omega, fun H3 e3 => ?_⟩
      have ec : r.pts (1 + (j : Int)) ((n : Int) - (1 + (j : Int))) = r.pts (j + 1 : Nat) (n - (j + 1) : Nat) := by
        rw [show (((j + 1 : Nat)) : Int) = 1 + (j : Int) by omega, show (((n - (j + 1) : Nat)) : Int) = (n : Int) - (1 + (j : Int)) by omega]
      rw [ec]
      walk_at "ss"
      by_cases hx : x = r.pts (j + 1 : Nat) (n - (j + 1) : Nat)
      · refine w_ifY (decide_eq_true hx) ?_
        have es : stepW r k n (x :: row') j = (wby r k (j + 1) row').flatMap fun p => (wby r k (n - (j + 1)) p.2).map fun q => (Wy.two p.1 q.1, q.2) := if_pos (by rw [hx]; rfl)
        rw [es] at tot nx
        walk_at "ss"
        refine w_slT (lo := some ((1 : Nat) : Int)) (hi := none) ((hp.mono e2.tups).mono e3.tups) fun u H4 e4 tu => ?_
        rw [cutD_from] at tu
        walk_at "ss"
        have e24 := e2.trans (e3.trans e4)
        refine ⟨v, r, j + 1, u, row', ?_, hr.mono e24, tu, by omega, by omega, by omega, by omega, by omega, fun l2 xs2 H5 e5 f5 g5 t5 => ?_⟩
        · rw [show (((j + 1 : Nat)) : Int) = 1 + (j : Int) by omega]
        have e25 := e24.trans e5
        have gL5 := (e3.trans (e4.trans e5)) _ _ g2
        have n2L : l2 ≠ L := fun z => by subst z; rw [(e3.trans e4) _ _ g2] at f5; cases f5
        have fl2 : (wby r k (j + 1) row').length ≤ 1430 := wby_len (by omega) (by omega) (by omega)
        have x2l := t5.length
        rw [List.length_map] at x2l
        refine k_seqL (SqL.of g5) ?_
        refine k_list (xs := xs2) (fun i2 σ H' => ∃ zs x5 x6 x7 x8, σ = [some v, some (.int n), some (.ref pa), some (.ref L), some (.int (1 + (j : Int))), x5, x6, x7, x8] ∧ Same H H' ∧ H' l2 = some (.lst xs2) ∧ Tups H5 H' ∧ H' L = some (.lst zs) ∧ TpAll H' zs (((List.range j).flatMap (stepW r k n (x :: row')) ++ ((wby r k (j + 1) row').take i2).flatMap fun p => (wby r k (n - (j + 1)) p.2).map fun q => (Wy.two p.1 q.1, q.2)).map wrD)) ⟨xs, _, _, _, _, rfl, e25, g5, fun _ _ z => z, gL5, by simpa using t2.mono (e3.trans (e4.trans e5)).tups⟩ (fun _ _ _ _ ⟨_, _, _, _, _, _, _, z, _⟩ => SqL.of z) ?_ ?_
        · rintro i2 y σ H6 hi2 ⟨zs, x5', x6', x7', x8', rfl, e6, g6, u6, gL6, t6⟩
          obtain ⟨d, hd, ty⟩ := t5.get' hi2
          rw [List.getElem?_map] at hd
          obtain ⟨p2, hp2, rfl⟩ := Option.map_eq_some_iff.mp hd
          obtain ⟨ya, yw, yr, rfl, gya, tyw, tyr⟩ := wr_inv (ty.mono u6)
          have rl := wby_rest (r := r) (k := k) (n := j + 1) (row := row') (by omega) (by omega) p2 (List.mem_of_getElem? hp2)
          refine w_gTup (SqT.of gya) rfl ?_
          walk_at "ss"
          refine w_tyL gL6 ?_
          walk_at "ss"
          refine ⟨v, r, n - (j + 1), yr, p2.2, ?_, hr.mono e6, tyr, by omega, by omega, by omega, by omega, by omega, fun l3 xs3 H7 e7 f7 g7 t7 => ?_⟩
          · rw [show (((n - (j + 1) : Nat)) : Int) = (n : Int) - (1 + (j : Int)) by omega]
          have x3l := t7.length
          rw [List.length_map] at x3l
          refine k_seqL (SqL.of g7) ?_
          have zl := t6.length
          rw [List.length_map, List.length_append] at zl
          have part := take_le (fun p : Wy × List Int => (wby r k (n - (j + 1)) p.2).map fun q => (Wy.two p.1 q.1, q.2)) (wby r k (j + 1) row') (i2 + 1)
          rw [take_succ hp2, List.flatMap_append, List.length_append, show [p2].flatMap (fun p : Wy × List Int => (wby r k (n - (j + 1)) p.2).map fun q => (Wy.two p.1 q.1, q.2)) = (wby r k (n - (j + 1)) p2.2).map (fun q => (Wy.two p2.1 q.1, q.2)) from by simp, List.length_map] at part
          refine k_lcList (fun c acc H' => TpAll H' acc (((wby r k (n - (j + 1)) p2.2).take c).map fun q => wrD (Wy.two p2.1 q.1, q.2))) (SqL.of g7) (fun _ _ => .nil) ?_ ?_
          · rintro c z D acc H8 hc hD e8 hacc tacc
            obtain ⟨d, hd, tz⟩ := t7.get' hc
            rw [List.getElem?_map] at hd
            obtain ⟨q3, hq3, rfl⟩ := Option.map_eq_some_iff.mp hd
            obtain ⟨za, zw, zr, rfl, gza, tzw, tzr⟩ := wr_inv (tz.mono e8.tups)
            have hcl : c < (wby r k (n - (j + 1)) p2.2).length := (List.getElem?_eq_some_iff.mp hq3).1
            have al := tacc.length
            rw [List.length_map, List.length_take] at al
            refine w_gTup (SqT.of gza) rfl ?_
            walk_at "ss"
            refine ⟨rfl, ?_⟩
            walk_at "ss"
            refine n_tup fun t9 H9 f9 e9 g9 => ?_
            walk_at "ss"
            refine n_tup fun t10 H10 f10 e10 g10 => ?_
            have dD := (e9.trans e10) _ _ hacc
            have uD : Tups H10 (upd H10 D (.lst (acc ++ [.ref t10]))) := (Same.refl H10).tups.upd (fun xs z => by rw [dD] at z; cases z)
            refine lcTurn.mk hD (e8.trans (e9.trans e10)) dD (by omega) ?_
            rw [take_succ hq3, List.map_append]
            have u810 := (e9.trans e10).tups.trans uD
            refine (tacc.mono u810).append (.cons (.tup (uD _ _ g10) (.cons (.tup ((e10.tups.trans uD) _ _ g9) (.cons (tyw.mono ((e7.trans e8).tups.trans u810)) (.cons (tzw.mono u810) .nil))) (.cons (tzr.mono u810) .nil))) .nil)
          · rintro D acc H8 hD e8 hacc tacc
            rw [x3l, List.take_length] at tacc
            have al := tacc.length
            rw [List.length_map] at al
            have gL8 := (e7.trans e8) _ _ gL6
            walk_at "ss"
            refine w_ext gL8 hacc (by omega) ?_
            have uL : Tups H8 (upd H8 L (.lst (zs ++ acc))) := (Same.refl H8).tups.upd (fun xs z => by rw [gL8] at z; cases z)
            refine ⟨zs ++ acc, _, _, _, _, rfl, Same.mut (e6.trans (e7.trans e8)) fL, by rw [upd_ne n2L]; exact (e7.trans e8) _ _ g6, u6.trans ((e7.trans e8).tups.trans uL), upd_same, ?_⟩
            rw [take_succ hp2, List.flatMap_append, show [p2].flatMap (fun p : Wy × List Int => (wby r k (n - (j + 1)) p.2).map fun q => (Wy.two p.1 q.1, q.2)) = (wby r k (n - (j + 1)) p2.2).map (fun q => (Wy.two p2.1 q.1, q.2)) from by simp, ← List.append_assoc, List.map_append, List.map_map]
            exact (t6.mono ((e7.trans e8).tups.trans uL)).append (tacc.mono uL)
        · rintro σ H6 ⟨zs, x5', x6', x7', x8', rfl, e6, g6, u6, gL6, t6⟩
          rw [x2l, List.take_length] at t6
          walk_at "ss"
          exact nx ⟨_, _, _, _, _, rfl⟩ e6 gL6 t6
      · refine w_ifN (decide_eq_false hx) ?_
        walk_at "ss"
        exact nx ⟨_, _, _, _, _, rfl⟩ (e2.trans e3) (e3 _ _ g2) ((none_ (if_neg (by simpa using hx))).mono e3.tups)
  · rintro σ H2 ⟨xs, x4, x5, x6, x7, x8, rfl, e2, g2, t2⟩
    rw [show ((n : Int) - 1).toNat = n - 1 by omega] at t2
    walk_at "ss"
    exact q L xs H2 e2 fL g2 t2

/-! ### told_ways -/
theorem k_lcTupT {K : PySem.W.Frag} {σ : St} {H : Hp} {Q : VK} {g : TG} {c : TT} {te : TE} {a : Addr} {xs : List V} {vs : List Nat} (P : Nat → List V → Hp → Prop) (hx : SqT K H a xs) (h0 : ∀ H', Same H H' → P 0 [] H')
    (hs : ∀ i x D acc H', xs[i]? = some x → H D = none → Same H H' → H' D = some (.lst acc) → P i acc H' → g x (wipe σ vs) H' fun σ2 H2 => wipe σ2 vs = wipe σ vs ∧ c σ2 H2 fun b H3 => if b = true then te σ2 H3 (lcTurn H D (P (i + 1))) else lcAt H D (P (i + 1)) H3)
    (hd : ∀ D acc H', H D = none → Same H H' → H' D = some (.lst acc) → P xs.length acc H' → Q (.ref D) H') : lcK (Itt K a) g c te vs σ H Q := fun D hD =>
  lc_tup (xs := xs) (fun i H' => lcAt H D (P i) H') ⟨[], hD, Same.new hD, upd_same, h0 _ (Same.new hD)⟩ (fun i H' _ ⟨_, _, e, _⟩ => e.seqT hx) (fun i x H' hi ⟨acc, _, e, ha, p⟩ => hs i x D acc H' hi hD e ha p) fun H' ⟨acc, _, e, ha, p⟩ => hd D acc H' hD e ha p
theorem Wy.flt : ∀ (w : Wy) {n : Nat}, w.things ≤ n → flatN n w.data = true
  | .one, 0, h => absurd h (by decide)
  | .one, n + 1, _ => rfl
  | .two l r, 0, h => by have := l.pos; have : l.things + r.things ≤ 0 := h; omega
  | .two l r, n + 1, h => by
    have h1 := l.pos
    have h2 := r.pos
    have h' : l.things + r.things ≤ n + 1 := h
    show (decide (2 ≤ 100000) && (flatN n l.data && (flatN n r.data && true))) = true
    rw [l.flt (by omega), r.flt (by omega)]
    rfl
theorem flat_ways {n : Nat} (hn : n ≤ 40) : ∀ ws : List Wy, (∀ w ∈ ws, w.things ≤ n) → flatAll 44 (ws.map Wy.data) = true
  | [], _ => by unfold flatAll; rfl
  | w :: ws, h => by
    rw [List.map_cons]
    unfold flatAll
    rw [w.flt (n := 44) (by have := h w (List.mem_cons_self ..); omega), flat_ways hn ws fun w' h' => h w' (List.mem_cons_of_mem _ h')]
    rfl
def isIntD : PyData → Bool
  | .int _ => true
  | _ => false
def rowD : PyData → Bool
  | .list ds => ds.all isIntD
  | .tuple ds => ds.all isIntD
  | _ => false
theorem Dv.isI {H : Hp} {v : V} {d : PyData} (h : Dv H v d) : isI v = isIntD d := by cases h <;> rfl
theorem all_intD : ∀ {ds : List PyData}, ds.all isIntD = true → ∃ ns : List Int, ds = ns.map PyData.int
  | [], _ => ⟨[], rfl⟩
  | d :: ds, h => by
    rw [List.all_cons, Bool.and_eq_true] at h
    obtain ⟨ns, e⟩ := all_intD h.2
    cases d with
    | int n => exact ⟨n :: ns, by rw [e]; rfl⟩
    | _ => simp [isIntD] at h
def DvLen : PyData → Nat
  | .list ds => ds.length
  | .tuple ds => ds.length
  | _ => 0
def toldW (r : R) (n : Nat) (row : List Int) : List Wy := (waysN n).filter fun w => decide (r.row w = row)
structure ToldK (Γ : Gm) (r : R) (n : Int) (d : PyData) (H : Hp) (Q : VK) (E : XK) : Prop where
  great : 10 < n → E (.ref Γ.cTooGreat) none H
  bad : n ≤ 10 → rowD d = false → ∀ H', Same H H' → E (.ref Γ.cBadRow) none H'
  good : n ≤ 10 → ∀ row : List Int, d = .list (row.map PyData.int) ∨ d = .tuple (row.map PyData.int) → n ≤ 8 ∧ row.length ≤ 1000 ∧ ∀ l xs H', Same H H' → H' l = some (.lst xs) → TpAll H' xs ((toldW r n.toNat row).map Wy.data) → Q (.ref l) H'
def sp_told_ways (Γ : Gm) : Sp := fun vs H Q E => ∃ v r n x d, vs = [v, .int n, x] ∧ RuleAt Γ H v r ∧ 1 ≤ n ∧ n ≤ 40 ∧ n ≤ r.top ∧ Dv H x d ∧ DvLen d ≤ 100000 ∧ ToldK Γ r n d H Q E
/-- told_ways: rule, heap, row, number, way, rest -/
def t_told_ways (Γ : Gm) (E : XK) : TS := (tSeq (tDrop (tCal (sp_check_heap Γ) E (tCons (tVar 0) (tCons (tVar 1) (tCons (tC (.int 40)) tNil)))))
  (tSeq (tIfS (tTest (tOp rGt (tVar 1) (tC (.int 10)))) (tRaise Γ.cTooGreat (fun cls d _ H => E cls d H)) tNext)
  (tSeq (tIfS (tOr (tNot (tB (tCB (rIsiT Γ.K) (tCons (tVar 2) (tCons (tTup (tCons (tC (.ty "list")) (tCons (tC (.ty "tuple")) tNil))) tNil))))) (tNot (tB (tCB (rAll Γ.K) (tCons (tLc (iSeq Γ.K (tVar 2)) (gName 3) tYes (tCal (sp_is_integer Γ) E0 (tCons (tVar 3) tNil)) [3]) tNil))))) (tRaise Γ.cBadRow (fun cls d _ H => E cls d H)) tNext)
  (tRet (tLc (iSeq Γ.K (tCal (sp_ways_by Γ) E0 (tCons (tVar 0) (tCons (tVar 1) (tCons (tCB (rTupOf Γ.K) (tCons (tVar 2) tNil)) tNil))))) (gTup Γ.K 2 (gCons (gName 4) (gCons (gName 5) gNil))) (tTest (tOp (rEqU Γ.K) (tCB (rLen Γ.K) (tCons (tVar 5) tNil)) (tC (.int 0)))) (tVar 4) [4, 5])))))
theorem told_fm {r : R} {n : Nat} {row : List Int} : ∀ (l : List Wy), (((l.filterMap (pre r row)).filter fun p => decide (p.2.length = 0)).map fun p => p.1) = l.filter fun w => decide (r.row w = row)
  | [] => rfl
  | w :: l => by
    have ih := told_fm (r := r) (n := n) (row := row) l
    rw [List.filterMap_cons]
    by_cases h : r.row w = row.take (r.row w).length
    · rw [pre_some h]
      by_cases e : r.row w = row
      · have hl : row.length ≤ (r.row w).length := by rw [e]; exact Nat.le_refl _
        rw [List.filter_cons, List.filter_cons, if_pos (decide_eq_true (by rw [List.length_drop]; omega)), if_pos (decide_eq_true e), List.map_cons, ih]
      · have hl : ¬ (row.drop (r.row w).length).length = 0 := fun z => by
          rw [List.length_drop] at z
          rw [List.take_of_length_le (by omega)] at h
          exact e h
        rw [List.filter_cons, List.filter_cons, if_neg (by rw [decide_eq_false hl]; decide), if_neg (by rw [decide_eq_false e]; decide), ih]
    · rw [pre_none h]
      have e : ¬ r.row w = row := fun z => h (by rw [z, List.take_of_length_le (Nat.le_refl _)])
      rw [List.filter_cons, if_neg (by rw [decide_eq_false e]; decide)]
      exact ih
theorem rd_told_ways (Γ : Gm) (vs : List V) (H : Hp) (Q : VK) (E : XK) (h : sp_told_ways Γ vs H Q E) : t_told_ways Γ E ⟨fun _ H' => Q .non H', Q, fun _ _ => False, fun _ _ => False⟩ (startN 6 vs) H := by
  obtain ⟨v, r, n, x, d, rfl, hr, h1, h40, htop, hd, hlen, kk⟩ := h
  unfold t_told_ways
  walk_at "ss"
  refine w_heap hr h1 h40 htop ?_
  walk_at "ss"
  refine w_ite (fun e => ?_) (fun e => ?_)
  · walk_at "ss"
    exact kk.great (of_decide_eq_true e)
  have n10 : n ≤ 10 := by have := of_decide_eq_false e; omega
  walk_at "ss"
  refine n_tup fun tp H1 f1 e1 g1 => ?_
  walk_at "ss"
  have d1 := hd.mono e1
  refine w_isiT (ns := ["list", "tuple"]) d1.tag g1 (by decide) ?_
  have ea : (["list", "tuple"].any fun n => isTy H1 n x) = (tyTab (tyD d) "list" || tyTab (tyD d) "tuple") := by
    rw [List.any_cons, List.any_cons, List.any_nil, Bool.or_false, d1.ty, d1.ty]
  rw [ea]
  walk_at "ss"
  have other : (∀ ds, d ≠ .list ds) → (∀ ds, d ≠ .tuple ds) → rowD d = false ∧ (tyTab (tyD d) "list" || tyTab (tyD d) "tuple") = false := fun h1 h2 => by
    cases d with
    | list ds => exact absurd rfl (h1 ds)
    | tuple ds => exact absurd rfl (h2 ds)
    | _ => exact ⟨rfl, by simp [tyD, tyTab]⟩
  by_cases hlt : ∃ ds : List PyData, d = .list ds ∨ d = .tuple ds
  rotate_left
  · obtain ⟨o1, o2⟩ := other (fun ds z => hlt ⟨ds, .inl z⟩) (fun ds z => hlt ⟨ds, .inr z⟩)
    rw [o2]
    walk_at "ss"
    exact kk.bad n10 o1 H1 e1
  obtain ⟨ds, hds⟩ := hlt
  have yes : (tyTab (tyD d) "list" || tyTab (tyD d) "tuple") = true := by rcases hds with rfl | rfl <;> simp [tyD, tyTab]
  rw [yes]
  walk_at "ss"
  obtain ⟨a, xs, rfl, seq, tds⟩ : ∃ a xs, x = .ref a ∧ (H1 a = some (.lst xs) ∨ H1 a = some (.tup xs)) ∧ DvAll H1 xs ds := by
    rcases hds with rfl | rfl
    · cases d1 with | lst g k => exact ⟨_, _, rfl, .inl g, k⟩
    · cases d1 with | tup g k => exact ⟨_, _, rfl, .inr g, k⟩
  have rd : rowD d = ds.all isIntD := by rcases hds with rfl | rfl <;> rfl
  have hdl : ds.length ≤ 100000 := by rcases hds with rfl | rfl <;> exact hlen
  have body : ∀ i x D acc H', xs[i]? = some x → H1 D = none → Same H1 H' → H' D = some (.lst acc) → acc = ((ds.take i).map isIntD).map V.bl →
      lcTurn H1 D (fun acc _ => acc = ((ds.take (i + 1)).map isIntD).map V.bl) (.bl (isI x)) H' := fun i x D acc H' hi hD e2 hacc ha => by
    obtain ⟨dx, hdx, tdx⟩ := tds.get' hi
    refine lcTurn.mk hD e2 hacc (by rw [ha, List.length_map, List.length_map, List.length_take]; omega) ?_
    rw [ha, take_succ hdx, List.map_append, List.map_append, tdx.isI]
    rfl
  have rest : ∀ D acc H2, H1 D = none → Same H1 H2 → H2 D = some (.lst acc) → acc = ((ds.take xs.length).map isIntD).map V.bl →
      rAll Γ.K [.ref D] H2 fun x H' => ∃ k, x = .bl k ∧ if (!k) = true then E (.ref Γ.cBadRow) none H' else
        tRet (tLc (iSeq Γ.K (tCal (sp_ways_by Γ) E0 (tCons (tVar 0) (tCons (tVar 1) (tCons (tCB (rTupOf Γ.K) (tCons (tVar 2) tNil)) tNil))))) (gTup Γ.K 2 (gCons (gName 4) (gCons (gName 5) gNil))) (tTest (tOp (rEqU Γ.K) (tCB (rLen Γ.K) (tCons (tVar 5) tNil)) (tC (.int 0)))) (tVar 4) [4, 5]) ⟨fun _ H' => Q .non H', Q, fun _ _ => False, fun _ _ => False⟩ [some v, some (.int n), some (.ref a), none, none, none] H' := fun D acc H2 hD e2 hacc ha => by
    rw [tds.length, List.take_length] at ha
    subst ha
    refine w_all (SqL.of hacc) ?_
    rw [show ((ds.map isIntD).all id) = ds.all isIntD from by rw [List.all_map]; rfl]
    refine ⟨_, rfl, ?_⟩
    cases hb : ds.all isIntD with
    | false => exact kk.bad n10 (by rw [rd, hb]) H2 (e1.trans e2)
    | true =>
      refine w_iteNT ?_
      obtain ⟨row, rfl⟩ := all_intD hb
      obtain ⟨n8, rl, good⟩ := kk.good n10 row hds
      obtain ⟨m, rfl⟩ : ∃ m : Nat, n = m := ⟨n.toNat, by omega⟩
      have s2 := e1.trans e2
      have seq2 : H2 a = some (.lst xs) ∨ H2 a = some (.tup xs) := seq.imp (e2 _ _) (e2 _ _)
      have fin : ∀ p H3, Same H2 H3 → Tp H3 p (.tuple (row.map PyData.int)) → (sp_ways_by Γ) [v, .int m, p] H3 (fun x H1 => kSeq Γ.K x H1 fun J H1 => lcK J (gTup Γ.K 2 (gCons (gName 4) (gCons (gName 5) gNil))) (tTest (tOp (rEqU Γ.K) (tCB (rLen Γ.K) (tCons (tVar 5) tNil)) (tC (.int 0)))) (tVar 4) [4, 5] [some v, some (.int m), some (.ref a), none, none, none] H1 Q) E0 := fun p H3 e3 tp3 => by
        refine ⟨v, r, m, p, row, rfl, hr.mono (s2.trans e3), tp3, rl, by omega, by omega, by omega, htop, fun l ys H4 e4 f4 g4 t4 => ?_⟩
        refine k_seqL (SqL.of g4) ?_
        have fl := wby_len (r := r) (k := 45) (n := m) (row := row) (by omega) (by omega) (by omega)
        have yl := t4.length
        rw [List.length_map] at yl
        refine k_lcListT (fun i acc H' => TpAll H' acc (((((wby r 45 m row).take i).filter fun p => decide (p.2.length = 0)).map fun p => p.1.data))) (SqL.of g4) (fun _ _ => .nil) ?_ ?_
        · rintro i y D acc H5 hi hD e5 hacc tacc
          obtain ⟨dd, hdd, ty⟩ := t4.get' hi
          rw [List.getElem?_map] at hdd
          obtain ⟨q, hq, rfl⟩ := Option.map_eq_some_iff.mp hdd
          obtain ⟨za, zw, zr, rfl, gza, tzw, tzr⟩ := wr_inv (ty.mono e5.tups)
          obtain ⟨zb, zs, rfl, gzb, tzs⟩ := tzr.inv
          have zl := tzs.length
          rw [List.length_map] at zl
          refine w_gTup (SqT.of gza) rfl ?_
          walk_at "ss"
          refine ⟨rfl, ?_⟩
          walk_at "ss"
          refine w_lenT (SqT.of gzb) ?_
          walk_at "ss"
          rw [take_succ hq, List.filter_append, List.map_append]
          have al := tacc.length
          rw [List.length_map] at al
          have al2 := List.length_filter_le (fun p : Wy × List Int => decide (p.2.length = 0)) ((wby r 45 m row).take i)
          rw [List.length_take] at al2
          rw [zl]
          by_cases h0 : q.2.length = 0
          · refine w_ifY (decide_eq_true (by omega)) ?_
            walk_at "ss"
            have uD : Tups H5 (upd H5 D (.lst (acc ++ [zw]))) := (Same.refl H5).tups.upd (fun xs z => by rw [hacc] at z; cases z)
            refine lcTurn.mk hD e5 hacc (by omega) ?_
            rw [List.filter_cons, if_pos (decide_eq_true h0), List.filter_nil]
            exact (tacc.mono uD).append (.cons (tzw.mono uD) .nil)
          · refine w_ifN (decide_eq_false (by omega)) ?_
            refine ⟨acc, hD, e5, hacc, ?_⟩
            rw [List.filter_cons, if_neg (by rw [decide_eq_false h0]; decide), List.filter_nil, List.map_nil, List.append_nil]
            exact tacc
        · rintro D acc H5 hD e5 hacc tacc
          rw [yl, List.take_length, wby_eq 45 m row (by omega) (by omega)] at tacc
          have := told_fm (r := r) (n := m) (row := row) (waysN m)
          refine good D acc H5 (s2.trans (e3.trans (e4.trans e5))) hacc ?_
          show TpAll H5 acc ((List.filter _ (waysN (m : Int).toNat)).map Wy.data)
          rw [Int.toNat_natCast, ← this, List.map_map]
          exact tacc
      have tpr : ∀ {H3 : Hp} {p : Addr}, Same H2 H3 → H3 p = some (.tup xs) → Tp H3 (.ref p) (.tuple (row.map PyData.int)) := fun e3 g => by
        have ex : xs = row.map V.int := by
          clear seq seq2 body hds kk d1 hd
          have : ∀ {ys : List V} {ms : List Int}, DvAll H1 ys (ms.map PyData.int) → ys = ms.map V.int := by
            intro ys ms
            induction ms generalizing ys with
            | nil => intro t; cases t; rfl
            | cons m ms ih =>
              intro t
              cases t with
              | cons h1 h2 => rw [dv_int h1, ih h2]; rfl
          exact this tds
        subst ex
        exact .tup g (TpAll.of_ints _ _)
      walk_at "ss"
      rcases seq2 with g | g
      · refine w_tupL (SqL.of g) fun p H3 f3 e3 g3 => ?_
        walk_at "ss"
        exact fin _ H3 e3 (tpr e3 g3)
      · refine w_tupT (SqT.of g) ?_
        walk_at "ss"
        exact fin _ H2 (Same.refl H2) (tpr (Same.refl H2) g)
  rcases seq with g | g
  · refine k_seqL (SqL.of g) ?_
    refine k_lcList (fun i acc _ => acc = ((ds.take i).map isIntD).map V.bl) (SqL.of g) (fun _ _ => rfl) (fun i x D acc H' hi hD e2 hacc ha => ?_) fun D acc H2 hD e2 hacc ha => ?_
    · obtain ⟨dx, hdx, tdx⟩ := tds.get' hi
      walk_at "ss"
      refine ⟨rfl, ?_⟩
      walk_at "ss"
      exact ⟨x, rfl, (tdx.mono e2).tag, body i x D acc H' hi hD e2 hacc ha⟩
    · walk_at "ss"
      exact rest D acc H2 hD e2 hacc ha
  · refine k_seqT (SqT.of g) ?_
    refine k_lcTup (fun i acc _ => acc = ((ds.take i).map isIntD).map V.bl) (SqT.of g) (fun _ _ => rfl) (fun i x D acc H' hi hD e2 hacc ha => ?_) fun D acc H2 hD e2 hacc ha => ?_
    · obtain ⟨dx, hdx, tdx⟩ := tds.get' hi
      walk_at "ss"
      refine ⟨rfl, ?_⟩
      walk_at "ss"
      exact ⟨x, rfl, (tdx.mono e2).tag, body i x D acc H' hi hD e2 hacc ha⟩
    · walk_at "ss"
      exact rest D acc H2 hD e2 hacc ha

/-! ### the tables of least points: there is just one -/
theorem tab_uniq {r : R} {s : Int} {gs gs' : List Int} (T : Tab r s gs) (T' : Tab r s gs') {n : Nat} (h1 : 1 ≤ n) (h : n ≤ gs.length) (h' : n ≤ gs'.length) : fAt gs n = fAt gs' n := by
  obtain ⟨a1, a2⟩ := fw_ok T n n h1 (Nat.le_refl n) h
  obtain ⟨b1, b2⟩ := fw_ok T' n n h1 (Nat.le_refl n) h'
  have c1 := best_low T (fwN r s gs' n n) (by rw [b1]; exact h)
  have c2 := best_low T' (fwN r s gs n n) (by rw [a1]; exact h')
  rw [b1, b2] at c1
  rw [a1, a2] at c2
  omega
theorem min_ex (f : Nat → Int) : ∀ n, 1 ≤ n → ∃ i, 1 ≤ i ∧ i < n + 1 ∧ ∀ j, 1 ≤ j → j < n + 1 → f i ≤ f j
  | 0, h => absurd h (by decide)
  | 1, _ => ⟨1, by decide, by decide, fun j h1 h2 => by rw [show j = 1 by omega]; exact Int.le_refl _⟩
  | n + 2, _ => by
    obtain ⟨i, i1, i2, i3⟩ := min_ex f (n + 1) (by omega)
    by_cases c : f i ≤ f (n + 2)
    · refine ⟨i, i1, by omega, fun j j1 j2 => ?_⟩
      by_cases e : j = n + 2
      · rw [e]; exact c
      · exact i3 j j1 (by omega)
    · refine ⟨n + 2, by omega, by omega, fun j j1 j2 => ?_⟩
      by_cases e : j = n + 2
      · rw [e]; exact Int.le_refl _
      · have := i3 j j1 (by omega)
        omega
theorem tab_ex (r : R) (s : Int) : ∀ n, ∃ gs : List Int, gs.length = n + 1 ∧ Tab r s gs
  | 0 => ⟨[0], rfl, ⟨rfl, fun n n2 n3 => by simp only [List.length_cons, List.length_nil] at n3; omega, fun n n2 n3 => by simp only [List.length_cons, List.length_nil] at n3; omega⟩⟩
  | n + 1 => by
    obtain ⟨gs, hl, T⟩ := tab_ex r s n
    obtain ⟨i, i1, i2, i3⟩ := min_ex (fun i => cand r s gs (gs.length + 1) i) gs.length (by omega)
    exact ⟨gs ++ [cand r s gs (gs.length + 1) i], by rw [List.length_append, hl]; rfl, T.app (by omega) (fun j j1 j2 => i3 j j1 j2) ⟨i, i1, i2, rfl⟩⟩

/-! ### whiles, walks of any kind -/
/-- one turn of a while: N is what it comes to -/
def whK (tb : TS) (Pv : Nat → St → Hp → Prop) (m : Nat) (rt : VK) (nx : St → Hp → Prop) (σ : St) (H : Hp) : Prop := ∃ N : St → Hp → Prop, (∀ σ' H', N σ' H' → ∃ m', m' < m ∧ Pv m' σ' H') ∧ tb ⟨N, rt, nx, N⟩ σ H
theorem k_while {c : TT} {tb : TS} {nx bk ct : St → Hp → Prop} {rt : VK} {σ : St} {H : Hp} (Pv : Nat → St → Hp → Prop) (m : Nat) (h0 : Pv m σ H) (hs : ∀ m σ H, Pv m σ H → c σ H fun b H1 => if b = true then whK tb Pv m rt nx σ H1 else nx σ H1) : tWhile c tb ⟨nx, rt, bk, ct⟩ σ H := ⟨Pv, ⟨m, h0⟩, hs⟩
theorem whK.mk {tb : TS} {Pv : Nat → St → Hp → Prop} {m : Nat} {rt : VK} {nx : St → Hp → Prop} {σ : St} {H : Hp} (h : tb ⟨fun σ' H' => ∃ m', m' < m ∧ Pv m' σ' H', rt, nx, fun σ' H' => ∃ m', m' < m ∧ Pv m' σ' H'⟩ σ H) : whK tb Pv m rt nx σ H := ⟨_, fun _ _ z => z, h⟩
theorem k_it {J : It} {n : Nat} {G : Hp → Prop} {Y : Nat → Hp → V → Hp → Prop} {g : TG} {t : TS} {nx : St → Hp → Prop} {rt : VK} {σ : St} {H : Hp} (w : Walk J n G Y) (Pv : Nat → St → Hp → Prop) (h0 : Pv 0 σ H) (hG : ∀ i σ H, i ≤ n → Pv i σ H → G H)
    (hs : ∀ i x σ H H', i < n → Pv i σ H → Y i H x H' → g x σ H' fun σ2 H2 => t ⟨Pv (i + 1), rt, nx, Pv (i + 1)⟩ σ2 H2) (hd : ∀ σ H, Pv n σ H → nx σ H) : forK J g t nx rt σ H :=
  for_it w (D := ⟨nx, rt, fun _ _ => False, fun _ _ => False⟩) Pv h0 hG hs hd
theorem k_lcIt {J : It} {n : Nat} {G : Hp → Prop} {Y : Nat → Hp → V → Hp → Prop} {g : TG} {c : TT} {te : TE} {vs : List Nat} {σ : St} {H : Hp} {Q : VK} (w : Walk J n G Y) (hG : ∀ H', Same H H' → G H') (P : Nat → List V → Hp → Prop) (h0 : ∀ H', Same H H' → P 0 [] H')
    (hs : ∀ i x D acc H1 H', i < n → H D = none → Same H H1 → H1 D = some (.lst acc) → P i acc H1 → Y i H1 x H' → g x (wipe σ vs) H' fun σ2 H2 => wipe σ2 vs = wipe σ vs ∧ c σ2 H2 fun b H3 => if b = true then te σ2 H3 (lcTurn H D (P (i + 1))) else lcAt H D (P (i + 1)) H3)
    (hd : ∀ D acc H', H D = none → Same H H' → H' D = some (.lst acc) → P n acc H' → Q (.ref D) H') : lcK J g c te vs σ H Q := fun D hD =>
  lc_it w (fun i H' => lcAt H D (P i) H') ⟨[], hD, Same.new hD, upd_same, h0 _ (Same.new hD)⟩ (fun i H' _ ⟨_, _, e, _⟩ => hG _ e) (fun i x H1 H' hi ⟨acc, _, e, ha, p⟩ y => hs i x D acc H1 H' hi hD e ha p y) fun H' ⟨acc, _, e, ha, p⟩ => hd D acc H' hD e ha p
theorem k_enL {K : PySem.W.Frag} {H : Hp} {a : Addr} {xs : List V} {R : It → Hp → Prop} (hx : SqL K H a xs) (h : R (Ite K a) H) : kEnum K [.ref a] H R := .inl ⟨a, xs, rfl, hx, h⟩
theorem atI_last {α : Type} {l : List α} {x : α} (h : l[l.length - 1]? = some x) (h0 : 0 < l.length) : atI l (-1) = some x := by
  unfold atI ixN
  rw [if_neg (by decide), if_pos (by omega)]
  show l[((l.length : Int) + -1).toNat]? = _
  rw [show ((l.length : Int) + -1).toNat = l.length - 1 by omega]
  exact h
/-! ### fractions -/
def frD (a b : Int) : PyData := .tuple [.int a, .int b]
def ratD (q : Rat) : PyData := frD q.num q.den
/-- how great a fraction's numbers are -/
def bdR (a b : Nat) (q : Rat) : Prop := q.num.natAbs ≤ 2 ^ a ∧ q.den ≤ 2 ^ b
theorem bdR.mono {a b a' b' : Nat} {q : Rat} (h : bdR a b q) (h1 : a ≤ a') (h2 : b ≤ b') : bdR a' b' q := ⟨Nat.le_trans h.1 (Nat.pow_le_pow_right (by decide) h1), Nat.le_trans h.2 (Nat.pow_le_pow_right (by decide) h2)⟩
theorem bd_mk {o : Int} {u a b : Nat} (ho : o.natAbs ≤ 2 ^ a) (hu : u ≤ 2 ^ b) : bdR a b (mkRat o u) := by
  unfold bdR
  rw [Rat.num_mkRat, Rat.den_mkRat]
  by_cases h : u = 0
  · rw [if_pos h, if_pos h]
    exact ⟨by simp, Nat.two_pow_pos b⟩
  · rw [if_neg h, if_neg h]
    refine ⟨Nat.le_trans ?_ ho, Nat.le_trans (Nat.div_le_self _ _) hu⟩
    rw [Int.natAbs_ediv_of_dvd]
    · exact Nat.div_le_self _ _
    · exact Int.ofNat_dvd_left.mpr (Nat.gcd_dvd_right _ _)
theorem bd_add {a b c d : Nat} {p q : Rat} (hp : bdR a b p) (hq : bdR c d q) : bdR (a + b + c + d + 1) (b + d) (p + q) := by
  rw [Rat.add_def']
  refine bd_mk ?_ ?_
  · refine Nat.le_trans (Int.natAbs_add_le _ _) ?_
    rw [Int.natAbs_mul, Int.natAbs_mul, Int.natAbs_natCast, Int.natAbs_natCast]
    have h1 : p.num.natAbs * q.den ≤ 2 ^ (a + b + c + d) := Nat.le_trans (Nat.mul_le_mul hp.1 hq.2) (by rw [← Nat.pow_add]; exact Nat.pow_le_pow_right (by decide) (by omega))
    have h2 : q.num.natAbs * p.den ≤ 2 ^ (a + b + c + d) := Nat.le_trans (Nat.mul_le_mul hq.1 hp.2) (by rw [← Nat.pow_add]; exact Nat.pow_le_pow_right (by decide) (by omega))
    rw [Nat.pow_succ]
    omega
  · rw [Nat.pow_add]
    exact Nat.mul_le_mul hp.2 hq.2
theorem fr_inv {H : Hp} {x : V} {a b : Int} (h : Tp H x (frD a b)) : ∃ p, x = .ref p ∧ H p = some (.tup [.int a, .int b]) := by
  obtain ⟨p, xs, rfl, hp, tp⟩ := h.inv
  have e := TpAll.ints (ns := [a, b]) tp
  subst e
  exact ⟨p, rfl, hp⟩
theorem fr_mk {H : Hp} {p : Addr} {a b : Int} (h : H p = some (.tup [.int a, .int b])) : Tp H (.ref p) (frD a b) := .tup h (.cons (.int a) (.cons (.int b) .nil))
def sp_lowest (Γ : Gm) : Sp := fun vs H Q _ => ∃ (o : Int) (u : Nat), vs = [.int o, .int u] ∧ 0 < u ∧ u ≤ 2 ^ 8000 ∧ ∀ x H', Same H H' → Tp H' x (ratD (mkRat o u)) → Q x H'
/-- lowest: over, under, great, less -/
def t_lowest (Γ : Gm) : TS := (tSeq (tPar 2 3 (tCons (tCB rAbs (tCons (tVar 0) tNil)) (tCons (tVar 1) tNil)))
  (tSeq (tWhile (tTest (tOp (rNeU Γ.K) (tVar 3) (tC (.int 0)))) (tPar 2 3 (tCons (tVar 3) (tCons (tOp rModI (tVar 2) (tVar 3)) tNil))))
  (tRet (tTup (tCons (tOp rDivI (tVar 0) (tVar 2)) (tCons (tOp rDivI (tVar 1) (tVar 2)) tNil))))))
theorem rd_lowest (Γ : Gm) (vs : List V) (H : Hp) (Q : VK) (E : XK) (h : sp_lowest Γ vs H Q E) : t_lowest Γ ⟨fun _ H' => Q .non H', Q, fun _ _ => False, fun _ _ => False⟩ (startN 4 vs) H := by
  obtain ⟨o, u, rfl, hu, hb, k⟩ := h
  unfold t_lowest
  walk_at "ss"
  refine k_while (fun m σ H' => ∃ G L : Nat, σ = [some (.int o), some (.int u), some (.int G), some (.int L)] ∧ H' = H ∧ m = L ∧ Nat.gcd G L = Nat.gcd u o.natAbs) u ⟨o.natAbs, u, ?_, rfl, rfl, Nat.gcd_comm _ _⟩ ?_
  · have : (if o < 0 then -o else o) = (o.natAbs : Int) := by split <;> omega
    rw [this]
    rfl
  · rintro m σ H' ⟨G, L, rfl, rfl, rfl, hg⟩
    walk_at "ss"
    by_cases hL : m = 0
    · subst hL
      refine w_ifN (by rw [decide_eq_true (by omega)]; rfl) ?_
      rw [Nat.gcd_zero_right] at hg
      have gu : G ≤ u := by rw [hg]; exact Nat.le_of_dvd hu (Nat.gcd_dvd_left _ _)
      have g0 : 0 < G := by rw [hg]; exact Nat.gcd_pos_of_pos_left _ hu
      have gl : (G : Int).natAbs.log2 < 9000 := by
        rw [Int.natAbs_natCast]
        have := log2_le (n := G) (k := 8000) (Nat.le_trans gu hb)
        omega
      walk_at "ss"
      refine w_divI ⟨by omega, gl⟩ ?_
      walk_at "ss"
      refine w_divI ⟨by omega, gl⟩ ?_
      walk_at "ss"
      refine n_tup fun p H1 f1 e1 g1 => ?_
      refine k _ H1 e1 ?_
      unfold ratD
      rw [Rat.num_mkRat, Rat.den_mkRat, if_neg (by omega), if_neg (by omega), ← hg]
      refine fr_mk ?_
      rw [Int.natCast_ediv]
      exact g1
    · refine w_ifY (by rw [decide_eq_false (by omega)]; rfl) ?_
      refine whK.mk ?_
      walk_at "ss"
      refine ⟨G % m, Nat.mod_lt _ (Nat.pos_of_ne_zero hL), m, G % m, ?_, rfl, rfl, ?_⟩
      · rw [Int.natCast_emod]
        rfl
      · rw [← hg, Nat.gcd_comm m, Nat.gcd_comm G]
        exact (Nat.gcd_rec m G).symm
def sp_plus (Γ : Gm) : Sp := fun vs H Q _ => ∃ x y, ∃ a c : Int, ∃ b d : Nat, vs = [x, y] ∧ Tp H x (frD a b) ∧ Tp H y (frD c d) ∧ 0 < b ∧ 0 < d ∧ a.natAbs ≤ 2 ^ 200000 ∧ c.natAbs ≤ 2 ^ 200000 ∧ b ≤ 2 ^ 4000 ∧ d ≤ 2 ^ 4000 ∧ ∀ z H', Same H H' → Tp H' z (ratD (mkRat a b + mkRat c d)) → Q z H'
/-- plus: one, other -/
def t_plus (Γ : Gm) : TS := (tRet (tCal (sp_lowest Γ) E0 (tCons (tOp (rAddU Γ.K) (tOp (rMulU Γ.K) (tOp (rIx Γ.K) (tVar 0) (tC (.int 0))) (tOp (rIx Γ.K) (tVar 1) (tC (.int 1)))) (tOp (rMulU Γ.K) (tOp (rIx Γ.K) (tVar 1) (tC (.int 0))) (tOp (rIx Γ.K) (tVar 0) (tC (.int 1))))) (tCons (tOp (rMulU Γ.K) (tOp (rIx Γ.K) (tVar 0) (tC (.int 1))) (tOp (rIx Γ.K) (tVar 1) (tC (.int 1)))) tNil))))
theorem rd_plus (Γ : Gm) (vs : List V) (H : Hp) (Q : VK) (E : XK) (h : sp_plus Γ vs H Q E) : t_plus Γ ⟨fun _ H' => Q .non H', Q, fun _ _ => False, fun _ _ => False⟩ (startN 2 vs) H := by
  obtain ⟨x, y, a, c, b, d, rfl, hx, hy, hb, hd, ba, bc, bb, bd, k⟩ := h
  obtain ⟨p, rfl, hp⟩ := fr_inv hx
  obtain ⟨q, rfl, hq⟩ := fr_inv hy
  have hbb : (b : Int).natAbs ≤ 2 ^ 4000 := by rw [Int.natAbs_natCast]; exact bb
  have hdd : (d : Int).natAbs ≤ 2 ^ 4000 := by rw [Int.natAbs_natCast]; exact bd
  have p0 : atI [V.int a, V.int b] 0 = some (.int a) := atI0 _ _
  have p1 : atI [V.int a, V.int b] 1 = some (.int b) := atI1 _ _ _
  have q0 : atI [V.int c, V.int d] 0 = some (.int c) := atI0 _ _
  have q1 : atI [V.int c, V.int d] 1 = some (.int d) := atI1 _ _ _
  unfold t_plus
  walk_at "s"
  walk_at "s"
  walk_at "s"
  walk_at "s"
  walk_at "s"
  walk_at "s"
  walk_at "s"
  walk_at "s"
  refine w_ixT (SqT.of hp) p0 ?_
  walk_at "s"
  walk_at "s"
  walk_at "s"
  refine w_ixT (SqT.of hq) q1 ?_
  refine w_mulI (cmul_of ba hdd) ?_
  walk_at "s"
  walk_at "s"
  walk_at "s"
  walk_at "s"
  refine w_ixT (SqT.of hq) q0 ?_
  walk_at "s"
  walk_at "s"
  walk_at "s"
  refine w_ixT (SqT.of hp) p1 ?_
  refine w_mulI (cmul_of bc hbb) ?_
  refine w_addI ?_
  walk_at "s"
  walk_at "s"
  walk_at "s"
  walk_at "s"
  walk_at "s"
  refine w_ixT (SqT.of hp) p1 ?_
  walk_at "s"
  walk_at "s"
  walk_at "s"
  refine w_ixT (SqT.of hq) q1 ?_
  refine w_mulI (cmul_of hbb hdd) ?_
  walk_at "s"
  refine ⟨a * d + c * b, b * d, by rw [Int.natCast_mul], Nat.mul_pos hb hd, ?_, fun z H' e t => ?_⟩
  · refine Nat.le_trans (Nat.mul_le_mul bb bd) ?_
    rw [← Nat.pow_add]
    exact Nat.le_refl _
  · refine k z H' e ?_
    rw [Rat.mkRat_add_mkRat _ _ (by omega) (by omega)]
    exact t

/-! ### polynomials by their coefficients, fractions: the plain part -/
def evalR : List Rat → Rat → Rat
  | [], _ => 0
  | c :: cs, x => c + x * evalR cs x
/-- times (x - root) -/
def goR (root : Rat) : Rat → List Rat → List Rat
  | p, [] => [p]
  | p, c :: cs => (p - root * c) :: goR root c cs
def tRoot (root : Rat) (R : List Rat) : List Rat := goR root 0 R
theorem goR_eval (root : Rat) : ∀ (R : List Rat) (p x : Rat), evalR (goR root p R) x = p + (x - root) * evalR R x
  | [], p, x => by
    show p + x * 0 = p + (x - root) * 0
    grind
  | c :: cs, p, x => by
    show (p - root * c) + x * evalR (goR root c cs) x = p + (x - root) * (c + x * evalR cs x)
    rw [goR_eval root cs c x]
    grind
theorem tRoot_eval (root : Rat) (R : List Rat) (x : Rat) : evalR (tRoot root R) x = (x - root) * evalR R x := by
  unfold tRoot
  rw [goR_eval]
  grind
theorem goR_len (root : Rat) : ∀ (R : List Rat) (p : Rat), (goR root p R).length = R.length + 1
  | [], _ => rfl
  | c :: cs, p => by
    show (goR root c cs).length + 1 = _
    rw [goR_len root cs c]
    rfl
theorem goR_at (root : Rat) : ∀ (R : List Rat) (p : Rat) (i : Nat) (c : Rat), R[i]? = some c → ∃ q, (p :: R)[i]? = some q ∧ (goR root p R)[i]? = some (q - root * c)
  | [], _, _, _, h => by simp at h
  | c :: cs, p, 0, c', h => by
    have : c = c' := by simpa using h
    subst this
    exact ⟨p, rfl, rfl⟩
  | c :: cs, p, i + 1, c', h => by
    obtain ⟨q, h1, h2⟩ := goR_at root cs c i c' (by simpa using h)
    exact ⟨q, by simpa using h1, by
      show (goR root c cs)[i]? = _
      exact h2⟩
theorem goR_last (root : Rat) : ∀ (R : List Rat) (p : Rat), (goR root p R)[R.length]? = (p :: R)[R.length]?
  | [], _ => rfl
  | c :: cs, p => by
    show (goR root c cs)[cs.length]? = (c :: cs)[cs.length]?
    exact goR_last root cs c
/-- some of each, place by place -/
def addS (s0 : Int) (w : Nat) : List Rat → List Rat → List Rat
  | f :: fs, c :: cs => (f + mkRat (c.num * s0) (c.den * w)) :: addS s0 w fs cs
  | fs, [] => fs
  | [], _ => []
theorem addS_len (s0 : Int) (w : Nat) : ∀ (fs cs : List Rat), (addS s0 w fs cs).length = fs.length
  | f :: fs, c :: cs => by
    show (addS s0 w fs cs).length + 1 = fs.length + 1
    rw [addS_len s0 w fs cs]
  | [], [] => rfl
  | _ :: _, [] => rfl
  | [], _ :: _ => rfl
theorem addS_nil (s0 : Int) (w : Nat) (fs : List Rat) : addS s0 w fs [] = fs := by cases fs <;> rfl
theorem addS_at (s0 : Int) (w : Nat) : ∀ (fs cs : List Rat) (i : Nat) (f c : Rat), fs[i]? = some f → cs[i]? = some c → (addS s0 w fs cs)[i]? = some (f + mkRat (c.num * s0) (c.den * w))
  | [], _, _, _, _, h, _ => by simp at h
  | _, [], _, _, _, _, h => by simp at h
  | f :: fs, c :: cs, 0, f', c', h1, h2 => by
    have e1 : f = f' := by simpa using h1
    have e2 : c = c' := by simpa using h2
    subst e1 e2
    rfl
  | f :: fs, c :: cs, i + 1, f', c', h1, h2 => addS_at s0 w fs cs i f' c' (by simpa using h1) (by simpa using h2)
theorem addS_rest (s0 : Int) (w : Nat) : ∀ (fs cs : List Rat), (addS s0 w fs cs).drop cs.length = fs.drop cs.length
  | f :: fs, c :: cs => addS_rest s0 w fs cs
  | [], [] => rfl
  | _ :: _, [] => rfl
  | [], c :: cs => rfl
theorem mk_mul (q : Rat) (s : Int) (w : Nat) : mkRat (q.num * s) (q.den * w) = q * mkRat s w := by
  conv => rhs; rw [← Rat.mkRat_self q]
  rw [Rat.mkRat_mul_mkRat]
theorem mk_one (s : Int) : mkRat s 1 = (s : Rat) := by
  rw [← Rat.mkRat_self (s : Rat)]
  rfl
theorem mk_mul1 (q : Rat) (s : Int) : mkRat (q.num * s) q.den = q * (s : Rat) := by
  have := mk_mul q s 1
  rw [Nat.mul_one, mk_one] at this
  exact this
theorem addS_eval (s0 : Int) (w : Nat) (x : Rat) : ∀ (fs cs : List Rat), cs.length ≤ fs.length → evalR (addS s0 w fs cs) x = evalR fs x + mkRat s0 w * evalR cs x
  | [], [], _ => by
    show (0 : Rat) = 0 + mkRat s0 w * 0
    grind
  | f :: fs, [], _ => by
    show f + x * evalR fs x = f + x * evalR fs x + mkRat s0 w * 0
    grind
  | [], c :: cs, h => absurd h (by simp)
  | f :: fs, c :: cs, h => by
    show (f + mkRat (c.num * s0) (c.den * w)) + x * evalR (addS s0 w fs cs) x = f + x * evalR fs x + mkRat s0 w * (c + x * evalR cs x)
    rw [addS_eval s0 w x fs cs (by simpa using h), mk_mul]
    grind
def diffs (s : List Int) : List Int := List.zipWith (fun now later => later - now) s s.tail
def fac : Nat → Nat
  | 0 => 1
  | k + 1 => fac k * (k + 1)
/-- what stands after so many steps -/
def thS (ns : List Int) : Nat → List Rat × List Rat × List Int
  | 0 => (List.replicate 7 0, [1], ns)
  | k + 1 => (addS ((thS ns k).2.2.headD 0) (fac k) (thS ns k).1 (thS ns k).2.1, tRoot ((k + 1 : Nat) : Int) (thS ns k).2.1, diffs (thS ns k).2.2)
def thru (ns : List Int) : List Rat := (thS ns 7).1
/-! how great they are -/
def bk : Nat → Nat
  | 0 => 8
  | k + 1 => 2 * bk k + 8
def fk : Nat → Nat
  | 0 => 1
  | k + 1 => fk k + 10 * k + bk k + 80
theorem bk_le : ∀ k < 8, bk k ≤ 2100 := by decide
theorem fk_le : ∀ k < 8, fk k ≤ 9000 := by decide
theorem fac_le : ∀ k < 7, fac k ≤ 2 ^ 10 := by decide
theorem fac_pos : ∀ k, 0 < fac k
  | 0 => by decide
  | k + 1 => Nat.mul_pos (fac_pos k) (Nat.succ_pos k)
theorem bd_mul {a b c d : Nat} {p q : Rat} (hp : bdR a b p) (hq : bdR c d q) : bdR (a + c) (b + d) (p * q) := by
  rw [Rat.mul_def']
  refine bd_mk ?_ ?_
  · rw [Int.natAbs_mul, Nat.pow_add]
    exact Nat.mul_le_mul hp.1 hq.1
  · rw [Nat.pow_add]
    exact Nat.mul_le_mul hp.2 hq.2
theorem bd_int {a : Nat} {n : Int} (h : n.natAbs ≤ 2 ^ a) : bdR a 0 (n : Rat) := ⟨h, Nat.le_refl 1⟩
theorem bd_neg {a b : Nat} {q : Rat} (h : bdR a b q) : bdR a b (-q) := ⟨by rw [show (-q).num = -q.num from rfl, Int.natAbs_neg]; exact h.1, h.2⟩
theorem goR_bd {root : Int} (hr : root.natAbs ≤ 2 ^ 3) {a : Nat} : ∀ (R : List Rat) (p : Rat), bdR a 0 p → (∀ q ∈ R, bdR a 0 q) → ∀ q ∈ goR (root : Rat) p R, bdR (2 * a + 8) 0 q
  | [], p, hp, _, q, hq => by
    have : q = p := by simpa [goR] using hq
    rw [this]
    exact hp.mono (by omega) (Nat.le_refl _)
  | c :: cs, p, hp, hR, q, hq => by
    have hq' : q = p - (root : Rat) * c ∨ q ∈ goR (root : Rat) c cs := by simpa [goR] using hq
    have hc := hR c (List.mem_cons_self ..)
    rcases hq' with rfl | hq'
    · rw [Rat.sub_eq_add_neg]
      exact (bd_add hp (bd_neg (bd_mul (bd_int hr) hc))).mono (by omega) (by omega)
    · exact goR_bd hr cs c hc (fun q' h' => hR q' (List.mem_cons_of_mem _ h')) q hq'
theorem addS_bd {s0 : Int} {w a b c : Nat} (hs : s0.natAbs ≤ 2 ^ c) (hw : w ≤ 2 ^ 10) {d : Nat} : ∀ (fs cs : List Rat), (∀ q ∈ fs, bdR a b q) → (∀ q ∈ cs, bdR d 0 q) → ∀ q ∈ addS s0 w fs cs, bdR (a + b + (d + c) + 10 + 1) (b + 10) q
  | [], [], _, _, q, hq => nomatch hq
  | f :: fs, [], hf, _, q, hq => (hf q hq).mono (by omega) (by omega)
  | [], _ :: _, _, _, q, hq => nomatch hq
  | f :: fs, c' :: cs, hf, hc, q, hq => by
    have hq' : q = f + mkRat (c'.num * s0) (c'.den * w) ∨ q ∈ addS s0 w fs cs := by simpa [addS] using hq
    rcases hq' with rfl | hq'
    · refine bd_add (hf f (List.mem_cons_self ..)) ?_
      rw [mk_mul]
      have := bd_mul (hc c' (List.mem_cons_self ..)) (bd_mk hs hw)
      exact this.mono (by omega) (by omega)
    · exact addS_bd hs hw fs cs (fun q' h' => hf q' (List.mem_cons_of_mem _ h')) (fun q' h' => hc q' (List.mem_cons_of_mem _ h')) q hq'
theorem diffs_bd {c : Nat} {s : List Int} (h : ∀ n ∈ s, n.natAbs ≤ 2 ^ c) : ∀ n ∈ diffs s, n.natAbs ≤ 2 ^ (c + 1) := by
  intro n hn
  unfold diffs at hn
  obtain ⟨i, hi⟩ := List.mem_iff_getElem?.mp hn
  rw [List.getElem?_zipWith] at hi
  cases h1 : s[i]? with
  | none => rw [h1] at hi; simp at hi
  | some x =>
    cases h2 : s.tail[i]? with
    | none => rw [h1, h2] at hi; simp at hi
    | some y =>
      rw [h1, h2] at hi
      cases hi
      have b1 := h x (List.mem_of_getElem? h1)
      have b2 := h y (List.mem_of_mem_tail (List.mem_of_getElem? h2))
      rw [Nat.pow_succ]
      omega
theorem diffs_len (s : List Int) : (diffs s).length = s.length - 1 := by
  unfold diffs
  rw [List.length_zipWith, List.length_tail]
  omega
structure ThI (f r : List Rat) (s : List Int) (k : Nat) : Prop where
  fl : f.length = 7
  rl : r.length = k + 1
  sl : s.length = 7 - k
  fb : ∀ q ∈ f, bdR (fk k) (10 * k) q
  rb : ∀ q ∈ r, bdR (bk k) 0 q
  sb : ∀ n ∈ s, n.natAbs ≤ 2 ^ (60 + k)
theorem thS_inv {ns : List Int} (hl : ns.length = 7) (hb : ∀ n ∈ ns, n.natAbs ≤ 2 ^ 60) : ∀ k, k ≤ 7 → ThI (thS ns k).1 (thS ns k).2.1 (thS ns k).2.2 k
  | 0, _ => by
    refine ⟨rfl, rfl, hl, fun q hq => ?_, fun q hq => ?_, hb⟩
    · have : q = 0 := by simpa [thS] using hq
      subst this
      exact ⟨by decide, by decide⟩
    · have : q = 1 := by simpa [thS] using hq
      subst this
      exact ⟨by decide, by decide⟩
  | k + 1, hk => by
    obtain ⟨fl, rl, sl, fb, rb, sb⟩ := thS_inv hl hb k (by omega)
    have h0 : ((thS ns k).2.2.headD 0).natAbs ≤ 2 ^ (60 + k) := by
      cases e : (thS ns k).2.2 with
      | nil => show (0 : Int).natAbs ≤ _; exact Nat.zero_le _
      | cons x xs => exact sb x (by rw [e]; exact List.mem_cons_self ..)
    have hr : (((k + 1 : Nat) : Int)).natAbs ≤ 2 ^ 3 := by
      rw [Int.natAbs_natCast]
      show k + 1 ≤ 8
      omega
    have b0 : bdR (bk k) 0 (0 : Rat) := ⟨by show (0 : Int).natAbs ≤ _; exact Nat.zero_le _, by decide⟩
    refine ⟨?_, ?_, ?_, fun q hq => ?_, fun q hq => ?_, fun n hn => ?_⟩
    · show (addS _ _ _ _).length = 7
      rw [addS_len, fl]
    · show (goR _ _ _).length = _
      rw [goR_len, rl]
    · show (diffs _).length = _
      rw [diffs_len, sl]
      omega
    · have := addS_bd h0 (fac_le k (by omega)) (thS ns k).1 (thS ns k).2.1 fb rb q hq
      refine this.mono ?_ (by omega)
      show _ ≤ fk k + 10 * k + bk k + 80
      omega
    · exact goR_bd hr _ _ b0 rb q hq
    · have := diffs_bd sb n hn
      rwa [show 60 + (k + 1) = 60 + k + 1 by omega]
theorem evalR_bd {x : Int} (hx : x.natAbs ≤ 2 ^ 100) : ∀ (R : List Rat), R.length ≤ 10 → (∀ q ∈ R, bdR 9000 70 q) → bdR (11000 * R.length) (70 * R.length) (evalR R x)
  | [], _, _ => ⟨by show (0 : Int).natAbs ≤ _; exact Nat.zero_le _, by show 1 ≤ _; exact Nat.two_pow_pos _⟩
  | c :: cs, hl, h => by
    have hl' : cs.length + 1 ≤ 10 := hl
    have ih := evalR_bd hx cs (by omega) fun q hq => h q (List.mem_cons_of_mem _ hq)
    have := bd_add (h c (List.mem_cons_self ..)) (bd_mul (bd_int hx) ih)
    show bdR (11000 * (cs.length + 1)) (70 * (cs.length + 1)) (c + (x : Rat) * evalR cs x)
    exact this.mono (by omega) (by omega)

/-! ### polynomials: the readings -/
theorem TpAll.set {H : Hp} : ∀ {vs : List V} {ds : List PyData} {i : Nat} {v : V} {d : PyData}, TpAll H vs ds → Tp H v d → TpAll H (vs.set i v) (ds.set i d)
  | _, _, _, _, _, .nil, _ => .nil
  | _, _, 0, _, _, .cons _ k, q => .cons q k
  | _, _, i + 1, _, _, .cons h k, q => .cons h (TpAll.set k q)
theorem mix_set {α : Type} {A B : List α} {i : Nat} {x : α} (hl : A.length = B.length) (h : A[i]? = some x) : (A.take i ++ B.drop i).set i x = A.take (i + 1) ++ B.drop (i + 1) := by
  have hi := (List.getElem?_eq_some_iff.mp h).1
  rw [take_succ h, List.set_append_right i x (show (A.take i).length ≤ i by rw [List.length_take]; omega), List.length_take, Nat.min_eq_left (Nat.le_of_lt hi), Nat.sub_self, List.drop_eq_getElem_cons (show i < B.length by omega), List.append_assoc]
  rfl
theorem mix_get {α : Type} {A B : List α} {i : Nat} (hl : A.length = B.length) (hi : i < A.length) : (A.take i ++ B.drop i)[i]? = B[i]? := by
  rw [List.getElem?_append_right (by rw [List.length_take]; omega), List.length_take, Nat.min_eq_left (Nat.le_of_lt hi), Nat.sub_self, List.getElem?_drop, Nat.add_zero]
theorem ixN_nat {n i : Nat} (h : i < n) {j : Int} (e : j = i) : ixN n j = some i := by
  subst e
  unfold ixN
  rw [if_pos (by omega), if_pos (by omega), Int.toNat_natCast]
def RL (H : Hp) (a : Addr) (R : List Rat) : Prop := ∃ xs, H a = some (.lst xs) ∧ TpAll H xs (R.map ratD)
theorem RL.mono {H H' : Hp} {a : Addr} {R : List Rat} (e : Same H H') (h : RL H a R) : RL H' a R := by
  obtain ⟨xs, h1, h2⟩ := h
  exact ⟨xs, e _ _ h1, h2.mono e.tups⟩
theorem RL.get {H : Hp} {xs : List V} {R : List Rat} {i : Nat} {q : Rat} (h : TpAll H xs (R.map ratD)) (hq : R[i]? = some q) : ∃ p, xs[i]? = some (.ref p) ∧ H p = some (.tup [.int q.num, .int q.den]) := by
  obtain ⟨x, h1, h2⟩ := h.get (i := i) (d := ratD q) (by rw [List.getElem?_map, hq]; rfl)
  obtain ⟨p, rfl, hp⟩ := fr_inv h2
  exact ⟨p, h1, hp⟩
theorem RL.get' {H : Hp} {xs : List V} {R : List Rat} {i : Nat} {x : V} (h : TpAll H xs (R.map ratD)) (hx : xs[i]? = some x) : ∃ q p, R[i]? = some q ∧ x = .ref p ∧ H p = some (.tup [.int q.num, .int q.den]) := by
  obtain ⟨d, h1, h2⟩ := h.get' hx
  rw [List.getElem?_map] at h1
  obtain ⟨q, hq, rfl⟩ := Option.map_eq_some_iff.mp h1
  obtain ⟨p, rfl, hp⟩ := fr_inv h2
  exact ⟨q, p, hq, rfl, hp⟩
theorem w_iZip {K : PySem.W.Frag} {ta : TA} {σ : St} {H : Hp} {R : It → Hp → Prop} (h : ta σ H fun vs H1 => ∃ a b xs ys, vs = [.ref a, .ref b] ∧ SqL K H1 a xs ∧ SqL K H1 b ys ∧ R (Itz K a b) H1) : iZip K ta σ H R := h
theorem w_revL {K : PySem.W.Frag} {te : TE} {σ : St} {H : Hp} {Q : VK} (h : te σ H fun x H1 => ∃ a xs, x = .ref a ∧ SqL K H1 a xs ∧ ∀ p, H1 p = none → Q (.ref p) (upd H1 p (.lst xs.reverse))) : tRevL K te σ H Q := h
/-- between two of plus: the bounds -/
theorem w_plus {Γ : Gm} {x y : V} {H : Hp} {Q : VK} {E : XK} (a c : Int) (b d : Nat) (hx : Tp H x (frD a b)) (hy : Tp H y (frD c d)) (hb : 0 < b) (hd : 0 < d) (ba : a.natAbs ≤ 2 ^ 200000) (bc : c.natAbs ≤ 2 ^ 200000) (bb : b ≤ 2 ^ 4000) (bd : d ≤ 2 ^ 4000) (k : ∀ z H', Same H H' → Tp H' z (ratD (mkRat a b + mkRat c d)) → Q z H') : sp_plus Γ [x, y] H Q E := ⟨x, y, a, c, b, d, rfl, hx, hy, hb, hd, ba, bc, bb, bd, k⟩
theorem le_big {n a b : Nat} (h : n ≤ 2 ^ a) (h2 : a ≤ b) : n ≤ 2 ^ b := Nat.le_trans h (Nat.pow_le_pow_right (by decide) h2)
def sp_times_root (Γ : Gm) : Sp := fun vs H Q _ => ∃ (a : Addr) (root : Nat) (R : List Rat), vs = [.ref a, .int root] ∧ RL H a R ∧ R.length ≤ 50 ∧ root ≤ 8 ∧ (∀ q ∈ R, bdR 3000 0 q) ∧ ∀ l H', Same H H' → H l = none → RL H' l (tRoot ((root : Int) : Rat) R) → Q (.ref l) H'
/-- times_root: row, root, found, at, one -/
def t_times_root (Γ : Gm) : TS := (tSeq (tAsg (tLst (tCons (tTup (tCons (tC (.int 0)) (tCons (tC (.int 1)) tNil))) (StX.tStar Γ.K (tVar 0) tNil))) (gName 2))
  (tSeq (tFor (iEnumS Γ.K (tCons (tVar 0) tNil)) (gTup Γ.K 2 (gCons (gName 3) (gCons (gName 4) gNil))) (tAsg (tCal (sp_plus Γ) E0 (tCons (tOp (rIx Γ.K) (tVar 2) (tVar 3)) (tCons (tTup (tCons (tOp rSubI (tC (.int 0)) (tOp (rMulU Γ.K) (tVar 1) (tOp (rIx Γ.K) (tVar 4) (tC (.int 0))))) (tCons (tOp (rIx Γ.K) (tVar 4) (tC (.int 1))) tNil))) tNil))) (gSub (tVar 2) (tVar 3) rSetL)))
  (tRet (tVar 2))))
theorem rd_times_root (Γ : Gm) (vs : List V) (H : Hp) (Q : VK) (E : XK) (h : sp_times_root Γ vs H Q E) : t_times_root Γ ⟨fun _ H' => Q .non H', Q, fun _ _ => False, fun _ _ => False⟩ (startN 5 vs) H := by
  obtain ⟨a, root, R, rfl, ⟨xs, g, t⟩, hl, hr, hb, k⟩ := h
  have xl := t.length
  rw [List.length_map] at xl
  unfold t_times_root
  walk_at "ss"
  refine n_tup fun p0 H1 f1 e1 g1 => ?_
  walk_at "ss"
  refine ⟨a, xs, rfl, .inr (SqL.of (e1 _ _ g)), ?_⟩
  walk_at "ss"
  refine n_lst (hz := by simp only [List.length_cons, List.length_append, List.length_nil]; omega) fun L H2 f2 e2 g2 => ?_
  walk_at "ss"
  have e12 := e1.trans e2
  refine k_enL (SqL.of (e12 _ _ g)) ?_
  have lenA : (goR ((root : Int) : Rat) 0 R).length = (0 :: R).length := by rw [goR_len]; rfl
  have fL : H L = none := e1.free f2
  refine k_it (walk_enum (K := Γ.K) (a := a) (xs := xs)) (fun i σ H' => ∃ x3 x4 ys, σ = [some (.ref a), some (.int root), some (.ref L), x3, x4] ∧ Same H1 H' ∧ H' L = some (.lst ys) ∧ TpAll H' ys (((goR ((root : Int) : Rat) 0 R).take i ++ (0 :: R).drop i).map ratD)) ⟨none, none, _, rfl, e2, g2, ?_⟩ (fun i σ H' _ ⟨_, _, _, _, e, _⟩ => SqL.of (e _ _ (e1 _ _ g))) ?_ ?_
  · rw [List.take_zero, List.nil_append, List.drop_zero, List.append_nil]
    exact .cons (fr_mk (e2 _ _ g1)) (t.mono e12.tups)
  · rintro i x σ H3 H4 hi ⟨x3, x4, ys, rfl, e3, g3, t3⟩ ⟨T, u, w, rfl, hT, rfl, hu, hw⟩
    cases hu
    have eT := Same.new (o := .tup [.int (i : Nat), w]) hT
    refine w_gTup (xs := [.int (i : Nat), w]) (SqT.of upd_same) rfl ?_
    have e13 := e1.trans (e3.trans eT)
    have tR := t.mono e13.tups
    have g4 := eT _ _ g3
    have t4 := t3.mono eT.tups
    have e34 := e3.trans eT
    generalize upd H3 T (.tup [.int (i : Nat), w]) = H5 at e13 tR g4 t4 e34 ⊢
    obtain ⟨c, pc, hc, rfl, gc⟩ := RL.get' tR hw
    obtain ⟨q, hq, hA⟩ := goR_at ((root : Int) : Rat) R 0 i c hc
    have hiA : i < (goR ((root : Int) : Rat) 0 R).length := by rw [lenA]; show i < R.length + 1; omega
    have hmix : ((goR ((root : Int) : Rat) 0 R).take i ++ (0 :: R).drop i)[i]? = some q := by rw [mix_get lenA hiA]; exact hq
    obtain ⟨pq, hpq, gq⟩ := RL.get t4 hmix
    have bc := hb c (List.mem_of_getElem? hc)
    have bq : bdR 3000 0 q := by
      have := List.mem_of_getElem? hq
      rw [List.mem_cons] at this
      rcases this with rfl | h
      · exact ⟨by show (0 : Int).natAbs ≤ _; exact Nat.zero_le _, Nat.le_refl 1⟩
      · exact hb q h
    walk_at "ss"
    refine w_ixL (SqL.of g4) (atI_of (x := .ref pq) (by omega) (by rw [Int.toNat_natCast]; exact hpq)) ?_
    walk_at "ss"
    refine w_ixT (SqT.of gc) (atI0 _ _) ?_
    have rb : (root : Int).natAbs ≤ 2 ^ 3 := by rw [Int.natAbs_natCast]; exact hr
    refine w_mulI (cmul_of rb bc.1) ?_
    walk_at "ss"
    refine w_ixT (SqT.of gc) (atI1 _ _ _) ?_
    walk_at "ss"
    refine n_tup fun pn H6 f6 e6 g6 => ?_
    walk_at "ss"
    refine w_plus q.num (0 - (root : Int) * c.num) q.den c.den (fr_mk (e6 _ _ gq)) (fr_mk g6) q.den_pos c.den_pos (le_big bq.1 (by decide)) ?_ (le_big bq.2 (by decide)) (le_big bc.2 (by decide)) fun z H7 e7 tz => ?_
    · rw [Int.zero_sub, Int.natAbs_neg]
      exact le_big (mul_nat rb bc.1) (by decide)
    have ez : mkRat q.num q.den + mkRat (0 - (root : Int) * c.num) c.den = q - ((root : Int) : Rat) * c := by
      rw [Rat.mkRat_self, show 0 - (root : Int) * c.num = c.num * (-(root : Int)) from by rw [Int.zero_sub, Int.mul_neg, Int.mul_comm], mk_mul1, Rat.intCast_neg]
      grind
    rw [ez] at tz
    walk_at "ss"
    have g7 := (e6.trans e7) _ _ g4
    have yl := t4.length
    rw [List.length_map, List.length_append, List.length_take, List.length_drop, lenA] at yl
    have iy : i < ys.length := by
      rw [yl]
      show i < _
      simp only [List.length_cons]
      omega
    refine w_setL g7 (ixN_nat iy rfl) ?_
    have uL : Tups H7 (upd H7 L (.lst (ys.set i z))) := (Same.refl H7).tups.upd (fun xs z => by rw [g7] at z; cases z)
    refine ⟨_, _, ys.set i z, rfl, Same.mut (e34.trans (e6.trans e7)) f2, upd_same, ?_⟩
    rw [← mix_set lenA hA, List.map_set]
    exact (t4.mono ((e6.trans e7).tups.trans uL)).set (tz.mono uL)
  · rintro σ H3 ⟨x3, x4, ys, rfl, e3, g3, t3⟩
    walk_at "ss"
    refine k L H3 (e1.trans e3) fL ⟨ys, g3, ?_⟩
    rw [xl] at t3
    have : (goR ((root : Int) : Rat) 0 R).take R.length ++ (0 :: R).drop R.length = tRoot ((root : Int) : Rat) R := by
      have hl' : R.length < (goR ((root : Int) : Rat) 0 R).length := by rw [goR_len]; omega
      have e1 : (0 :: R).drop R.length = (goR ((root : Int) : Rat) 0 R).drop R.length := by
        rw [List.drop_eq_getElem_cons (show R.length < (0 :: R).length by simp), List.drop_eq_getElem_cons hl', List.drop_of_length_le (by simp), List.drop_of_length_le (by rw [goR_len]; exact Nat.le_refl _)]
        congr 1
        have := goR_last ((root : Int) : Rat) R 0
        rw [List.getElem?_eq_getElem hl', List.getElem?_eq_getElem (by simp)] at this
        exact (Option.some.inj this).symm
      rw [e1, List.take_append_drop]
      rfl
    rw [this] at t3
    exact t3
/-! ### the sums, one off each time -/
def stp (r : R) (b : Bool) (h : Nat) : Int := if b = true then r.pts 1 h else r.pts h 1
def linS (r : R) (b : Bool) : Nat → Int
  | 0 => 0
  | k + 1 => linS r b k + stp r b (k + 1)
def sumsL (r : R) (b : Bool) (m : Nat) : List Int := (List.range m).map (linS r b)
def sp_sums_to (Γ : Gm) : Sp := fun vs H Q _ => ∃ v r b, ∃ m : Nat, vs = [v, .int m, .bl b] ∧ RuleAt Γ H v r ∧ 1 ≤ m ∧ m ≤ 50 ∧ (m : Int) ≤ r.top ∧ ∀ l H', Same H H' → H l = none → H' l = some (.lst ((sumsL r b m).map V.int)) → Q (.ref l) H'
/-- sums_to: rule, most, is_first, found, heap -/
def t_sums_to (Γ : Gm) : TS := (tSeq (tAsg (tLst (tCons (tC (.int 0)) tNil)) (gName 3))
  (tSeq (tFor (iRng2 (tCons (tC (.int 1)) (tCons (tVar 1) tNil))) (gName 4) (tDrop (tBM Γ.K "list" rAppend (tVar 3) (tCons (tOp (rAddU Γ.K) (tOp (rIx Γ.K) (tVar 3) (tUn (rU fun i => .int (-i)) (tC (.int 1)))) (tIf (tB (tVar 2)) (tCal (sp_points_by Γ) E0 (tCons (tVar 0) (tCons (tC (.int 1)) (tCons (tVar 4) tNil)))) (tCal (sp_points_by Γ) E0 (tCons (tVar 0) (tCons (tVar 4) (tCons (tC (.int 1)) tNil)))))) tNil))))
  (tRet (tVar 3))))
theorem rd_sums_to (Γ : Gm) (vs : List V) (H : Hp) (Q : VK) (E : XK) (h : sp_sums_to Γ vs H Q E) : t_sums_to Γ ⟨fun _ H' => Q .non H', Q, fun _ _ => False, fun _ _ => False⟩ (startN 5 vs) H := by
  obtain ⟨v, r, b, m, rfl, hr, h1, h50, ht, k⟩ := h
  unfold t_sums_to
  walk_at "ss"
  refine n_lst fun L H1 fL e1 g1 => ?_
  walk_at "ss"
  refine k_rng2 (by omega) ?_
  refine k_range (fun i σ H' => ∃ x4, σ = [some v, some (.int m), some (.bl b), some (.ref L), x4] ∧ Same H H' ∧ H' L = some (.lst ((sumsL r b (i + 1)).map V.int))) ⟨none, rfl, e1, g1⟩ ?_ ?_
  · rintro i σ H2 hi ⟨x4, rfl, e2, g2⟩
    have sl : (sumsL r b (i + 1)).length = i + 1 := by unfold sumsL; rw [List.length_map, List.length_range]
    walk_at "ss"
    refine w_tyL g2 ?_
    walk_at "ss"
    refine w_ixL (SqL.of g2) (atI_last (x := .int (linS r b i)) (by rw [List.length_map, sl, List.getElem?_map]; unfold sumsL; rw [List.getElem?_map, Nat.add_sub_cancel, List.getElem?_range (by omega)]; rfl) (by rw [List.length_map, sl]; omega)) ?_
    have fin : ∀ H3, Same H2 H3 → rAppend (.ref L) [.int (linS r b i + stp r b (i + 1))] H3 fun _ H1 => ∃ x4, [some v, some (.int m), some (.bl b), some (.ref L), some (V.int (1 + (i : Int)))] = [some v, some (.int m), some (.bl b), some (.ref L), x4] ∧ Same H H1 ∧ H1 L = some (.lst ((sumsL r b (i + 1 + 1)).map V.int)) := fun H3 e3 => by
      refine w_app (e3 _ _ g2) (by rw [List.length_map, sl]; omega) ?_
      refine ⟨_, rfl, Same.mut (e2.trans e3) fL, ?_⟩
      rw [upd_same]
      show some (HO.lst _) = some (.lst (((List.range (i + 1 + 1)).map (linS r b)).map V.int))
      rw [List.range_succ, List.map_append, List.map_append]
      rfl
    have es : stp r b (i + 1) = if b = true then r.pts 1 (1 + (i : Int)) else r.pts (1 + (i : Int)) 1 := by
      unfold stp
      rw [show ((i + 1 : Nat) : Int) = 1 + (i : Int) by omega]
    walk_at "ss"
    cases b with
    | true =>
      rw [if_pos rfl] at es
      walk_at "ss"
      refine ⟨v, r, _, _, rfl, hr.mono e2, by omega, by omega, by omega, fun H3 e3 => ?_⟩
      rw [← es]
      walk_at "ss"
      exact fin H3 e3
    | false =>
      rw [if_neg (by decide)] at es
      walk_at "ss"
      refine ⟨v, r, _, _, rfl, hr.mono e2, by omega, by omega, by omega, fun H3 e3 => ?_⟩
      rw [← es]
      walk_at "ss"
      exact fin H3 e3
  · rintro σ H2 ⟨x4, rfl, e2, g2⟩
    walk_at "ss"
    refine k L H2 e2 fL ?_
    rw [show ((m : Int) - 1).toNat + 1 = m by omega] at g2
    exact g2
/-! ### a polynomial's value -/
def sp_value_at (Γ : Gm) : Sp := fun vs H Q _ => ∃ (a : Addr) (x : Int) (R : List Rat), vs = [.ref a, .int x] ∧ RL H a R ∧ R.length ≤ 10 ∧ x.natAbs ≤ 2 ^ 100 ∧ (∀ q ∈ R, bdR 9000 70 q) ∧ ∀ z H', Same H H' → Tp H' z (ratD (evalR R (x : Rat))) → Q z H'
/-- value_at: row, number, found, one -/
def t_value_at (Γ : Gm) : TS := (tSeq (tAsg (tTup (tCons (tC (.int 0)) (tCons (tC (.int 1)) tNil))) (gName 2))
  (tSeq (tFor (iSeq Γ.K (tRevL Γ.K (tVar 0))) (gName 3) (tAsg (tCal (sp_plus Γ) E0 (tCons (tTup (tCons (tOp (rMulU Γ.K) (tOp (rIx Γ.K) (tVar 2) (tC (.int 0))) (tVar 1)) (tCons (tOp (rIx Γ.K) (tVar 2) (tC (.int 1))) tNil))) (tCons (tVar 3) tNil))) (gName 2)))
  (tRet (tVar 2))))
theorem rd_value_at (Γ : Gm) (vs : List V) (H : Hp) (Q : VK) (E : XK) (h : sp_value_at Γ vs H Q E) : t_value_at Γ ⟨fun _ H' => Q .non H', Q, fun _ _ => False, fun _ _ => False⟩ (startN 4 vs) H := by
  obtain ⟨a, x, R, rfl, ⟨xs, g, t⟩, hl, hx, hb, k⟩ := h
  have xl := t.length
  rw [List.length_map] at xl
  unfold t_value_at
  walk_at "ss"
  refine n_tup fun p0 H1 f1 e1 g1 => ?_
  walk_at "ss"
  refine w_revL ?_
  walk_at "ss"
  refine ⟨a, xs, rfl, SqL.of (e1 _ _ g), fun L fL => ?_⟩
  have e2 := Same.new (o := .lst xs.reverse) fL
  have g2 : upd H1 L (.lst xs.reverse) L = some (.lst xs.reverse) := upd_same
  generalize upd H1 L (.lst xs.reverse) = H2 at e2 g2 ⊢
  refine k_seqL (SqL.of g2) ?_
  have e12 := e1.trans e2
  refine k_list (xs := xs.reverse) (fun i σ H' => ∃ z x3, σ = [some (.ref a), some (.int x), some z, x3] ∧ Same H2 H' ∧ Tp H' z (ratD (evalR (R.drop (R.length - i)) (x : Rat)))) ⟨_, _, rfl, Same.refl H2, ?_⟩ (fun i σ H' _ ⟨_, _, _, e, _⟩ => SqL.of (e _ _ g2)) ?_ ?_
  · rw [Nat.sub_zero, List.drop_of_length_le (Nat.le_refl _)]
    exact fr_mk (e2 _ _ g1)
  · rintro i y σ H3 hi ⟨z, x3, rfl, e3, tz⟩
    have hil : i < R.length := by
      have := (List.getElem?_eq_some_iff.mp hi).1
      rw [List.length_reverse] at this
      omega
    rw [List.getElem?_reverse (by omega), xl] at hi
    obtain ⟨c, pc, hc, rfl, gc⟩ := RL.get' (t.mono (e12.trans e3).tups) hi
    obtain ⟨pz, rfl, gz⟩ := fr_inv tz
    have hd : R.drop (R.length - (i + 1)) = c :: R.drop (R.length - i) := by
      rw [List.drop_eq_getElem_cons (show R.length - (i + 1) < R.length by omega)]
      have : R[R.length - 1 - i]? = some c := hc
      rw [show R.length - 1 - i = R.length - (i + 1) by omega, List.getElem?_eq_getElem (by omega)] at this
      rw [Option.some.inj this, show R.length - (i + 1) + 1 = R.length - i by omega]
    obtain ⟨q, hq⟩ : ∃ q, q = evalR (R.drop (R.length - i)) (x : Rat) := ⟨_, rfl⟩
    have bq : bdR 110000 700 q := by
      rw [hq]
      have := evalR_bd hx (R.drop (R.length - i)) (by rw [List.length_drop]; omega) fun q' h' => hb q' (List.mem_of_mem_drop h')
      rw [List.length_drop] at this
      exact this.mono (by omega) (by omega)
    rw [← hq] at gz
    have bc := hb c (List.mem_of_getElem? hc)
    walk_at "ss"
    refine w_ixT (SqT.of gz) (atI0 _ _) ?_
    walk_at "ss"
    refine w_mulI (cmul_of bq.1 hx) ?_
    walk_at "ss"
    refine w_ixT (SqT.of gz) (atI1 _ _ _) ?_
    walk_at "ss"
    refine n_tup fun pn H6 f6 e6 g6 => ?_
    walk_at "ss"
    refine w_plus (q.num * x) c.num q.den c.den (fr_mk g6) (fr_mk (e6 _ _ gc)) q.den_pos c.den_pos ?_ (le_big bc.1 (by decide)) (le_big bq.2 (by decide)) (le_big bc.2 (by decide)) fun z H7 e7 tz7 => ?_
    · exact le_big (mul_nat bq.1 hx) (by decide)
    walk_at "ss"
    refine ⟨z, _, rfl, e3.trans (e6.trans e7), ?_⟩
    rw [hd]
    show Tp H7 z (ratD (c + (x : Rat) * evalR (R.drop (R.length - i)) (x : Rat)))
    rw [← hq]
    have : mkRat (q.num * x) q.den + mkRat c.num c.den = c + (x : Rat) * q := by
      rw [mk_mul1, Rat.mkRat_self]
      grind
    rw [← this]
    exact tz7
  · rintro σ H3 ⟨z, x3, rfl, e3, tz⟩
    walk_at "ss"
    refine k z H3 (e12.trans e3) ?_
    rw [List.length_reverse, xl, Nat.sub_self, List.drop_zero] at tz
    exact tz

/-! ### through -/
theorem w_rep {K : PySem.W.Frag} {l : Addr} {k : Int} {xs : List V} {H : Hp} {Q : VK} (h : H l = some (.lst xs)) (h0 : 0 ≤ k) (h1 : k ≤ 1000) (hz : xs.length ≤ 100) (q : ∀ p H', H p = none → Same H H' → H' p = some (.lst (List.replicate k.toNat xs).flatten) → Q (.ref p) H') : rMulU K (.ref l) (.int k) H Q := by
  refine .inr (.inl ⟨l, k, xs, rfl, rfl, h, by omega, by omega, ?_, alloc q⟩)
  refine Nat.le_trans (Nat.mul_le_mul hz (show k.toNat ≤ 1000 by omega)) ?_
  decide
theorem rep_one {α : Type} (x : α) : ∀ n : Nat, (List.replicate n [x]).flatten = List.replicate n x
  | 0 => rfl
  | n + 1 => by rw [List.replicate_succ, List.flatten_cons, rep_one x n, List.replicate_succ]; rfl
theorem rep_tp {H : Hp} {v : V} {d : PyData} (h : Tp H v d) : ∀ n, TpAll H (List.replicate n v) (List.replicate n d)
  | 0 => .nil
  | n + 1 => by rw [List.replicate_succ, List.replicate_succ]; exact .cons h (rep_tp h n)
theorem cutV_from {xs : List V} {i : Nat} : cutV xs (some (i : Int)) none = xs.drop i := by
  unfold cutV HT.sIx
  simp only
  rw [if_neg (by omega), Int.toNat_natCast]
  by_cases h : i ≤ xs.length
  · rw [Nat.min_eq_left h, List.take_of_length_le (by rw [List.length_drop]; exact Nat.le_refl _)]
  · rw [Nat.min_eq_right (by omega), Nat.sub_self, List.take_zero, List.drop_of_length_le (by omega)]
def sp_through (Γ : Gm) : Sp := fun vs H Q _ => ∃ (a : Addr) (ns : List Int), vs = [.ref a] ∧ H a = some (.lst (ns.map V.int)) ∧ ns.length = 7 ∧ (∀ n ∈ ns, n.natAbs ≤ 2 ^ 60) ∧ ∀ l H', Same H H' → H l = none → RL H' l (thru ns) → Q (.ref l) H'
/-- through: values, found, row, steps, whole, at, place, one, now, later -/
def t_through (Γ : Gm) : TS := (tSeq (tPar3 1 2 3 (tCons (tOp (rMulU Γ.K) (tLst (tCons (tTup (tCons (tC (.int 0)) (tCons (tC (.int 1)) tNil))) tNil)) (tCB (rLen Γ.K) (tCons (tVar 0) tNil))) (tCons (tLst (tCons (tTup (tCons (tC (.int 1)) (tCons (tC (.int 1)) tNil))) tNil)) (tCons (tCB (rListOf Γ.K) (tCons (tVar 0) tNil)) tNil))))
  (tSeq (tAsg (tC (.int 1)) (gName 4))
  (tSeq (tFor (iRng1 (tCons (tCB (rLen Γ.K) (tCons (tVar 0) tNil)) tNil)) (gName 5) (tSeq (tFor (iEnumS Γ.K (tCons (tVar 2) tNil)) (gTup Γ.K 2 (gCons (gName 6) (gCons (gName 7) gNil))) (tAsg (tCal (sp_plus Γ) E0 (tCons (tOp (rIx Γ.K) (tVar 1) (tVar 6)) (tCons (tCal (sp_lowest Γ) E0 (tCons (tOp (rMulU Γ.K) (tOp (rIx Γ.K) (tVar 7) (tC (.int 0))) (tOp (rIx Γ.K) (tVar 3) (tC (.int 0)))) (tCons (tOp (rMulU Γ.K) (tOp (rIx Γ.K) (tVar 7) (tC (.int 1))) (tVar 4)) tNil))) tNil))) (gSub (tVar 1) (tVar 6) rSetL)))
  (tSeq (tAsg (tCal (sp_times_root Γ) E0 (tCons (tVar 2) (tCons (tOp (rAddU Γ.K) (tVar 5) (tC (.int 1))) tNil))) (gName 2))
  (tPar 3 4 (tCons (tLc (iZip Γ.K (tCons (tVar 3) (tCons (tSl (rSlU Γ.K) (tVar 3) (tPart (tC (.int 1))) tNoPart) tNil))) (gTup Γ.K 2 (gCons (gName 8) (gCons (gName 9) gNil))) tYes (tOp rSubI (tVar 9) (tVar 8)) [8, 9]) (tCons (tOp (rMulU Γ.K) (tVar 4) (tOp (rAddU Γ.K) (tVar 5) (tC (.int 1)))) tNil))))))
  (tRet (tVar 1)))))
theorem rd_through (Γ : Gm) (vs : List V) (H : Hp) (Q : VK) (E : XK) (h : sp_through Γ vs H Q E) : t_through Γ ⟨fun _ H' => Q .non H', Q, fun _ _ => False, fun _ _ => False⟩ (startN 10 vs) H := by
  obtain ⟨a, ns, rfl, g, hl, hb, k⟩ := h
  unfold t_through
  walk_at "ss"
  refine n_tup fun p0 H1 f1 e1 g1 => ?_
  walk_at "ss"
  refine n_lst fun l0 H2 f2 e2 g2 => ?_
  walk_at "ss"
  have ga2 := (e1.trans e2) _ _ g
  refine w_lenL (SqL.of ga2) ?_
  rw [List.length_map, hl]
  refine w_rep g2 (by decide) (by decide) (by simp) fun F H3 fF e3 g3 => ?_
  walk_at "ss"
  refine n_tup fun p1 H4 f4 e4 g4 => ?_
  walk_at "ss"
  refine n_lst fun r0 H5 f5 e5 g5 => ?_
  walk_at "ss"
  have e15 := e1.trans (e2.trans (e3.trans (e4.trans e5)))
  refine w_listL (.inl (SqL.of (e15 _ _ g))) fun s0 H6 f6 e6 g6 => ?_
  walk_at "ss"
  refine w_lenL (SqL.of (e6 _ _ (e15 _ _ g))) ?_
  walk_at "ss"
  rw [List.length_map, hl]
  refine k_rng1 (by decide) ?_
  have fF0 : H F = none := (e1.trans e2).free fF
  have e26 : Same H2 H6 := e3.trans (e4.trans (e5.trans e6))
  have e46 := e4.trans (e5.trans e6)
  have nFr : F ≠ r0 := fun z => by subst z; rw [e4 _ _ g3] at f5; cases f5
  have nFs : F ≠ s0 := fun z => by subst z; rw [(e4.trans e5) _ _ g3] at f6; cases f6
  refine k_range (fun i σ H' => ∃ ro so x5 x6 x7 x8 x9 fs, σ = [some (.ref a), some (.ref F), some (.ref ro), some (.ref so), some (.int (fac i : Nat)), x5, x6, x7, x8, x9] ∧ Same H2 H' ∧ ro ≠ F ∧ so ≠ F ∧ H' F = some (.lst fs) ∧ TpAll H' fs ((thS ns i).1.map ratD) ∧ RL H' ro (thS ns i).2.1 ∧ H' so = some (.lst ((thS ns i).2.2.map V.int))) ⟨r0, s0, none, none, none, none, none, _, rfl, e26, nFr.symm, nFs.symm, e46 _ _ g3, ?_, ⟨_, e6 _ _ g5, ?_⟩, g6⟩ ?_ ?_
  · rw [show ((7 : Nat) : Int).toNat = 7 from rfl, rep_one]
    show TpAll H6 _ ((List.replicate 7 (0 : Rat)).map ratD)
    rw [List.map_replicate]
    exact rep_tp (fr_mk ((e2.trans e26) _ _ g1)) 7
  · exact .cons (fr_mk ((e5.trans e6) _ _ g4)) .nil
  · rintro i σ H7 hi ⟨ro, so, x5, x6, x7, x8, x9, fs, rfl, e7, nro, nso, gF, tF, ⟨rs, gr, tr⟩, gs⟩
    have hi7 : i < 7 := hi
    have I := thS_inv hl hb i (by omega)
    obtain ⟨f, hf⟩ : ∃ f, f = (thS ns i).1 := ⟨_, rfl⟩
    obtain ⟨r, hr⟩ : ∃ r, r = (thS ns i).2.1 := ⟨_, rfl⟩
    obtain ⟨s, hs⟩ : ∃ s, s = (thS ns i).2.2 := ⟨_, rfl⟩
    have en : thS ns (i + 1) = (addS (s.headD 0) (fac i) f r, tRoot ((i + 1 : Nat) : Int) r, diffs s) := by rw [hf, hr, hs]; rfl
    rw [← hf] at tF
    rw [← hr] at tr
    rw [← hs] at gs
    rw [← hf, ← hr, ← hs] at I
    obtain ⟨fl, rl, sl, fb, rb, sb⟩ := I
    rw [en]
    have rsl := tr.length
    rw [List.length_map] at rsl
    have b1 := bk_le i (by omega)
    have b2 := fk_le i (by omega)
    obtain ⟨s0v, st, hsv⟩ : ∃ x xs, s = x :: xs := by
      cases s with
      | nil => simp at sl; omega
      | cons x xs => exact ⟨x, xs, rfl⟩
    have shd : s.headD 0 = s0v := by rw [hsv]; rfl
    rw [shd]
    have s0b := sb s0v (by rw [hsv]; exact List.mem_cons_self ..)
    have fw := fac_le i hi7
    have fp := fac_pos i
    have lenA : (addS s0v (fac i) f r).length = f.length := addS_len ..
    walk_at "ss"
    refine k_enL (SqL.of gr) ?_
    refine k_it (walk_enum (K := Γ.K) (a := ro) (xs := rs)) (fun j σ H' => ∃ x6 x7 ys, σ = [some (.ref a), some (.ref F), some (.ref ro), some (.ref so), some (.int (fac i : Nat)), some (.int (0 + (i : Int))), x6, x7, x8, x9] ∧ Same H2 H' ∧ H' F = some (.lst ys) ∧ TpAll H' ys (((addS s0v (fac i) f r).take j ++ f.drop j).map ratD) ∧ H' ro = some (.lst rs) ∧ Tups H7 H' ∧ H' so = some (.lst (s.map V.int))) ⟨_, _, fs, rfl, e7, gF, by rw [List.take_zero, List.nil_append, List.drop_zero]; exact tF, gr, (Same.refl H7).tups, gs⟩ (fun j σ H' _ ⟨_, _, _, _, _, _, _, e, _⟩ => SqL.of e) ?_ ?_
    · rintro j x σ H8 H9 hj ⟨x6', x7', ys, rfl, e8, gF8, tF8, gr8, u8, gs8⟩ ⟨T, u, w, rfl, hT, rfl, hu, hw⟩
      cases hu
      have eT := Same.new (o := .tup [.int (j : Nat), w]) hT
      refine w_gTup (xs := [.int (j : Nat), w]) (SqT.of upd_same) rfl ?_
      have tR := tr.mono (u8.trans eT.tups)
      have gF9 := eT _ _ gF8
      have tF9 := tF8.mono eT.tups
      have gr9 := eT _ _ gr8
      have gs9 := eT _ _ gs8
      have e9 := e8.trans eT
      have u9 := u8.trans eT.tups
      generalize upd H8 T (.tup [.int (j : Nat), w]) = HA at tR gF9 tF9 gr9 gs9 e9 u9 ⊢
      obtain ⟨c, pc, hc, rfl, gc⟩ := RL.get' tR hw
      have jf : j < f.length := by omega
      obtain ⟨q, hq⟩ : ∃ q, f[j]? = some q := ⟨_, List.getElem?_eq_getElem jf⟩
      have hA := addS_at s0v (fac i) f r j q c hq hc
      have hmix : ((addS s0v (fac i) f r).take j ++ f.drop j)[j]? = some q := by rw [mix_get lenA (by rw [lenA]; exact jf)]; exact hq
      obtain ⟨pq, hpq, gq⟩ := RL.get tF9 hmix
      have bc := (rb c (List.mem_of_getElem? hc)).mono (show bk i ≤ 2100 by omega) (Nat.le_refl 0)
      have bq := (fb q (List.mem_of_getElem? hq)).mono (show fk i ≤ 9000 by omega) (show 10 * i ≤ 70 by omega)
      have s0b' : s0v.natAbs ≤ 2 ^ 70 := le_big s0b (by omega)
      walk_at "ss"
      refine w_ixL (SqL.of gF9) (atI_of (x := .ref pq) (by omega) (by rw [Int.toNat_natCast]; exact hpq)) ?_
      walk_at "ss"
      refine w_ixT (SqT.of gc) (atI0 _ _) ?_
      walk_at "ss"
      refine w_ixL (SqL.of gs9) (atI_of (x := .int s0v) (by decide) (by rw [hsv]; rfl)) ?_
      refine w_mulI (cmul_of bc.1 s0b') ?_
      walk_at "ss"
      refine w_ixT (SqT.of gc) (atI1 _ _ _) ?_
      walk_at "ss"
      have fw' : (((fac i : Nat)) : Int).natAbs ≤ 2 ^ 10 := by rw [Int.natAbs_natCast]; exact fw
      have cd' : (((c.den : Nat)) : Int).natAbs ≤ 2 ^ 0 := by rw [Int.natAbs_natCast]; exact bc.2
      refine w_mulI (cmul_of cd' fw') ?_
      walk_at "ss"
      refine ⟨c.num * s0v, c.den * fac i, by rw [Int.natCast_mul], Nat.mul_pos c.den_pos fp, ?_, fun z H10 e10 tz => ?_⟩
      · refine Nat.le_trans (Nat.mul_le_mul bc.2 fw) ?_
        rw [← Nat.pow_add]
        exact Nat.pow_le_pow_right (by decide) (by decide)
      walk_at "ss"
      have bz : bdR 2300 10 (mkRat (c.num * s0v) (c.den * fac i)) := by
        rw [mk_mul]
        exact (bd_mul bc (bd_mk s0b' fw)).mono (by decide) (by decide)
      refine w_plus q.num (mkRat (c.num * s0v) (c.den * fac i)).num q.den (mkRat (c.num * s0v) (c.den * fac i)).den (fr_mk (e10 _ _ gq)) tz q.den_pos (mkRat (c.num * s0v) (c.den * fac i)).den_pos (le_big bq.1 (by decide)) (le_big bz.1 (by decide)) (le_big bq.2 (by decide)) (le_big bz.2 (by decide)) fun z2 H11 e11 tz2 => ?_
      rw [Rat.mkRat_self, Rat.mkRat_self] at tz2
      walk_at "ss"
      have g11 := (e10.trans e11) _ _ gF9
      have yl := tF9.length
      rw [List.length_map, List.length_append, List.length_take, List.length_drop, lenA] at yl
      refine w_setL g11 (ixN_nat (i := j) (by omega) rfl) ?_
      have uL : Tups H11 (upd H11 F (.lst (ys.set j z2))) := (Same.refl H11).tups.upd (fun xs z => by rw [g11] at z; cases z)
      refine ⟨_, _, ys.set j z2, rfl, Same.mut (e9.trans (e10.trans e11)) fF, upd_same, ?_, by rw [upd_ne nro]; exact (e10.trans e11) _ _ gr9, u9.trans ((e10.trans e11).tups.trans uL), by rw [upd_ne nso]; exact (e10.trans e11) _ _ gs9⟩
      rw [← mix_set lenA hA, List.map_set]
      exact (tF9.mono ((e10.trans e11).tups.trans uL)).set (tz2.mono uL)
    · rintro σ H8 ⟨x6', x7', ys, rfl, e8, gF8, tF8, gr8, u8, gs8⟩
      have emix : (addS s0v (fac i) f r).take rs.length ++ f.drop rs.length = addS s0v (fac i) f r := by
        rw [rsl, ← addS_rest s0v (fac i) f r, List.take_append_drop]
      rw [emix] at tF8
      walk_at "ss"
      refine ⟨ro, i + 1, r, ?_, ⟨rs, gr8, tr.mono u8⟩, by omega, by omega, fun q hq => (rb q hq).mono (by omega) (Nat.le_refl 0), fun ro' H9 e9 f9 RL9 => ?_⟩
      · rw [show (((i + 1 : Nat)) : Int) = 0 + (i : Int) + 1 by omega]
      walk_at "ss"
      have gs9 := e9 _ _ gs8
      refine w_iZip ?_
      walk_at "ss"
      refine w_slL gs9 fun sl' H10 f10 e10 g10 => ?_
      rw [show (some (1 : Int)) = some ((1 : Nat) : Int) from rfl, cutV_from] at g10
      walk_at "ss"
      have gs10 := e10 _ _ gs9
      refine ⟨so, sl', s.map V.int, _, rfl, SqL.of gs10, SqL.of g10, ?_⟩
      have tl : ((s.map V.int).drop 1).length = s.length - 1 := by rw [List.length_drop, List.length_map]
      refine k_lcIt (walk_zip (K := Γ.K) (a := so) (b := sl') (xs := s.map V.int) (ys := (s.map V.int).drop 1) (n := s.length - 1) (by rw [tl, List.length_map]; omega)) (fun H' e => ⟨SqL.of (e _ _ gs10), SqL.of (e _ _ g10)⟩) (fun j acc _ => acc = ((diffs s).take j).map V.int) (fun _ _ => rfl) ?_ ?_
      · rintro j x D acc H11 H12 hj hD e11 hacc rfl ⟨T, u, w, rfl, hT, rfl, hu, hw⟩
        have eT := Same.new (o := .tup [u, w]) hT
        refine w_gTup (xs := [u, w]) (SqT.of upd_same) rfl ?_
        have accT := eT _ _ hacc
        have e12 := e11.trans eT
        generalize upd H11 T (.tup [u, w]) = H13 at accT e12 ⊢
        dsimp only at hu hw
        rw [List.getElem?_map] at hu
        obtain ⟨n1, hn1, rfl⟩ := Option.map_eq_some_iff.mp hu
        rw [List.getElem?_drop, List.getElem?_map] at hw
        obtain ⟨n2, hn2, rfl⟩ := Option.map_eq_some_iff.mp hw
        walk_at "ss"
        refine ⟨rfl, ?_⟩
        walk_at "ss"
        have hd : (diffs s)[j]? = some (n2 - n1) := by
          unfold diffs
          rw [List.getElem?_zipWith, hn1, List.getElem?_tail, show j + 1 = 1 + j by omega, hn2]
        refine lcTurn.mk hD e12 accT (by rw [List.length_map, List.length_take, diffs_len]; omega) ?_
        rw [take_succ hd, List.map_append]
        rfl
      · rintro D acc H11 hD e11 hacc rfl
        rw [List.take_of_length_le (by rw [diffs_len]; exact Nat.le_refl _)] at hacc
        walk_at "ss"
        have e911 := e9.trans (e10.trans e11)
        have nD : D ≠ F := fun z => by subst z; rw [(e9.trans e10) _ _ gF8] at hD; cases hD
        have nr' : ro' ≠ F := fun z => by subst z; rw [gF8] at f9; cases f9
        have ef : (fac i : Int) * (0 + (i : Int) + 1) = (((fac (i + 1) : Nat)) : Int) := by
          show _ = (((fac i * (i + 1) : Nat)) : Int)
          rw [Int.natCast_mul]
          congr 1
          omega
        rw [ef]
        exact ⟨ro', D, _, _, _, _, _, ys, rfl, e8.trans e911, nr', nD, e911 _ _ gF8, tF8.mono e911.tups, RL9.mono (e10.trans e11), hacc⟩
  · rintro σ H7 ⟨ro, so, x5, x6, x7, x8, x9, fs, rfl, e7, nro, nso, gF, tF, _, _⟩
    walk_at "ss"
    exact k F H7 (e1.trans (e2.trans e7)) fF0 ⟨fs, gF, tF⟩

/-! ### three heaps that give unlike points -/
abbrev T3 := Nat × Nat × Nat
def tri1 (h a n : Nat) : List T3 := (List.range n).map fun j => (a, j + 1, h - a - (j + 1))
def tri2 (h n : Nat) : List T3 := (List.range n).flatMap fun i => tri1 h (i + 1) (h - (i + 1) - 1)
/-- all three heaps of up to m + 2 things together -/
def triN (m : Nat) : List T3 := (List.range m).flatMap fun i => tri2 (i + 3) (i + 1)
def triD (t : T3) : PyData := .tuple [.int t.1, .int t.2.1, .int t.2.2]
theorem triN_succ (m : Nat) : triN (m + 1) = triN m ++ tri2 (m + 3) (m + 1) := by
  unfold triN
  rw [List.range_succ, List.flatMap_append]
  simp
theorem tri2_succ (h n : Nat) : tri2 h (n + 1) = tri2 h n ++ tri1 h (n + 1) (h - (n + 1) - 1) := by
  unfold tri2
  rw [List.range_succ, List.flatMap_append]
  simp
theorem tri1_succ (h a n : Nat) : tri1 h a (n + 1) = tri1 h a n ++ [(a, n + 1, h - a - (n + 1))] := by
  unfold tri1
  rw [List.range_succ, List.map_append]
  rfl
theorem range_cut {k n : Nat} (h : k < n) : ∃ s, List.range n = List.range k ++ k :: s := by
  obtain ⟨d, rfl⟩ : ∃ d, n = k + (d + 1) := ⟨n - k - 1, by omega⟩
  refine ⟨((List.range d).map Nat.succ).map (k + ·), ?_⟩
  rw [List.range_add, List.range_succ_eq_map, List.map_cons, Nat.add_zero]
theorem flat_cut {α : Type} (f : Nat → List α) {k n : Nat} (h : k < n) : ∃ s, (List.range n).flatMap f = (List.range k).flatMap f ++ (f k ++ s) := by
  obtain ⟨s, e⟩ := range_cut h
  exact ⟨s.flatMap f, by rw [e, List.flatMap_append, List.flatMap_cons]⟩
theorem map_cut {α : Type} (f : Nat → α) {k n : Nat} (h : k < n) : ∃ s, (List.range n).map f = (List.range k).map f ++ f k :: s := by
  obtain ⟨s, e⟩ := range_cut h
  exact ⟨s.map f, by rw [e, List.map_append, List.map_cons]⟩
/-- where a triple stands -/
theorem tri_cut {m i j k : Nat} (hi : i < m) (hj : j < i + 1) (hk : k < i + 3 - (j + 1) - 1) : ∃ s, triN m = (triN i ++ (tri2 (i + 3) j ++ tri1 (i + 3) (j + 1) k)) ++ (j + 1, k + 1, i + 3 - (j + 1) - (k + 1)) :: s := by
  obtain ⟨s1, e1⟩ := flat_cut (fun i => tri2 (i + 3) (i + 1)) hi
  obtain ⟨s2, e2⟩ := flat_cut (fun q => tri1 (i + 3) (q + 1) (i + 3 - (q + 1) - 1)) hj
  obtain ⟨s3, e3⟩ := map_cut (fun q => ((j + 1, q + 1, i + 3 - (j + 1) - (q + 1)) : T3)) hk
  refine ⟨s3 ++ (s2 ++ s1), ?_⟩
  show (List.range m).flatMap _ = _
  rw [e1]
  show triN i ++ (tri2 (i + 3) (i + 1) ++ s1) = _
  rw [show tri2 (i + 3) (i + 1) = tri2 (i + 3) j ++ (tri1 (i + 3) (j + 1) (i + 3 - (j + 1) - 1) ++ s2) from e2, show tri1 (i + 3) (j + 1) (i + 3 - (j + 1) - 1) = tri1 (i + 3) (j + 1) k ++ _ :: s3 from e3]
  simp only [List.append_assoc, List.cons_append]
theorem triN_sz : (triN 38).length ≤ 10000 := by decide +kernel
theorem mem_triN {m : Nat} {t : T3} (h : t ∈ triN m) : 1 ≤ t.1 ∧ 1 ≤ t.2.1 ∧ 1 ≤ t.2.2 ∧ t.1 + t.2.1 + t.2.2 ≤ m + 2 := by
  unfold triN tri2 tri1 at h
  simp only [List.mem_flatMap, List.mem_map, List.mem_range] at h
  obtain ⟨i, hi, j, hj, k, hk, rfl⟩ := h
  dsimp only
  omega
theorem triN_mem {m a b c : Nat} (ha : 1 ≤ a) (hb : 1 ≤ b) (hc : 1 ≤ c) (h : a + b + c ≤ m + 2) : (a, b, c) ∈ triN m := by
  unfold triN tri2 tri1
  simp only [List.mem_flatMap, List.mem_map, List.mem_range]
  refine ⟨a + b + c - 3, by omega, a - 1, by omega, b - 1, by omega, ?_⟩
  refine Prod.ext (by dsimp only; omega) (Prod.ext (by dsimp only; omega) (by dsimp only; omega))
def evenT (r : R) (a b c : Nat) : Bool := decide (r.pts a b + r.pts (a + b : Nat) c = r.pts b c + r.pts a (b + c : Nat))
def clashN (r : R) (m : Nat) : Option T3 := (triN m).find? fun t => !evenT r t.1 t.2.1 t.2.2
def R.triM : R → Nat
  | .tab rows => rows.length - 1
  | .trm _ => 13
def R.clash (r : R) : Option T3 := clashN r r.triM
def clashD : Option T3 → PyData
  | none => .none
  | some t => .tuple [.int (t.1 + t.2.1 + t.2.2 : Nat), .int t.1, .int t.2.1, .int t.2.2]
theorem find_at {α : Type} {p : α → Bool} {pre suf : List α} {t : α} (h : ∀ x ∈ pre, p x = false) (ht : p t = true) : (pre ++ t :: suf).find? p = some t := by
  rw [List.find?_append, List.find?_cons, ht]
  rw [List.find?_eq_none.mpr fun x hx => by rw [h x hx]; decide]
  rfl
theorem triM_ok {r : R} (ok : r.ok) : r.triM ≤ 38 ∧ (r.triM : Int) + 2 ≤ r.top := by
  cases r with
  | tab rows =>
    obtain ⟨h1, h2, _⟩ := ok
    show rows.length - 1 ≤ 38 ∧ ((rows.length - 1 : Nat) : Int) + 2 ≤ (rows.length : Int) + 1
    omega
  | trm ts => exact (by decide : (13 : Nat) ≤ 38 ∧ ((13 : Nat) : Int) + 2 ≤ 1000000000000000000000000000000)
theorem kind_trm (r : R) : decide (r.kind = ("terms" : Str)) = match r with | .tab _ => false | .trm _ => true := by
  cases r with
  | tab _ => exact decide_eq_false (show ¬ ("table" : Str) = "terms" from by decide +kernel)
  | trm _ => exact decide_eq_true rfl
theorem w_iteV {b : Bool} {ta tb : TE} {σ : St} {H : Hp} {Q : VK} (x : V) (k : Q x H) (h1 : b = true → ∀ Q' : VK, Q' x H → ta σ H Q') (h2 : b = false → ∀ Q' : VK, Q' x H → tb σ H Q') : if b = true then ta σ H Q else tb σ H Q := by
  cases b with
  | true => exact w_iteT (h1 rfl Q k)
  | false => exact w_iteF (h2 rfl Q k)
theorem w_extend {l b : Addr} {xs zs : List V} {H : Hp} {Q : VK} (h1 : H l = some (.lst xs)) (h2 : H b = some (.lst zs)) (hz : xs.length + zs.length ≤ 100000) (h : Q .non (upd H l (.lst (xs ++ zs)))) : rExtend (.ref l) [.ref b] H Q := ⟨l, b, xs, zs, rfl, rfl, h1, h2, Nat.le_trans hz (by decide), h⟩
def sp_triples_of (Γ : Gm) : Sp := fun vs H Q _ => ∃ v r, vs = [v] ∧ RuleAt Γ H v r ∧ ∀ l xs H', Same H H' → H l = none → H' l = some (.lst xs) → TpAll H' xs ((triN r.triM).map triD) → Q (.ref l) H'
/-- triples_of: rule, most, found, heap, first, second -/
def t_triples_of (Γ : Gm) : TS := (tSeq (tAsg (tIf (tTest (tOp (rEqU Γ.K) (tFld Γ.K (tVar 0) "form") (tC (.str "terms")))) (tOp (rAddU Γ.K) (tOp (rMulU Γ.K) (tC (.int 3)) (tC (.int 4))) (tC (.int 3))) (tCal (sp_most_of Γ) E0 (tCons (tVar 0) tNil))) (gName 1))
  (tSeq (tAsg (tLst tNil) (gName 2))
  (tSeq (tFor (iRng2 (tCons (tC (.int 3)) (tCons (tOp (rAddU Γ.K) (tVar 1) (tC (.int 1))) tNil))) (gName 3) (tFor (iRng2 (tCons (tC (.int 1)) (tCons (tOp rSubI (tVar 3) (tC (.int 1))) tNil))) (gName 4) (tDrop (tBM Γ.K "list" rExtend (tVar 2) (tCons (tLc (iRng2 (tCons (tC (.int 1)) (tCons (tOp rSubI (tVar 3) (tVar 4)) tNil))) (gName 5) tYes (tTup (tCons (tVar 4) (tCons (tVar 5) (tCons (tOp rSubI (tOp rSubI (tVar 3) (tVar 4)) (tVar 5)) tNil)))) [5]) tNil)))))
  (tRet (tVar 2)))))
theorem rd_triples_of (Γ : Gm) (F : RuleF Γ) (vs : List V) (H : Hp) (Q : VK) (E : XK) (h : sp_triples_of Γ vs H Q E) : t_triples_of Γ ⟨fun _ H' => Q .non H', Q, fun _ _ => False, fun _ _ => False⟩ (startN 6 vs) H := by
  obtain ⟨v, r, rfl, hr, k⟩ := h
  have hok := hr.ok
  obtain ⟨m38, mtop⟩ := triM_ok hok
  obtain ⟨m, hm⟩ : ∃ m, m = r.triM := ⟨_, rfl⟩
  rw [← hm] at k m38 mtop
  unfold t_triples_of
  walk_at "ss"
  refine w_form F hr ?_
  walk_at "ss"
  refine w_iteV (.int ((m : Int) + 2)) ?_ (fun e Q' q => ?_) (fun e Q' q => ?_)
  rotate_left
  · rw [kind_trm] at e
    cases r with
    | tab rows => cases e
    | trm ts =>
      have : m = 13 := hm
      subst this
      walk_at "ss"
      exact q
  · rw [kind_trm] at e
    cases r with
    | trm ts => cases e
    | tab rows =>
      walk_at "ss"
      refine ⟨v, _, rfl, hr, ?_⟩
      have : (R.tab rows).top = (m : Int) + 2 := by
        obtain ⟨h1, _, _⟩ := hok
        have e1 : m = rows.length - 1 := hm
        show (rows.length : Int) + 1 = _
        omega
      rw [this]
      exact q
  walk_at "ss"
  refine n_lst fun L H1 fL e1 g1 => ?_
  walk_at "ss"
  refine k_rng2 (by omega) ?_
  rw [show ((m : Int) + 2 + 1 - 3).toNat = m by omega]
  refine k_range (fun i σ H' => ∃ xs x3 x4 x5, σ = [some v, some (.int ((m : Int) + 2)), some (.ref L), x3, x4, x5] ∧ Same H H' ∧ H' L = some (.lst xs) ∧ TpAll H' xs ((triN i).map triD)) ⟨[], none, none, none, rfl, e1, g1, .nil⟩ ?_ ?_
  · rintro i σ H2 hi ⟨xs, x3, x4, x5, rfl, e2, g2, t2⟩
    walk_at "ss"
    refine k_rng2 (by omega) ?_
    rw [show (3 + (i : Int) - 1 - 1).toNat = i + 1 by omega]
    refine k_range (fun j σ H' => ∃ xs x4 x5, σ = [some v, some (.int ((m : Int) + 2)), some (.ref L), some (.int (3 + (i : Int))), x4, x5] ∧ Same H H' ∧ H' L = some (.lst xs) ∧ TpAll H' xs ((triN i ++ tri2 (i + 3) j).map triD)) ⟨xs, _, _, rfl, e2, g2, by simpa [tri2] using t2⟩ ?_ ?_
    · rintro j σ H3 hj ⟨xs, x4', x5', rfl, e3, g3, t3⟩
      walk_at "ss"
      refine w_tyL g3 ?_
      walk_at "ss"
      refine k_rng2 (by omega) ?_
      rw [show (3 + (i : Int) - (1 + (j : Int)) - 1).toNat = i + 3 - (j + 1) - 1 by omega]
      have sz : (triN i ++ tri2 (i + 3) (j + 1)).length ≤ 10000 := by
        obtain ⟨s1, e1⟩ := flat_cut (fun i => tri2 (i + 3) (i + 1)) (show i < 38 by omega)
        have z1 : triN 38 = triN i ++ (tri2 (i + 3) (i + 1) ++ s1) := e1
        have z2 : ∃ s2, tri2 (i + 3) (i + 1) = tri2 (i + 3) (j + 1) ++ s2 := by
          by_cases c : j + 1 < i + 1
          · obtain ⟨s2, e2⟩ := flat_cut (fun q => tri1 (i + 3) (q + 1) (i + 3 - (q + 1) - 1)) c
            exact ⟨_, e2⟩
          · exact ⟨[], by rw [show j + 1 = i + 1 by omega, List.append_nil]⟩
        obtain ⟨s2, z2⟩ := z2
        have := triN_sz
        rw [z1, z2] at this
        simp only [List.length_append] at this ⊢
        omega
      rw [tri2_succ] at sz
      simp only [List.length_append] at sz
      have l3 := t3.length
      simp only [List.length_map, List.length_append] at l3
      have tl : ∀ n, (tri1 (i + 3) (j + 1) n).length = n := fun n => by unfold tri1; rw [List.length_map, List.length_range]
      rw [tl] at sz
      refine k_lcRange (fun k acc H' => TpAll H' acc ((tri1 (i + 3) (j + 1) k).map triD)) (fun _ _ => .nil) ?_ ?_
      · rintro k D acc H4 hk hD e4 hacc tacc
        walk_at "ss"
        refine ⟨rfl, ?_⟩
        walk_at "ss"
        refine n_tup fun p H5 f5 e5 g5 => ?_
        have al := tacc.length
        rw [List.length_map, tl] at al
        have d5 := e5 _ _ hacc
        have uD : Tups H5 (upd H5 D (.lst (acc ++ [.ref p]))) := (Same.refl H5).tups.upd (fun xs z => by rw [d5] at z; cases z)
        refine lcTurn.mk hD (e4.trans e5) d5 (by omega) ?_
        rw [tri1_succ, List.map_append]
        refine (tacc.mono (e5.tups.trans uD)).append (.cons (.tup (uD _ _ g5) ?_) .nil)
        show TpAll _ _ [.int ((j + 1 : Nat) : Int), .int ((k + 1 : Nat) : Int), .int ((i + 3 - (j + 1) - (k + 1) : Nat) : Int)]
        rw [show (((j + 1 : Nat)) : Int) = 1 + (j : Int) by omega, show (((k + 1 : Nat)) : Int) = 1 + (k : Int) by omega, show (((i + 3 - (j + 1) - (k + 1) : Nat)) : Int) = 3 + (i : Int) - (1 + (j : Int)) - (1 + (k : Int)) by omega]
        exact .cons (.int _) (.cons (.int _) (.cons (.int _) .nil))
      · rintro D acc H4 hD e4 hacc tacc
        have al := tacc.length
        rw [List.length_map, tl] at al
        have gL := e4 _ _ g3
        walk_at "ss"
        refine w_extend gL hacc (by omega) ?_
        have uL : Tups H4 (upd H4 L (.lst (xs ++ acc))) := (Same.refl H4).tups.upd (fun xs z => by rw [gL] at z; cases z)
        refine ⟨xs ++ acc, _, _, rfl, Same.mut (e3.trans e4) fL, upd_same, ?_⟩
        rw [tri2_succ, ← List.append_assoc, List.map_append]
        exact (t3.mono (e4.tups.trans uL)).append (tacc.mono uL)
    · rintro σ H3 ⟨xs, x4', x5', rfl, e3, g3, t3⟩
      walk_at "ss"
      refine ⟨xs, _, _, _, rfl, e3, g3, ?_⟩
      rw [triN_succ]
      exact t3
  · rintro σ H2 ⟨xs, x3, x4, x5, rfl, e2, g2, t2⟩
    walk_at "ss"
    exact k L xs H2 e2 fL g2 t2
def sp_is_even (Γ : Gm) : Sp := fun vs H Q _ => ∃ v r, ∃ a b c : Nat, vs = [v, .int a, .int b, .int c] ∧ RuleAt Γ H v r ∧ 1 ≤ a ∧ 1 ≤ b ∧ 1 ≤ c ∧ ((a + b + c : Nat) : Int) ≤ r.top ∧ ∀ H', Same H H' → Q (.bl (evenT r a b c)) H'
/-- is_even: rule, first, second, third, left -/
def t_is_even (Γ : Gm) : TS := (tSeq (tAsg (tOp (rAddU Γ.K) (tCal (sp_points_by Γ) E0 (tCons (tVar 0) (tCons (tVar 1) (tCons (tVar 2) tNil)))) (tCal (sp_points_by Γ) E0 (tCons (tVar 0) (tCons (tOp (rAddU Γ.K) (tVar 1) (tVar 2)) (tCons (tVar 3) tNil))))) (gName 4))
  (tRet (tOp (rEqU Γ.K) (tVar 4) (tOp (rAddU Γ.K) (tCal (sp_points_by Γ) E0 (tCons (tVar 0) (tCons (tVar 2) (tCons (tVar 3) tNil)))) (tCal (sp_points_by Γ) E0 (tCons (tVar 0) (tCons (tVar 1) (tCons (tOp (rAddU Γ.K) (tVar 2) (tVar 3)) tNil))))))))
theorem rd_is_even (Γ : Gm) (vs : List V) (H : Hp) (Q : VK) (E : XK) (h : sp_is_even Γ vs H Q E) : t_is_even Γ ⟨fun _ H' => Q .non H', Q, fun _ _ => False, fun _ _ => False⟩ (startN 5 vs) H := by
  obtain ⟨v, r, a, b, c, rfl, hr, ha, hb, hc, ht, k⟩ := h
  unfold t_is_even
  walk_at "ss"
  refine ⟨v, r, a, b, rfl, hr, by omega, by omega, by omega, fun H1 e1 => ?_⟩
  walk_at "ss"
  refine ⟨v, r, _, _, rfl, hr.mono e1, by omega, by omega, by omega, fun H2 e2 => ?_⟩
  walk_at "ss"
  refine ⟨v, r, _, _, rfl, hr.mono (e1.trans e2), by omega, by omega, by omega, fun H3 e3 => ?_⟩
  walk_at "ss"
  refine ⟨v, r, _, _, rfl, hr.mono (e1.trans (e2.trans e3)), by omega, by omega, by omega, fun H4 e4 => ?_⟩
  walk_at "ss"
  exact k H4 (e1.trans (e2.trans (e3.trans e4)))
def sp_clash (Γ : Gm) : Sp := fun vs H Q _ => ∃ v r, vs = [v] ∧ RuleAt Γ H v r ∧ ∀ x H', Same H H' → Tp H' x (clashD r.clash) → Q x H'
/-- clash: rule, first, second, third -/
def t_clash (Γ : Gm) : TS := (tSeq (tFor (iSeq Γ.K (tCal (sp_triples_of Γ) E0 (tCons (tVar 0) tNil))) (gTup Γ.K 3 (gCons (gName 1) (gCons (gName 2) (gCons (gName 3) gNil)))) (tIfS (tNot (tB (tCal (sp_is_even Γ) E0 (tCons (tVar 0) (tCons (tVar 1) (tCons (tVar 2) (tCons (tVar 3) tNil))))))) (tRet (tTup (tCons (tOp (rAddU Γ.K) (tOp (rAddU Γ.K) (tVar 1) (tVar 2)) (tVar 3)) (tCons (tVar 1) (tCons (tVar 2) (tCons (tVar 3) tNil)))))) tNext))
  (tRet (tC .non)))
theorem tri_inv {H : Hp} {x : V} {t : T3} (h : Tp H x (triD t)) : ∃ p, x = .ref p ∧ H p = some (.tup [.int t.1, .int t.2.1, .int t.2.2]) := by
  obtain ⟨p, xs, rfl, hp, tp⟩ := h.inv
  have e := TpAll.ints (ns := [(t.1 : Int), (t.2.1 : Int), (t.2.2 : Int)]) tp
  subst e
  exact ⟨p, rfl, hp⟩
theorem rd_clash (Γ : Gm) (vs : List V) (H : Hp) (Q : VK) (E : XK) (h : sp_clash Γ vs H Q E) : t_clash Γ ⟨fun _ H' => Q .non H', Q, fun _ _ => False, fun _ _ => False⟩ (startN 4 vs) H := by
  obtain ⟨v, r, rfl, hr, k⟩ := h
  obtain ⟨m38, mtop⟩ := triM_ok hr.ok
  unfold t_clash
  walk_at "ss"
  refine ⟨v, r, rfl, hr, fun l xs H1 e1 f1 g1 t1 => ?_⟩
  refine k_seqL (SqL.of g1) ?_
  refine k_list (xs := xs) (fun i σ H' => ∃ x1 x2 x3, σ = [some v, x1, x2, x3] ∧ Same H1 H' ∧ ∀ t ∈ (triN r.triM).take i, (!evenT r t.1 t.2.1 t.2.2) = false) ⟨none, none, none, rfl, Same.refl H1, fun t ht => nomatch ht⟩ (fun i σ H' _ ⟨_, _, _, _, e, _⟩ => SqL.of (e _ _ g1)) ?_ ?_
  · rintro i x σ H2 hi ⟨x1, x2, x3, rfl, e2, pre⟩
    obtain ⟨d, hd, tx⟩ := t1.get' hi
    rw [List.getElem?_map] at hd
    obtain ⟨t, ht, rfl⟩ := Option.map_eq_some_iff.mp hd
    obtain ⟨p, rfl, hp⟩ := tri_inv (tx.mono e2.tups)
    obtain ⟨a, b, c⟩ := t
    obtain ⟨a1, b1, c1, s1⟩ := mem_triN (List.mem_of_getElem? ht)
    dsimp only at a1 b1 c1 s1 hp
    refine w_gTup (SqT.of hp) rfl ?_
    walk_at "ss"
    refine ⟨v, r, a, b, c, rfl, hr.mono (e1.trans e2), a1, b1, c1, by omega, fun H3 e3 => ?_⟩
    walk_at "ss"
    refine w_ite (fun e => ?_) (fun e => ?_)
    · walk_at "ss"
      refine n_tup fun q H4 f4 e4 g4 => ?_
      refine k _ H4 (e1.trans (e2.trans (e3.trans e4))) ?_
      have ec : r.clash = some (a, b, c) := by
        obtain ⟨hlt, _⟩ := List.getElem?_eq_some_iff.mp ht
        show (triN r.triM).find? _ = _
        rw [← List.take_append_drop i (triN r.triM), show (triN r.triM).drop i = (a, b, c) :: (triN r.triM).drop (i + 1) from by rw [List.drop_eq_getElem_cons hlt]; congr 1]
        exact find_at pre e
      rw [ec]
      refine .tup g4 ?_
      show TpAll _ _ [.int ((a + b + c : Nat) : Int), .int (a : Int), .int (b : Int), .int (c : Int)]
      rw [show (((a + b + c : Nat)) : Int) = (a : Int) + (b : Int) + (c : Int) by omega]
      exact .cons (.int _) (.cons (.int _) (.cons (.int _) (.cons (.int _) .nil)))
    · walk_at "ss"
      refine ⟨_, _, _, rfl, e2.trans e3, fun t' ht' => ?_⟩
      rw [take_succ ht, List.mem_append, List.mem_singleton] at ht'
      rcases ht' with ht' | rfl
      · exact pre t' ht'
      · exact e
  · rintro σ H2 ⟨x1, x2, x3, rfl, e2, pre⟩
    walk_at "ss"
    refine k _ H2 (e1.trans e2) ?_
    have ec : r.clash = none := by
      have hl := t1.length
      rw [List.length_map] at hl
      rw [hl, List.take_length] at pre
      exact List.find?_eq_none.mpr fun t ht => by rw [pre t ht]; decide
    rw [ec]
    exact .non
def sp_is_sure (Γ : Gm) : Sp := fun vs H Q _ => ∃ v r, vs = [v] ∧ RuleAt Γ H v r ∧ ∀ H', Same H H' → Q (.bl r.clash.isNone) H'
/-- is_sure: rule -/
def t_is_sure (Γ : Gm) : TS := (tRet (tOp rIsU (tCal (sp_clash Γ) E0 (tCons (tVar 0) tNil)) (tC .non)))
theorem clash_isN {H : Hp} {x : V} {c : Option T3} (h : Tp H x (clashD c)) : decide (x = V.non) = c.isNone := by
  cases c with
  | none => cases h; rfl
  | some t =>
    obtain ⟨p, xs, rfl, _, _⟩ := (show Tp H x (.tuple _) from h).inv
    rfl
theorem rd_is_sure (Γ : Gm) (vs : List V) (H : Hp) (Q : VK) (E : XK) (h : sp_is_sure Γ vs H Q E) : t_is_sure Γ ⟨fun _ H' => Q .non H', Q, fun _ _ => False, fun _ _ => False⟩ (startN 1 vs) H := by
  obtain ⟨v, r, rfl, hr, k⟩ := h
  unfold t_is_sure
  walk_at "ss"
  refine ⟨v, r, rfl, hr, fun x H1 e1 tx => ?_⟩
  walk_at "ss"
  rw [clash_isN tx]
  exact k H1 e1
def sp__law_clash (Γ : Gm) : Sp := fun vs H Q _ => ∃ v r, ∃ m : Nat, vs = [v, .int ((m : Int) + 2)] ∧ RuleAt Γ H v r ∧ m ≤ 38 ∧ (m : Int) + 2 ≤ r.top ∧ ∀ x H', Same H H' → Tp H' x (clashD (clashN r m)) → Q x H'
/-- law_clash: _law_rule_here, _law_most, _law_heap, _law_one, _law_other, _law_last, _law_left -/
def t__law_clash (Γ : Gm) : TS := (tSeq (tFor (iRng2 (tCons (tC (.int 3)) (tCons (tOp (rAddU Γ.K) (tVar 1) (tC (.int 1))) tNil))) (gName 2) (tFor (iRng2 (tCons (tC (.int 1)) (tCons (tOp rSubI (tVar 2) (tC (.int 1))) tNil))) (gName 3) (tFor (iRng2 (tCons (tC (.int 1)) (tCons (tOp rSubI (tVar 2) (tVar 3)) tNil))) (gName 4) (tSeq (tAsg (tOp rSubI (tOp rSubI (tVar 2) (tVar 3)) (tVar 4)) (gName 5))
  (tSeq (tAsg (tOp (rAddU Γ.K) (tCal (sp__law_points Γ) E0 (tCons (tVar 0) (tCons (tVar 3) (tCons (tVar 4) tNil)))) (tCal (sp__law_points Γ) E0 (tCons (tVar 0) (tCons (tOp (rAddU Γ.K) (tVar 3) (tVar 4)) (tCons (tVar 5) tNil))))) (gName 6))
  (tIfS (tTest (tOp (rNeU Γ.K) (tVar 6) (tOp (rAddU Γ.K) (tCal (sp__law_points Γ) E0 (tCons (tVar 0) (tCons (tVar 4) (tCons (tVar 5) tNil)))) (tCal (sp__law_points Γ) E0 (tCons (tVar 0) (tCons (tVar 3) (tCons (tOp (rAddU Γ.K) (tVar 4) (tVar 5)) tNil))))))) (tRet (tTup (tCons (tVar 2) (tCons (tVar 3) (tCons (tVar 4) (tCons (tVar 5) tNil)))))) tNext))))))
  (tRet (tC .non)))
theorem rd__law_clash (Γ : Gm) (vs : List V) (H : Hp) (Q : VK) (E : XK) (h : sp__law_clash Γ vs H Q E) : t__law_clash Γ ⟨fun _ H' => Q .non H', Q, fun _ _ => False, fun _ _ => False⟩ (startN 7 vs) H := by
  obtain ⟨v, r, m, rfl, hr, m38, mtop, k⟩ := h
  unfold t__law_clash
  walk_at "ss"
  refine k_rng2 (by omega) ?_
  rw [show ((m : Int) + 2 + 1 - 3).toNat = m by omega]
  refine k_range (fun i σ H' => ∃ x2 x3 x4 x5 x6, σ = [some v, some (.int ((m : Int) + 2)), x2, x3, x4, x5, x6] ∧ H' = H ∧ ∀ t ∈ triN i, (!evenT r t.1 t.2.1 t.2.2) = false) ⟨none, none, none, none, none, rfl, rfl, fun t ht => nomatch ht⟩ ?_ ?_
  · rintro i σ H2 hi ⟨x2, x3, x4, x5, x6, rfl, rfl, p1⟩
    walk_at "ss"
    refine k_rng2 (by omega) ?_
    rw [show (3 + (i : Int) - 1 - 1).toNat = i + 1 by omega]
    refine k_range (fun j σ H' => ∃ x3 x4 x5 x6, σ = [some v, some (.int ((m : Int) + 2)), some (.int (3 + (i : Int))), x3, x4, x5, x6] ∧ H' = H2 ∧ ∀ t ∈ tri2 (i + 3) j, (!evenT r t.1 t.2.1 t.2.2) = false) ⟨_, _, _, _, rfl, rfl, fun t ht => nomatch ht⟩ ?_ ?_
    · rintro j σ H3 hj ⟨x3', x4', x5', x6', rfl, rfl, p2⟩
      walk_at "ss"
      refine k_rng2 (by omega) ?_
      rw [show (3 + (i : Int) - (1 + (j : Int)) - 1).toNat = i + 3 - (j + 1) - 1 by omega]
      refine k_range (fun q σ H' => ∃ x4 x5 x6, σ = [some v, some (.int ((m : Int) + 2)), some (.int (3 + (i : Int))), some (.int (1 + (j : Int))), x4, x5, x6] ∧ H' = H3 ∧ ∀ t ∈ tri1 (i + 3) (j + 1) q, (!evenT r t.1 t.2.1 t.2.2) = false) ⟨_, _, _, rfl, rfl, fun t ht => nomatch ht⟩ ?_ ?_
      · rintro q σ H4 hq ⟨x4'', x5'', x6'', rfl, rfl, p3⟩
        obtain ⟨c, hc⟩ : ∃ c : Nat, (c : Int) = 3 + (i : Int) - (1 + (j : Int)) - (1 + (q : Int)) := ⟨i + 3 - (j + 1) - (q + 1), by omega⟩
        obtain ⟨a, ha⟩ : ∃ a : Nat, (a : Int) = 1 + (j : Int) := ⟨j + 1, by omega⟩
        obtain ⟨b, hb⟩ : ∃ b : Nat, (b : Int) = 1 + (q : Int) := ⟨q + 1, by omega⟩
        have ec : c = i + 3 - (j + 1) - (q + 1) := by omega
        have ea : a = j + 1 := by omega
        have eb : b = q + 1 := by omega
        walk_at "ss"
        rw [← hc, ← ha, ← hb]
        refine ⟨v, r, a, b, rfl, hr, by omega, by omega, by omega, ?_⟩
        walk_at "ss"
        refine ⟨v, r, _, _, rfl, hr, by omega, by omega, by omega, ?_⟩
        walk_at "ss"
        refine ⟨v, r, _, _, rfl, hr, by omega, by omega, by omega, ?_⟩
        walk_at "ss"
        refine ⟨v, r, _, _, rfl, hr, by omega, by omega, by omega, ?_⟩
        walk_at "ss"
        have ev : decide (r.pts (a : Int) (b : Int) + r.pts ((a : Int) + (b : Int)) (c : Int) = r.pts (b : Int) (c : Int) + r.pts (a : Int) ((b : Int) + (c : Int))) = evenT r a b c := rfl
        rw [ev]
        refine w_ite (fun e => ?_) (fun e => ?_)
        · walk_at "ss"
          refine n_tup fun p H5 f5 e5 g5 => ?_
          refine k _ H5 e5 ?_
          obtain ⟨s, es⟩ := tri_cut hi hj hq
          have ecl : clashN r m = some (a, b, c) := by
            show (triN m).find? _ = _
            rw [es, ← ec, ← ea, ← eb]
            refine find_at (fun t ht => ?_) e
            rw [List.mem_append, List.mem_append] at ht
            rcases ht with ht | ht | ht
            · exact p1 t ht
            · exact p2 t ht
            · rw [ea] at ht; exact p3 t ht
          rw [ecl]
          refine .tup g5 ?_
          show TpAll _ _ [.int ((a + b + c : Nat) : Int), .int (a : Int), .int (b : Int), .int (c : Int)]
          rw [show (((a + b + c : Nat)) : Int) = 3 + (i : Int) by omega]
          exact .cons (.int _) (.cons (.int _) (.cons (.int _) (.cons (.int _) .nil)))
        · walk_at "ss"
          refine ⟨_, _, _, by rw [ha]; rfl, rfl, fun t ht => ?_⟩
          rw [tri1_succ, List.mem_append, List.mem_singleton] at ht
          rcases ht with ht | rfl
          · exact p3 t ht
          · rw [← ec, ← ea, ← eb]; exact e
      · rintro σ H4 ⟨x4'', x5'', x6'', rfl, rfl, p3⟩
        walk_at "ss"
        refine ⟨_, _, _, _, rfl, rfl, fun t ht => ?_⟩
        rw [tri2_succ, List.mem_append] at ht
        rcases ht with ht | ht
        · exact p2 t ht
        · exact p3 t ht
    · rintro σ H3 ⟨x3', x4', x5', x6', rfl, rfl, p2⟩
      walk_at "ss"
      refine ⟨_, _, _, _, _, rfl, rfl, fun t ht => ?_⟩
      rw [triN_succ, List.mem_append] at ht
      rcases ht with ht | ht
      · exact p1 t ht
      · exact p2 t ht
  · rintro σ H2 ⟨x2, x3, x4, x5, x6, rfl, rfl, p1⟩
    walk_at "ss"
    refine k _ H2 (Same.refl H2) ?_
    have : clashN r m = none := List.find?_eq_none.mpr fun t ht => by rw [p1 t ht]; decide
    rw [this]
    exact .non

/-! ### the plain law of sure terms: five heaps each are enough -/
def rec5 (f : Int → Int) : Prop := ∀ x, f (x + 5) = 5 * f (x + 4) - 10 * f (x + 3) + 10 * f (x + 2) - 5 * f (x + 1) + f x
theorem rec5_zero {f : Int → Int} (h : rec5 f) (h1 : f 1 = 0) (h2 : f 2 = 0) (h3 : f 3 = 0) (h4 : f 4 = 0) (h5 : f 5 = 0) : ∀ n : Nat, f (n + 1 : Nat) = 0 ∧ f (n + 2 : Nat) = 0 ∧ f (n + 3 : Nat) = 0 ∧ f (n + 4 : Nat) = 0 ∧ f (n + 5 : Nat) = 0
  | 0 => ⟨h1, h2, h3, h4, h5⟩
  | n + 1 => by
    obtain ⟨a, b, c, d, e⟩ := rec5_zero h h1 h2 h3 h4 h5 n
    refine ⟨?_, ?_, ?_, ?_, ?_⟩
    · rw [show ((n + 1 + 1 : Nat) : Int) = ((n + 2 : Nat) : Int) by omega]; exact b
    · rw [show ((n + 1 + 2 : Nat) : Int) = ((n + 3 : Nat) : Int) by omega]; exact c
    · rw [show ((n + 1 + 3 : Nat) : Int) = ((n + 4 : Nat) : Int) by omega]; exact d
    · rw [show ((n + 1 + 4 : Nat) : Int) = ((n + 5 : Nat) : Int) by omega]; exact e
    · have z := h ((n + 1 : Nat) : Int)
      rw [show ((n + 1 : Nat) : Int) + 5 = ((n + 1 + 5 : Nat) : Int) by omega, show ((n + 1 : Nat) : Int) + 4 = ((n + 5 : Nat) : Int) by omega, show ((n + 1 : Nat) : Int) + 3 = ((n + 4 : Nat) : Int) by omega, show ((n + 1 : Nat) : Int) + 2 = ((n + 3 : Nat) : Int) by omega, show ((n + 1 : Nat) : Int) + 1 = ((n + 2 : Nat) : Int) by omega, a, b, c, d, e] at z
      rw [z]
      decide
theorem rec5_all {f : Int → Int} (h : rec5 f) (h0 : ∀ i : Nat, 1 ≤ i → i ≤ 5 → f i = 0) (n : Nat) (hn : 1 ≤ n) : f n = 0 := by
  have := (rec5_zero h (h0 1 (by decide) (by decide)) (h0 2 (by decide) (by decide)) (h0 3 (by decide) (by decide)) (h0 4 (by decide) (by decide)) (h0 5 (by decide) (by decide)) (n - 1)).1
  rwa [show n - 1 + 1 = n by omega] at this
theorem rec5_pow (K y : Int) : ∀ k, k ≤ 4 → rec5 fun x => K * (x + y) ^ k
  | 0, _, x => by dsimp only; grind
  | 1, _, x => by dsimp only; grind
  | 2, _, x => by dsimp only; grind
  | 3, _, x => by dsimp only; grind
  | 4, _, x => by dsimp only; grind
  | k + 5, h, _ => by omega
theorem rec5_add {f g : Int → Int} (hf : rec5 f) (hg : rec5 g) : rec5 fun x => f x + g x := fun x => by
  have a := hf x
  have b := hg x
  dsimp only
  rw [a, b]
  omega
theorem rec5_neg {f : Int → Int} (hf : rec5 f) : rec5 fun x => -f x := fun x => by
  have a := hf x
  dsimp only
  rw [a]
  omega
theorem rec5_congr {f g : Int → Int} (e : ∀ x, g x = f x) (hf : rec5 f) : rec5 g := by
  have : g = f := funext e
  rw [this]
  exact hf
/-- what one term gives more by the one way than by the other -/
def dTerm (t : Int × Nat × Nat) (a b c : Int) : Int := t.1 * a ^ t.2.1 * b ^ t.2.2 + t.1 * (a + b) ^ t.2.1 * c ^ t.2.2 + (-(t.1 * b ^ t.2.1 * c ^ t.2.2) + -(t.1 * a ^ t.2.1 * (b + c) ^ t.2.2))
def dSum (ts : List (Int × Nat × Nat)) (a b c : Int) : Int := (ts.map fun t => dTerm t a b c).sum
theorem dSum_eq (ts : List (Int × Nat × Nat)) (a b c : Int) : dSum ts a b c = (R.trm ts).pts a b + (R.trm ts).pts (a + b) c - ((R.trm ts).pts b c + (R.trm ts).pts a (b + c)) := by
  induction ts with
  | nil => rfl
  | cons t ts ih =>
    have e : ∀ x y, (R.trm (t :: ts)).pts x y = t.1 * x ^ t.2.1 * y ^ t.2.2 + (R.trm ts).pts x y := fun x y => rfl
    have e2 : dSum (t :: ts) a b c = dTerm t a b c + dSum ts a b c := rfl
    rw [e2, ih, e, e, e, e]
    unfold dTerm
    omega
theorem rec5_sum {F : Int × Nat × Nat → Int → Int} : ∀ (ts : List (Int × Nat × Nat)), (∀ t ∈ ts, rec5 (F t)) → rec5 fun x => (ts.map fun t => F t x).sum
  | [], _ => fun x => rfl
  | t :: ts, h => rec5_congr (fun x => by rw [List.map_cons, List.sum_cons]) (rec5_add (h t (List.mem_cons_self ..)) (rec5_sum ts fun t' h' => h t' (List.mem_cons_of_mem _ h')))
theorem dT_a {t : Int × Nat × Nat} (h1 : t.2.1 ≤ 4) (b c : Int) : rec5 fun a => dTerm t a b c := by
  unfold dTerm
  refine rec5_congr (fun x => ?_) (rec5_add (rec5_add (rec5_pow (t.1 * b ^ t.2.2) 0 t.2.1 h1) (rec5_pow (t.1 * c ^ t.2.2) b t.2.1 h1)) (rec5_add (rec5_pow (-(t.1 * b ^ t.2.1 * c ^ t.2.2)) 0 0 (by decide)) (rec5_neg (rec5_pow (t.1 * (b + c) ^ t.2.2) 0 t.2.1 h1))))
  simp only [Int.add_zero, Int.pow_zero, Int.mul_one]
  rw [Int.mul_right_comm t.1 (x ^ t.2.1), Int.mul_right_comm t.1 ((x + b) ^ t.2.1), Int.mul_right_comm t.1 (x ^ t.2.1) ((b + c) ^ t.2.2)]
theorem dT_b {t : Int × Nat × Nat} (h1 : t.2.1 ≤ 4) (h2 : t.2.2 ≤ 4) (a c : Int) : rec5 fun b => dTerm t a b c := by
  unfold dTerm
  refine rec5_congr (fun x => ?_) (rec5_add (rec5_add (rec5_pow (t.1 * a ^ t.2.1) 0 t.2.2 h2) (rec5_pow (t.1 * c ^ t.2.2) a t.2.1 h1)) (rec5_add (rec5_neg (rec5_pow (t.1 * c ^ t.2.2) 0 t.2.1 h1)) (rec5_neg (rec5_pow (t.1 * a ^ t.2.1) c t.2.2 h2))))
  simp only [Int.add_zero]
  rw [Int.mul_right_comm t.1 ((a + x) ^ t.2.1), Int.mul_right_comm t.1 (x ^ t.2.1), Int.add_comm a x]
theorem dT_c {t : Int × Nat × Nat} (h2 : t.2.2 ≤ 4) (a b : Int) : rec5 fun c => dTerm t a b c := by
  unfold dTerm
  refine rec5_congr (fun x => ?_) (rec5_add (rec5_add (rec5_pow (t.1 * a ^ t.2.1 * b ^ t.2.2) 0 0 (by decide)) (rec5_pow (t.1 * (a + b) ^ t.2.1) 0 t.2.2 h2)) (rec5_add (rec5_neg (rec5_pow (t.1 * b ^ t.2.1) 0 t.2.2 h2)) (rec5_neg (rec5_pow (t.1 * a ^ t.2.1) b t.2.2 h2))))
  simp only [Int.add_zero, Int.pow_zero, Int.mul_one, Int.add_comm x b]
theorem dSum_zero {ts : List (Int × Nat × Nat)} (ok : (R.trm ts).ok) (h : ∀ a b c : Nat, 1 ≤ a → a ≤ 5 → 1 ≤ b → b ≤ 5 → 1 ≤ c → c ≤ 5 → dSum ts a b c = 0) (a b c : Nat) (ha : 1 ≤ a) (hb : 1 ≤ b) (hc : 1 ≤ c) : dSum ts a b c = 0 := by
  obtain ⟨_, ok⟩ := ok
  have ra : ∀ b c, rec5 fun a => dSum ts a b c := fun b c => rec5_sum ts fun t ht => dT_a (ok t ht).2.2.1 b c
  have rb : ∀ a c, rec5 fun b => dSum ts a b c := fun a c => rec5_sum ts fun t ht => dT_b (ok t ht).2.2.1 (ok t ht).2.2.2 a c
  have rc : ∀ a b, rec5 fun c => dSum ts a b c := fun a b => rec5_sum ts fun t ht => dT_c (ok t ht).2.2.2 a b
  refine rec5_all (ra b c) (fun i hi1 hi2 => ?_) a ha
  refine rec5_all (rb i c) (fun j hj1 hj2 => ?_) b hb
  exact rec5_all (rc i j) (fun k hk1 hk2 => h i j k hi1 hi2 hj1 hj2 hk1 hk2) c hc
theorem even_dSum {ts : List (Int × Nat × Nat)} {a b c : Nat} : evenT (.trm ts) a b c = decide (dSum ts a b c = 0) := by
  unfold evenT
  rw [dSum_eq, decide_eq_decide, Int.natCast_add, Int.natCast_add]
  omega
theorem clashN_none {r : R} {m : Nat} : clashN r m = none ↔ ∀ a b c : Nat, 1 ≤ a → 1 ≤ b → 1 ≤ c → a + b + c ≤ m + 2 → evenT r a b c = true := by
  unfold clashN
  rw [List.find?_eq_none]
  constructor
  · intro h a b c ha hb hc hs
    have := h _ (triN_mem ha hb hc hs)
    simpa using this
  · intro h t ht
    obtain ⟨h1, h2, h3, h4⟩ := mem_triN ht
    rw [h _ _ _ h1 h2 h3 h4]
    decide
theorem trm_even {ts : List (Int × Nat × Nat)} (ok : (R.trm ts).ok) (h : clashN (.trm ts) 13 = none) (a b c : Nat) (ha : 1 ≤ a) (hb : 1 ≤ b) (hc : 1 ≤ c) : evenT (.trm ts) a b c = true := by
  rw [even_dSum, decide_eq_true_eq]
  refine dSum_zero ok (fun a b c a1 a5 b1 b5 c1 c5 => ?_) a b c ha hb hc
  have := clashN_none.mp h a b c a1 b1 c1 (by omega)
  rwa [even_dSum, decide_eq_true_eq] at this
theorem triN_more (m d : Nat) : ∃ s, triN (m + d) = triN m ++ s := by
  unfold triN
  rw [List.range_add, List.flatMap_append]
  exact ⟨_, rfl⟩
/-- a look further finds no other clash, of terms -/
theorem trm_clash {ts : List (Int × Nat × Nat)} (ok : (R.trm ts).ok) {m : Nat} (h : 13 ≤ m) : clashN (.trm ts) m = (R.trm ts).clash := by
  show _ = clashN (.trm ts) 13
  cases e : clashN (.trm ts) 13 with
  | none => exact clashN_none.mpr fun a b c ha hb hc _ => trm_even ok e a b c ha hb hc
  | some t =>
    obtain ⟨s, es⟩ := triN_more 13 (m - 13)
    rw [show 13 + (m - 13) = m by omega] at es
    unfold clashN at e ⊢
    rw [es, List.find?_append, e]
    rfl

/-! ### the plain law of the line -/
theorem thS_fst (ns : List Int) (k : Nat) (x : Rat) (hl : (thS ns k).2.1.length ≤ (thS ns k).1.length) : evalR (thS ns (k + 1)).1 x = evalR (thS ns k).1 x + mkRat ((thS ns k).2.2.headD 0) (fac k) * evalR (thS ns k).2.1 x := addS_eval _ _ x _ _ hl
theorem thS_snd (ns : List Int) (k : Nat) (x : Rat) : evalR (thS ns (k + 1)).2.1 x = (x - (((k + 1 : Nat) : Int) : Rat)) * evalR (thS ns k).2.1 x := tRoot_eval _ _ x
theorem thS_trd (ns : List Int) (k : Nat) : (thS ns (k + 1)).2.2 = diffs (thS ns k).2.2 := rfl
theorem thS_lens (ns : List Int) : ∀ k, k ≤ 7 → (thS ns k).1.length = 7 ∧ (thS ns k).2.1.length = k + 1
  | 0, _ => ⟨rfl, rfl⟩
  | k + 1, h => by
    obtain ⟨h1, h2⟩ := thS_lens ns k (by omega)
    constructor
    · show (addS _ _ _ _).length = 7
      rw [addS_len, h1]
    · show (goR _ _ _).length = _
      rw [goR_len, h2]
theorem eval_zeros (x : Rat) : ∀ n, evalR (List.replicate n (0 : Rat)) x = 0
  | 0 => rfl
  | n + 1 => by
    rw [List.replicate_succ]
    show 0 + x * evalR (List.replicate n (0 : Rat)) x = 0
    rw [eval_zeros x n]
    grind
def d0 (s : List Int) : Int := s.headD 0
def d1 (s : List Int) : Int := d0 (diffs s)
def d2 (s : List Int) : Int := d1 (diffs s)
def d3 (s : List Int) : Int := d2 (diffs s)
def d4 (s : List Int) : Int := d3 (diffs s)
def d5 (s : List Int) : Int := d4 (diffs s)
def d6 (s : List Int) : Int := d5 (diffs s)
theorem thru_eval (ns : List Int) (x : Rat) : evalR (thru ns) x =
    (d0 ns : Rat) + (d1 ns : Rat) * (x - 1) + (d2 ns : Rat) / 2 * ((x - 1) * (x - 2)) + (d3 ns : Rat) / 6 * ((x - 1) * (x - 2) * (x - 3)) + (d4 ns : Rat) / 24 * ((x - 1) * (x - 2) * (x - 3) * (x - 4))
    + (d5 ns : Rat) / 120 * ((x - 1) * (x - 2) * (x - 3) * (x - 4) * (x - 5)) + (d6 ns : Rat) / 720 * ((x - 1) * (x - 2) * (x - 3) * (x - 4) * (x - 5) * (x - 6)) := by
  have l := fun k (h : k ≤ 6) => thS_fst ns k x (by obtain ⟨h1, h2⟩ := thS_lens ns k (by omega); omega)
  have e0 : evalR (thS ns 0).1 x = 0 := eval_zeros x 7
  have p0 : evalR (thS ns 0).2.1 x = 1 := by
    show (1 : Rat) + x * 0 = 1
    grind
  have p1 := thS_snd ns 0 x
  have p2 := thS_snd ns 1 x
  have p3 := thS_snd ns 2 x
  have p4 := thS_snd ns 3 x
  have p5 := thS_snd ns 4 x
  have p6 := thS_snd ns 5 x
  have l0 := l 0 (by decide)
  have l1 := l 1 (by decide)
  have l2 := l 2 (by decide)
  have l3 := l 3 (by decide)
  have l4 := l 4 (by decide)
  have l5 := l 5 (by decide)
  have l6 := l 6 (by decide)
  have m0 : mkRat ((thS ns 0).2.2.headD 0) (fac 0) = (d0 ns : Rat) := mk_one _
  have m1 : mkRat ((thS ns 1).2.2.headD 0) (fac 1) = (d1 ns : Rat) := mk_one _
  have m2 : mkRat ((thS ns 2).2.2.headD 0) (fac 2) = (d2 ns : Rat) / 2 := Rat.mkRat_eq_div _ _
  have m3 : mkRat ((thS ns 3).2.2.headD 0) (fac 3) = (d3 ns : Rat) / 6 := Rat.mkRat_eq_div _ _
  have m4 : mkRat ((thS ns 4).2.2.headD 0) (fac 4) = (d4 ns : Rat) / 24 := Rat.mkRat_eq_div _ _
  have m5 : mkRat ((thS ns 5).2.2.headD 0) (fac 5) = (d5 ns : Rat) / 120 := Rat.mkRat_eq_div _ _
  have m6 : mkRat ((thS ns 6).2.2.headD 0) (fac 6) = (d6 ns : Rat) / 720 := Rat.mkRat_eq_div _ _
  have c1 : (((1 : Nat) : Int) : Rat) = 1 := rfl
  have c2 : (((2 : Nat) : Int) : Rat) = 2 := rfl
  have c3 : (((3 : Nat) : Int) : Rat) = 3 := rfl
  have c4 : (((4 : Nat) : Int) : Rat) = 4 := rfl
  have c5 : (((5 : Nat) : Int) : Rat) = 5 := rfl
  have c6 : (((6 : Nat) : Int) : Rat) = 6 := rfl
  show evalR (thS ns 7).1 x = _
  simp only [Nat.zero_add, Nat.reduceAdd] at p1 p2 p3 p4 p5 p6 l0 l1 l2 l3 l4 l5 l6
  rw [l6, l5, l4, l3, l2, l1, l0, p6, p5, p4, p3, p2, p1, p0, e0, m0, m1, m2, m3, m4, m5, m6, c1, c2, c3, c4, c5, c6]
  grind
theorem poly7 (c0 c1 c2 c3 c4 c5 c6 x : Rat) : evalR [c0, c1, c2, c3, c4, c5, c6] (x + 7) = 7 * evalR [c0, c1, c2, c3, c4, c5, c6] (x + 6) - 21 * evalR [c0, c1, c2, c3, c4, c5, c6] (x + 5) + 35 * evalR [c0, c1, c2, c3, c4, c5, c6] (x + 4) - 35 * evalR [c0, c1, c2, c3, c4, c5, c6] (x + 3) + 21 * evalR [c0, c1, c2, c3, c4, c5, c6] (x + 2) - 7 * evalR [c0, c1, c2, c3, c4, c5, c6] (x + 1) + evalR [c0, c1, c2, c3, c4, c5, c6] x := by
  simp only [evalR]
  grind
/-- at seven places -/
theorem thru_at (a0 a1 a2 a3 a4 a5 a6 : Int) : evalR (thru [a0, a1, a2, a3, a4, a5, a6]) 1 = a0 ∧ evalR (thru [a0, a1, a2, a3, a4, a5, a6]) 2 = a1 ∧ evalR (thru [a0, a1, a2, a3, a4, a5, a6]) 3 = a2 ∧ evalR (thru [a0, a1, a2, a3, a4, a5, a6]) 4 = a3 ∧ evalR (thru [a0, a1, a2, a3, a4, a5, a6]) 5 = a4 ∧ evalR (thru [a0, a1, a2, a3, a4, a5, a6]) 6 = a5 ∧ evalR (thru [a0, a1, a2, a3, a4, a5, a6]) 7 = a6 := by
  have e0 : d0 [a0, a1, a2, a3, a4, a5, a6] = a0 := rfl
  have e1 : d1 [a0, a1, a2, a3, a4, a5, a6] = a1 - a0 := rfl
  have e2 : d2 [a0, a1, a2, a3, a4, a5, a6] = a2 - 2 * a1 + a0 := by
    have : d2 [a0, a1, a2, a3, a4, a5, a6] = (a2 - a1) - (a1 - a0) := rfl
    omega
  have e3 : d3 [a0, a1, a2, a3, a4, a5, a6] = a3 - 3 * a2 + 3 * a1 - a0 := by
    have : d3 [a0, a1, a2, a3, a4, a5, a6] = ((a3 - a2) - (a2 - a1)) - ((a2 - a1) - (a1 - a0)) := rfl
    omega
  have e4 : d4 [a0, a1, a2, a3, a4, a5, a6] = a4 - 4 * a3 + 6 * a2 - 4 * a1 + a0 := by
    have : d4 [a0, a1, a2, a3, a4, a5, a6] = (((a4 - a3) - (a3 - a2)) - ((a3 - a2) - (a2 - a1))) - (((a3 - a2) - (a2 - a1)) - ((a2 - a1) - (a1 - a0))) := rfl
    omega
  have e5 : d5 [a0, a1, a2, a3, a4, a5, a6] = a5 - 5 * a4 + 10 * a3 - 10 * a2 + 5 * a1 - a0 := by
    have : d5 [a0, a1, a2, a3, a4, a5, a6] = d4 [a1, a2, a3, a4, a5] - d4 [a0, a1, a2, a3, a4] := rfl
    have h1 : d4 [a1, a2, a3, a4, a5] = (((a5 - a4) - (a4 - a3)) - ((a4 - a3) - (a3 - a2))) - (((a4 - a3) - (a3 - a2)) - ((a3 - a2) - (a2 - a1))) := rfl
    have h2 : d4 [a0, a1, a2, a3, a4] = (((a4 - a3) - (a3 - a2)) - ((a3 - a2) - (a2 - a1))) - (((a3 - a2) - (a2 - a1)) - ((a2 - a1) - (a1 - a0))) := rfl
    omega
  have e6 : d6 [a0, a1, a2, a3, a4, a5, a6] = a6 - 6 * a5 + 15 * a4 - 20 * a3 + 15 * a2 - 6 * a1 + a0 := by
    have : d6 [a0, a1, a2, a3, a4, a5, a6] = (d4 [a2, a3, a4, a5, a6] - d4 [a1, a2, a3, a4, a5]) - (d4 [a1, a2, a3, a4, a5] - d4 [a0, a1, a2, a3, a4]) := rfl
    have h0 : d4 [a2, a3, a4, a5, a6] = (((a6 - a5) - (a5 - a4)) - ((a5 - a4) - (a4 - a3))) - (((a5 - a4) - (a4 - a3)) - ((a4 - a3) - (a3 - a2))) := rfl
    have h1 : d4 [a1, a2, a3, a4, a5] = (((a5 - a4) - (a4 - a3)) - ((a4 - a3) - (a3 - a2))) - (((a4 - a3) - (a3 - a2)) - ((a3 - a2) - (a2 - a1))) := rfl
    have h2 : d4 [a0, a1, a2, a3, a4] = (((a4 - a3) - (a3 - a2)) - ((a3 - a2) - (a2 - a1))) - (((a3 - a2) - (a2 - a1)) - ((a2 - a1) - (a1 - a0))) := rfl
    omega
  have q := thru_eval [a0, a1, a2, a3, a4, a5, a6]
  simp only [e0, e1, e2, e3, e4, e5, e6, Rat.intCast_add, Rat.intCast_sub, Rat.intCast_mul, Rat.intCast_ofNat] at q
  refine ⟨?_, ?_, ?_, ?_, ?_, ?_, ?_⟩
  · rw [q]; grind
  · rw [q]; grind
  · rw [q]; grind
  · rw [q]; grind
  · rw [q]; grind
  · rw [q]; grind
  · rw [q]; grind
theorem seven {α : Type} {l : List α} (h : l.length = 7) : ∃ a b c d e f g, l = [a, b, c, d, e, f, g] := by
  match l, h with
  | [a, b, c, d, e, f, g], _ => exact ⟨a, b, c, d, e, f, g, rfl⟩
theorem thru_len (ns : List Int) : (thru ns).length = 7 := (thS_lens ns 7 (Nat.le_refl 7)).1
/-- a function whose seventh differences are 0 is told by seven values -/
theorem thru_all {f : Nat → Int} (h : ∀ n, f (n + 7) = 7 * f (n + 6) - 21 * f (n + 5) + 35 * f (n + 4) - 35 * f (n + 3) + 21 * f (n + 2) - 7 * f (n + 1) + f n) (n : Nat) :
    ∀ m, n ≤ m → m ≤ n + 6 → evalR (thru [f 0, f 1, f 2, f 3, f 4, f 5, f 6]) (((m + 1 : Nat) : Int) : Rat) = (f m : Rat) := by
  induction n with
  | zero =>
    obtain ⟨h0, h1, h2, h3, h4, h5, h6⟩ := thru_at (f 0) (f 1) (f 2) (f 3) (f 4) (f 5) (f 6)
    intro m _ hm
    match m, hm with
    | 0, _ => exact h0
    | 1, _ => exact h1
    | 2, _ => exact h2
    | 3, _ => exact h3
    | 4, _ => exact h4
    | 5, _ => exact h5
    | 6, _ => exact h6
  | succ n ih =>
    intro m h1 h2
    by_cases e : m ≤ n + 6
    · exact ih m (by omega) e
    · have em : m = n + 7 := by omega
      subst em
      obtain ⟨c0, c1, c2, c3, c4, c5, c6, eL⟩ := seven (thru_len [f 0, f 1, f 2, f 3, f 4, f 5, f 6])
      rw [eL] at ih ⊢
      have z := poly7 c0 c1 c2 c3 c4 c5 c6 (((n + 1 : Nat) : Int) : Rat)
      have cs : ∀ k : Nat, ((((n + 1 : Nat) : Int) : Rat)) + (k : Rat) = (((n + k + 1 : Nat) : Int) : Rat) := fun k => by
        rw [show ((n + k + 1 : Nat) : Int) = ((n + 1 : Nat) : Int) + (k : Int) by omega, Rat.intCast_add]
        rfl
      have c7 := cs 7
      have c6' := cs 6
      have c5' := cs 5
      have c4' := cs 4
      have c3' := cs 3
      have c2' := cs 2
      have c1' := cs 1
      simp only [Rat.natCast_ofNat] at c7 c6' c5' c4' c3' c2' c1'
      have c1'' : ((((n + 1 : Nat) : Int) : Rat)) + 1 = (((n + 1 + 1 : Nat) : Int) : Rat) := cs 1
      rw [c7, c6', c5', c4', c3', c2', c1'', ih (n + 6) (by omega) (by omega), ih (n + 5) (by omega) (by omega), ih (n + 4) (by omega) (by omega), ih (n + 3) (by omega) (by omega), ih (n + 2) (by omega) (by omega), ih (n + 1) (by omega) (by omega), ih n (by omega) (by omega)] at z
      rw [z, h n]
      simp only [Rat.intCast_add, Rat.intCast_sub, Rat.intCast_mul, Rat.intCast_ofNat]
/-! the steps of terms are polynomials -/
theorem stp_rec5 {ts : List (Int × Nat × Nat)} (ok : (R.trm ts).ok) (b : Bool) : ∃ g : Int → Int, rec5 g ∧ ∀ h : Nat, stp (.trm ts) b h = g h := by
  obtain ⟨_, ok⟩ := ok
  cases b with
  | true =>
    refine ⟨fun x => (ts.map fun t => (t.1 * (x + 0) ^ t.2.2)).sum, rec5_sum ts fun t ht => rec5_pow t.1 0 t.2.2 (ok t ht).2.2.2, fun h => ?_⟩
    show (ts.map fun t => t.1 * (1 : Int) ^ t.2.1 * (h : Int) ^ t.2.2).sum = _
    simp only [Int.one_pow, Int.mul_one, Int.add_zero]
  | false =>
    refine ⟨fun x => (ts.map fun t => (t.1 * (x + 0) ^ t.2.1)).sum, rec5_sum ts fun t ht => rec5_pow t.1 0 t.2.1 (ok t ht).2.2.1, fun h => ?_⟩
    show (ts.map fun t => t.1 * (h : Int) ^ t.2.1 * (1 : Int) ^ t.2.2).sum = _
    simp only [Int.one_pow, Int.mul_one, Int.add_zero]
theorem linS_rec7 {ts : List (Int × Nat × Nat)} (ok : (R.trm ts).ok) (b : Bool) (n : Nat) : linS (.trm ts) b (n + 7) = 7 * linS (.trm ts) b (n + 6) - 21 * linS (.trm ts) b (n + 5) + 35 * linS (.trm ts) b (n + 4) - 35 * linS (.trm ts) b (n + 3) + 21 * linS (.trm ts) b (n + 2) - 7 * linS (.trm ts) b (n + 1) + linS (.trm ts) b n := by
  obtain ⟨g, hg, eg⟩ := stp_rec5 ok b
  have s : ∀ k, linS (.trm ts) b (k + 1) = linS (.trm ts) b k + g ((k : Int) + 1) := fun k => by
    show _ + stp (.trm ts) b (k + 1) = _
    rw [eg]
    rfl
  have r1 := hg ((n : Int) + 1)
  have r2 := hg ((n : Int) + 2)
  have s0 := s n
  have s1 := s (n + 1)
  have s2 := s (n + 2)
  have s3 := s (n + 3)
  have s4 := s (n + 4)
  have s5 := s (n + 5)
  have s6 := s (n + 6)
  rw [show ((n + 1 : Nat) : Int) + 1 = (n : Int) + 2 by omega] at s1
  rw [show ((n + 2 : Nat) : Int) + 1 = (n : Int) + 3 by omega] at s2
  rw [show ((n + 3 : Nat) : Int) + 1 = (n : Int) + 4 by omega] at s3
  rw [show ((n + 4 : Nat) : Int) + 1 = (n : Int) + 5 by omega] at s4
  rw [show ((n + 5 : Nat) : Int) + 1 = (n : Int) + 6 by omega] at s5
  rw [show ((n + 6 : Nat) : Int) + 1 = (n : Int) + 7 by omega] at s6
  rw [show (n : Int) + 1 + 5 = (n : Int) + 6 by omega, show (n : Int) + 1 + 4 = (n : Int) + 5 by omega, show (n : Int) + 1 + 3 = (n : Int) + 4 by omega, show (n : Int) + 1 + 2 = (n : Int) + 3 by omega, show (n : Int) + 1 + 1 = (n : Int) + 2 by omega] at r1
  rw [show (n : Int) + 2 + 5 = (n : Int) + 7 by omega, show (n : Int) + 2 + 4 = (n : Int) + 6 by omega, show (n : Int) + 2 + 3 = (n : Int) + 5 by omega, show (n : Int) + 2 + 2 = (n : Int) + 4 by omega, show (n : Int) + 2 + 1 = (n : Int) + 3 by omega] at r2
  generalize linS (.trm ts) b (n + 7) = L7 at *
  generalize linS (.trm ts) b (n + 6) = L6 at *
  generalize linS (.trm ts) b (n + 5) = L5 at *
  generalize linS (.trm ts) b (n + 4) = L4 at *
  generalize linS (.trm ts) b (n + 3) = L3 at *
  generalize linS (.trm ts) b (n + 2) = L2 at *
  generalize linS (.trm ts) b (n + 1) = L1 at *
  generalize linS (.trm ts) b n = L0 at *
  generalize g ((n : Int) + 1) = G1 at *
  generalize g ((n : Int) + 2) = G2 at *
  generalize g ((n : Int) + 3) = G3 at *
  generalize g ((n : Int) + 4) = G4 at *
  generalize g ((n : Int) + 5) = G5 at *
  generalize g ((n : Int) + 6) = G6 at *
  generalize g ((n : Int) + 7) = G7 at *
  omega
def lineR (r : R) (b : Bool) : List Rat := thru (sumsL r b 7)
theorem line_val {ts : List (Int × Nat × Nat)} (ok : (R.trm ts).ok) (b : Bool) (n : Nat) : evalR (lineR (.trm ts) b) (((n + 1 : Nat) : Int) : Rat) = (linS (.trm ts) b n : Rat) := thru_all (linS_rec7 ok b) n n (Nat.le_refl n) (by omega)
theorem sum_sm : ∀ (xs : List Int) {B : Nat}, (∀ x ∈ xs, x.natAbs ≤ B) → xs.sum.natAbs ≤ xs.length * B
  | [], B, _ => by simp
  | x :: xs, B, h => by
    have h1 := h x (List.mem_cons_self ..)
    have h2 := sum_sm xs (B := B) fun y hy => h y (List.mem_cons_of_mem _ hy)
    rw [List.sum_cons, List.length_cons, Nat.succ_mul]
    refine Nat.le_trans (Int.natAbs_add_le _ _) ?_
    omega
theorem stp_sm {ts : List (Int × Nat × Nat)} (ok : (R.trm ts).ok) (b : Bool) {h : Nat} (hh : h ≤ 6) : (stp (.trm ts) b h).natAbs ≤ 2 ^ 36 := by
  obtain ⟨h6, ok⟩ := ok
  have pw : ∀ k, k ≤ 4 → h ^ k ≤ 1296 := fun k hk => Nat.le_trans (Nat.pow_le_pow_left hh k) (Nat.le_trans (Nat.pow_le_pow_right (by decide) hk) (by decide))
  have key : ∀ t ∈ ts, ∀ k, k ≤ 4 → (t.1 * (h : Int) ^ k).natAbs ≤ 1296000000 := fun t ht k hk => by
    rw [Int.natAbs_mul, Int.natAbs_pow, Int.natAbs_natCast]
    have o := ok t ht
    have : t.1.natAbs ≤ 1000000 := by omega
    exact Nat.le_trans (Nat.mul_le_mul this (pw k hk)) (by decide)
  have fin : ∀ F : Int × Nat × Nat → Int, (∀ t ∈ ts, (F t).natAbs ≤ 1296000000) → ((ts.map F).sum).natAbs ≤ 2 ^ 36 := fun F hF => by
    refine Nat.le_trans (sum_sm (ts.map F) (B := 1296000000) fun x hx => ?_) ?_
    · obtain ⟨t, ht, rfl⟩ := List.mem_map.mp hx
      exact hF t ht
    · rw [List.length_map]
      exact Nat.le_trans (Nat.mul_le_mul_right _ h6) (by decide)
  cases b with
  | true =>
    show ((ts.map fun t : Int × Nat × Nat => t.1 * (1 : Int) ^ t.2.1 * (h : Int) ^ t.2.2).sum).natAbs ≤ _
    simp only [Int.one_pow, Int.mul_one]
    exact fin _ fun t ht => key t ht _ (ok t ht).2.2.2
  | false =>
    show ((ts.map fun t : Int × Nat × Nat => t.1 * (h : Int) ^ t.2.1 * (1 : Int) ^ t.2.2).sum).natAbs ≤ _
    simp only [Int.one_pow, Int.mul_one]
    exact fin _ fun t ht => key t ht _ (ok t ht).2.2.1
theorem linS_sm {ts : List (Int × Nat × Nat)} (ok : (R.trm ts).ok) (b : Bool) : ∀ k, k ≤ 6 → (linS (.trm ts) b k).natAbs ≤ k * 2 ^ 36
  | 0, _ => by
    show (0 : Int).natAbs ≤ _
    omega
  | k + 1, h => by
    have i1 := linS_sm ok b k (by omega)
    have i2 := stp_sm ok b (h := k + 1) h
    show (linS (.trm ts) b k + stp (.trm ts) b (k + 1)).natAbs ≤ _
    omega
theorem sumsL_sm {ts : List (Int × Nat × Nat)} (ok : (R.trm ts).ok) (b : Bool) : ∀ n ∈ sumsL (.trm ts) b 7, n.natAbs ≤ 2 ^ 60 := by
  intro n hn
  unfold sumsL at hn
  obtain ⟨k, hk, rfl⟩ := List.mem_map.mp hn
  have := linS_sm ok b k (by have := List.mem_range.mp hk; omega)
  have hk' := List.mem_range.mp hk
  have : k * 2 ^ 36 ≤ 6 * 2 ^ 36 := Nat.mul_le_mul_right _ (by omega)
  have e : 6 * 2 ^ 36 ≤ 2 ^ 60 := by decide
  omega
theorem line_bd {ts : List (Int × Nat × Nat)} (ok : (R.trm ts).ok) (b : Bool) : ∀ q ∈ lineR (.trm ts) b, bdR 9000 70 q := fun q hq =>
  ((thS_inv (ns := sumsL (.trm ts) b 7) (by unfold sumsL; rw [List.length_map, List.length_range]) (sumsL_sm ok b) 7 (Nat.le_refl 7)).fb q hq).mono (fk_le 7 (by decide)) (by decide)
/-! ### line_of, one_by_one -/
def sp_line_of (Γ : Gm) : Sp := fun vs H Q _ => ∃ v ts b, vs = [v, .bl b] ∧ RuleAt Γ H v (.trm ts) ∧ ∀ l H', Same H H' → H l = none → RL H' l (lineR (.trm ts) b) → Q (.ref l) H'
/-- line_of: rule, is_first -/
def t_line_of (Γ : Gm) : TS := (tRet (tCal (sp_through Γ) E0 (tCons (tCal (sp_sums_to Γ) E0 (tCons (tVar 0) (tCons (tOp (rAddU Γ.K) (tC (.int 4)) (tC (.int 3))) (tCons (tVar 1) tNil)))) tNil)))
theorem rd_line_of (Γ : Gm) (vs : List V) (H : Hp) (Q : VK) (E : XK) (h : sp_line_of Γ vs H Q E) : t_line_of Γ ⟨fun _ H' => Q .non H', Q, fun _ _ => False, fun _ _ => False⟩ (startN 2 vs) H := by
  obtain ⟨v, ts, b, rfl, hr, k⟩ := h
  have ok := hr.ok
  unfold t_line_of
  walk_at "ss"
  refine ⟨v, .trm ts, b, 7, rfl, hr, by decide, by decide, (by decide : ((7 : Nat) : Int) ≤ 1000000000000000000000000000000), fun l H1 e1 f1 g1 => ?_⟩
  walk_at "ss"
  refine ⟨l, sumsL (.trm ts) b 7, rfl, g1, by unfold sumsL; rw [List.length_map, List.length_range], sumsL_sm ok b, fun l2 H2 e2 f2 R2 => ?_⟩
  exact k l2 H2 (e1.trans e2) (e1.free f2) R2
def sp_one_by_one (Γ : Gm) : Sp := fun vs H Q _ => ∃ v r b, ∃ n : Nat, vs = [v, .int n, .bl b] ∧ RuleAt Γ H v r ∧ 1 ≤ n ∧ (n : Int) ≤ r.top ∧ ∀ H', Same H H' → Q (.int (linS r b (n - 1))) H'
/-- one_by_one: rule, heap, is_first -/
def t_one_by_one (Γ : Gm) : TS := (tSeq (tIfS (tTest (tOp (rEqU Γ.K) (tFld Γ.K (tVar 0) "form") (tC (.str "table")))) (tRet (tOp (rIx Γ.K) (tCal (sp_sums_to Γ) E0 (tCons (tVar 0) (tCons (tVar 1) (tCons (tVar 2) tNil)))) (tUn (rU fun i => .int (-i)) (tC (.int 1))))) tNext)
  (tRet (tOp (rIx Γ.K) (tCal (sp_value_at Γ) E0 (tCons (tCal (sp_line_of Γ) E0 (tCons (tVar 0) (tCons (tVar 2) tNil))) (tCons (tVar 1) tNil))) (tC (.int 0)))))
theorem rd_one_by_one (Γ : Gm) (F : RuleF Γ) (vs : List V) (H : Hp) (Q : VK) (E : XK) (h : sp_one_by_one Γ vs H Q E) : t_one_by_one Γ ⟨fun _ H' => Q .non H', Q, fun _ _ => False, fun _ _ => False⟩ (startN 3 vs) H := by
  obtain ⟨v, r, b, n, rfl, hr, h1, ht, k⟩ := h
  have ok := hr.ok
  unfold t_one_by_one
  walk_at "ss"
  refine w_form F hr ?_
  walk_at "ss"
  rw [kind_tab]
  cases r with
  | tab rows =>
    refine w_iteT ?_
    walk_at "ss"
    have hn : (n : Int) ≤ 40 := by
      obtain ⟨_, h2, _⟩ := ok
      have : (n : Int) ≤ (rows.length : Int) + 1 := ht
      omega
    refine ⟨v, _, b, n, rfl, hr, h1, by omega, ht, fun l H1 e1 f1 g1 => ?_⟩
    walk_at "ss"
    have sl : (sumsL (.tab rows) b n).length = n := by unfold sumsL; rw [List.length_map, List.length_range]
    refine w_ixL (SqL.of g1) (atI_last (x := .int (linS (.tab rows) b (n - 1))) (by rw [List.length_map, sl, List.getElem?_map]; unfold sumsL; rw [List.getElem?_map, List.getElem?_range (by omega)]; rfl) (by rw [List.length_map, sl]; omega)) ?_
    exact k H1 e1
  | trm ts =>
    refine w_iteF ?_
    walk_at "ss"
    refine ⟨v, ts, b, rfl, hr, fun l H1 e1 f1 R1 => ?_⟩
    walk_at "ss"
    have hn : (n : Int) ≤ 1000000000000000000000000000000 := ht
    refine ⟨l, n, lineR (.trm ts) b, rfl, R1, by show (thru _).length ≤ 10; rw [thru_len]; decide, ?_, line_bd ok b, fun z H2 e2 tz => ?_⟩
    · rw [Int.natAbs_natCast]
      have : n ≤ 1000000000000000000000000000000 := by omega
      exact Nat.le_trans this (by decide)
    obtain ⟨m, rfl⟩ : ∃ m, n = m + 1 := ⟨n - 1, by omega⟩
    rw [line_val ok b m] at tz
    obtain ⟨p, rfl, gp⟩ := fr_inv tz
    walk_at "ss"
    refine w_ixT (SqT.of gp) (atI0 _ _) ?_
    exact k H2 (e1.trans e2)

/-! ### formulas -/
/-- a row of numbers less the noughts at its end -/
structure Trim (L R : List Rat) : Prop where
  ex : ∃ k, L = R ++ List.replicate k 0
  ne : ∀ R' q, R = R' ++ [q] → q ≠ 0
theorem evalR_app (x : Rat) : ∀ (A B : List Rat), evalR (A ++ B) x = evalR A x + x ^ A.length * evalR B x
  | [], B => by
    show evalR B x = 0 + x ^ 0 * evalR B x
    grind
  | a :: A, B => by
    show a + x * evalR (A ++ B) x = (a + x * evalR A x) + x ^ (A.length + 1) * evalR B x
    rw [evalR_app x A B, Rat.pow_succ]
    grind
theorem Trim.eval {L R : List Rat} (t : Trim L R) (x : Rat) : evalR R x = evalR L x := by
  obtain ⟨k, rfl⟩ := t.ex
  rw [evalR_app, eval_zeros]
  grind
theorem ratD_zero {q : Rat} : ratD q = frD 0 1 ↔ q = 0 := by
  refine ⟨fun h => ?_, fun h => by rw [h]; rfl⟩
  unfold ratD frD at h
  injection h with h
  injection h with h1 _
  injection h1 with h1
  exact Rat.num_eq_zero.mp h1
theorem cutV_last (xs : List V) : cutV xs none (some (-1)) = xs.dropLast := by
  unfold cutV HT.sIx
  simp only [Nat.sub_zero, List.drop_zero]
  rw [if_pos (by decide), List.dropLast_eq_take]
  congr 1
  omega
/-! sure terms have no seventh number -/
theorem six_diff (c0 c1 c2 c3 c4 c5 c6 : Rat) : evalR [c0, c1, c2, c3, c4, c5, c6] 7 - 6 * evalR [c0, c1, c2, c3, c4, c5, c6] 6 + 15 * evalR [c0, c1, c2, c3, c4, c5, c6] 5 - 20 * evalR [c0, c1, c2, c3, c4, c5, c6] 4 + 15 * evalR [c0, c1, c2, c3, c4, c5, c6] 3 - 6 * evalR [c0, c1, c2, c3, c4, c5, c6] 2 + evalR [c0, c1, c2, c3, c4, c5, c6] 1 = 720 * c6 := by
  simp only [evalR]
  grind
theorem linS_rec6 {ts : List (Int × Nat × Nat)} (ok : (R.trm ts).ok) (b : Bool) : linS (.trm ts) b 6 - 6 * linS (.trm ts) b 5 + 15 * linS (.trm ts) b 4 - 20 * linS (.trm ts) b 3 + 15 * linS (.trm ts) b 2 - 6 * linS (.trm ts) b 1 + linS (.trm ts) b 0 = 0 := by
  obtain ⟨g, hg, hs⟩ := stp_rec5 ok b
  have e : ∀ n : Nat, linS (.trm ts) b (n + 1) = linS (.trm ts) b n + g ((n + 1 : Nat) : Int) := fun n => by rw [← hs]; rfl
  have e0 : linS (.trm ts) b 1 = linS (.trm ts) b 0 + g 1 := e 0
  have e1 : linS (.trm ts) b 2 = linS (.trm ts) b 1 + g 2 := e 1
  have e2 : linS (.trm ts) b 3 = linS (.trm ts) b 2 + g 3 := e 2
  have e3 : linS (.trm ts) b 4 = linS (.trm ts) b 3 + g 4 := e 3
  have e4 : linS (.trm ts) b 5 = linS (.trm ts) b 4 + g 5 := e 4
  have e5 : linS (.trm ts) b 6 = linS (.trm ts) b 5 + g 6 := e 5
  have r1 : g 6 = 5 * g 5 - 10 * g 4 + 10 * g 3 - 5 * g 2 + g 1 := hg 1
  omega
theorem line_six {ts : List (Int × Nat × Nat)} (ok : (R.trm ts).ok) (b : Bool) : ∃ L6, lineR (.trm ts) b = L6 ++ [0] ∧ L6.length = 6 := by
  have hl : (lineR (.trm ts) b).length = 7 := thru_len _
  obtain ⟨c0, c1, c2, c3, c4, c5, c6, e⟩ := seven hl
  have v := fun n => line_val ok b n
  rw [e] at v
  have h := six_diff c0 c1 c2 c3 c4 c5 c6
  have v0 : evalR [c0, c1, c2, c3, c4, c5, c6] 1 = _ := v 0
  have v1 : evalR [c0, c1, c2, c3, c4, c5, c6] 2 = _ := v 1
  have v2 : evalR [c0, c1, c2, c3, c4, c5, c6] 3 = _ := v 2
  have v3 : evalR [c0, c1, c2, c3, c4, c5, c6] 4 = _ := v 3
  have v4 : evalR [c0, c1, c2, c3, c4, c5, c6] 5 = _ := v 4
  have v5 : evalR [c0, c1, c2, c3, c4, c5, c6] 6 = _ := v 5
  have v6 : evalR [c0, c1, c2, c3, c4, c5, c6] 7 = _ := v 6
  have lr := congrArg (fun z : Int => (z : Rat)) (linS_rec6 ok b)
  simp only [Rat.intCast_add, Rat.intCast_sub, Rat.intCast_mul, Rat.intCast_ofNat] at lr
  rw [v0, v1, v2, v3, v4, v5, v6] at h
  have z : (720 : Rat) * c6 = 0 := by
    rw [← h]
    exact lr
  have z6 : c6 = 0 := by grind
  exact ⟨[c0, c1, c2, c3, c4, c5], by rw [e, z6]; rfl, rfl⟩
theorem trm_sm {ts : List (Int × Nat × Nat)} (ok : (R.trm ts).ok) {a b : Int} {m : Nat} (ha : a.natAbs ≤ 2 ^ m) (hb : b.natAbs ≤ 2 ^ m) : ((R.trm ts).pts a b).natAbs ≤ 2 ^ (20 + 4 * m + 4 * m + 3) := by
  obtain ⟨h6, hb6⟩ := ok
  have pw : ∀ {x : Int} {k : Nat}, x.natAbs ≤ 2 ^ m → k ≤ 4 → (x ^ k).natAbs ≤ 2 ^ (4 * m) := fun {x k} hx hk => by
    rw [Int.natAbs_pow]
    refine Nat.le_trans (Nat.pow_le_pow_left hx k) ?_
    rw [← Nat.pow_mul, Nat.mul_comm 4 m]
    exact Nat.pow_le_pow_right (by decide) (Nat.mul_le_mul_left m hk)
  show (ts.map fun t : Int × Nat × Nat => t.1 * a ^ t.2.1 * b ^ t.2.2).sum.natAbs ≤ _
  have key : ∀ x ∈ ts.map (fun t : Int × Nat × Nat => t.1 * a ^ t.2.1 * b ^ t.2.2), x.natAbs ≤ 2 ^ (20 + 4 * m + 4 * m) := fun x hx => by
    obtain ⟨t, ht, rfl⟩ := List.mem_map.mp hx
    obtain ⟨t1, t2, t3, t4⟩ := hb6 t ht
    exact mul_nat (mul_nat (m := 20) (by omega) (pw ha t3)) (pw hb t4)
  refine Nat.le_trans (sum_sm _ key) ?_
  rw [List.length_map, Nat.pow_add 2 (20 + 4 * m + 4 * m) 3, Nat.mul_comm]
  exact Nat.mul_le_mul_left _ (Nat.le_trans h6 (by decide))
/-! ### the reading -/
structure FormK (Γ : Gm) (r : R) (H : Hp) (Q : VK) (E : XK) : Prop where
  tab : (∃ rows, r = .tab rows) → E (.ref Γ.cNoTerms) none H
  non : ∀ ts, r = .trm ts → r.clash ≠ none → ∀ H', Same H H' → Q .non H'
  row : ∀ ts, r = .trm ts → r.clash = none → ∀ p xs R H', Same H H' → H' p = some (.tup xs) → TpAll H' xs (R.map ratD) → Trim (lineR r false) R → Q (.ref p) H'
def sp_formula (Γ : Gm) : Sp := fun vs H Q E => ∃ v r, vs = [v] ∧ RuleAt Γ H v r ∧ FormK Γ r H Q E
/-- formula: rule, row -/
def t_formula (Γ : Gm) (E : XK) : TS := (tSeq (tIfS (tTest (tOp (rNeU Γ.K) (tFld Γ.K (tVar 0) "form") (tC (.str "terms")))) (tRaise Γ.cNoTerms (fun cls d _ H => E cls d H)) tNext)
  (tSeq (tIfS (tTest (tOp rNotIsU (tCal (sp_clash Γ) E0 (tCons (tVar 0) tNil)) (tC .non))) (tRet (tC .non)) tNext)
  (tSeq (tAsg (tCal (sp_line_of Γ) E0 (tCons (tVar 0) (tCons (tC (.bl false)) tNil))) (gName 1))
  (tSeq (tWhile (tAnd (tTest (tOp rGt (tCB (rLen Γ.K) (tCons (tVar 1) tNil)) (tC (.int 0)))) (tTest (tOp (rEqU Γ.K) (tOp (rIx Γ.K) (tVar 1) (tUn (rU fun i => .int (-i)) (tC (.int 1)))) (tTup (tCons (tC (.int 0)) (tCons (tC (.int 1)) tNil)))))) (tAsg (tSl (rSlU Γ.K) (tVar 1) tNoPart (tPart (tUn (rU fun i => .int (-i)) (tC (.int 1))))) (gName 1)))
  (tRet (tCB (rTupOf Γ.K) (tCons (tVar 1) tNil)))))))
theorem rd_formula (Γ : Gm) (F : RuleF Γ) (vs : List V) (H : Hp) (Q : VK) (E : XK) (h : sp_formula Γ vs H Q E) : t_formula Γ E ⟨fun _ H' => Q .non H', Q, fun _ _ => False, fun _ _ => False⟩ (startN 2 vs) H := by
  obtain ⟨v, r, rfl, hr, k⟩ := h
  unfold t_formula
  walk_at "ss"
  refine w_form F hr ?_
  walk_at "ss"
  rw [kind_trm]
  cases r with
  | tab rows =>
    refine w_ifY rfl ?_
    walk_at "ss"
    exact k.tab ⟨rows, rfl⟩
  | trm ts =>
    refine w_ifN rfl ?_
    walk_at "ss"
    refine ⟨v, .trm ts, rfl, hr, fun x H1 e1 tx => ?_⟩
    walk_at "ss"
    rw [clash_isN tx]
    cases hc : (R.trm ts).clash with
    | some t =>
      refine w_ifY rfl ?_
      walk_at "ss"
      exact k.non ts rfl (by rw [hc]; exact fun z => nomatch z) H1 e1
    | none =>
      refine w_ifN rfl ?_
      walk_at "ss"
      refine ⟨v, ts, false, rfl, hr.mono e1, fun l H2 e2 f2 RL2 => ?_⟩
      walk_at "ss"
      have l7 : (lineR (.trm ts) false).length = 7 := thru_len _
      refine k_while (fun m σ H' => ∃ l R, σ = [some v, some (.ref l)] ∧ Same H H' ∧ RL H' l R ∧ m = R.length ∧ ∃ k, lineR (.trm ts) false = R ++ List.replicate k 0) 7 ⟨l, _, rfl, e1.trans e2, RL2, l7.symm, 0, by rw [List.replicate_zero, List.append_nil]⟩ ?_
      rintro m σ H3 ⟨l, R, rfl, e3, ⟨xs, g3, t3⟩, rfl, kk, ek⟩
      have xl := t3.length
      rw [List.length_map] at xl
      walk_at "ss"
      refine w_lenL (SqL.of g3) ?_
      walk_at "ss"
      rw [xl]
      have done : (∀ R' q, R = R' ++ [q] → q ≠ 0) → ∀ H4, Same H3 H4 → (tRet (tCB (rTupOf Γ.K) (tCons (tVar 1) tNil))) ⟨fun _ H' => Q .non H', Q, fun _ _ => False, fun _ _ => False⟩ [some v, some (.ref l)] H4 := fun hne H4 e4 => by
        walk_at "ss"
        refine w_tupL (SqL.of (e4 _ _ g3)) fun p H5 f5 e5 g5 => ?_
        exact k.row ts rfl hc p xs R H5 (e3.trans (e4.trans e5)) g5 ((t3.mono e4.tups).mono e5.tups) ⟨⟨kk, ek⟩, hne⟩
      rcases List.eq_nil_or_concat R with rfl | ⟨R0, q, rfl⟩
      · refine w_ifN (decide_eq_false (by simp)) ?_
        refine w_ifN rfl ?_
        exact done (fun R' q h => by cases R' <;> cases h) H3 (Same.refl H3)
      · rw [List.concat_eq_append] at *
        have xl' : xs.length = R0.length + 1 := by rw [xl, List.length_append]; rfl
        refine w_ifY (decide_eq_true (by rw [List.length_append]; simp)) ?_
        obtain ⟨p, hp, gp⟩ := RL.get t3 (i := R0.length) (q := q) (by rw [List.getElem?_append_right (Nat.le_refl _), Nat.sub_self]; rfl)
        walk_at "ss"
        refine w_ixL (SqL.of g3) (atI_last (by rw [xl']; exact hp) (by omega)) ?_
        walk_at "ss"
        refine n_tup fun p4 H4 f4 e4 g4 => ?_
        have dec : Decidable (ratD q = frD 0 1) := Classical.propDecidable _
        refine w_eqD (dec := dec) (fr_mk (e4 _ _ gp)).dv (fr_mk g4).dv rfl rfl rfl rfl ?_
        walk_at "ss"
        by_cases hq : q = 0
        · refine w_ifY (decide_eq_true (ratD_zero.mpr hq)) ?_
          refine whK.mk ?_
          walk_at "ss"
          refine w_slL (e4 _ _ g3) fun p5 H5 f5 e5 g5 => ?_
          walk_at "ss"
          rw [cutV_last] at g5
          refine ⟨R0.length, by rw [List.length_append]; exact Nat.lt_succ_self _, p5, R0, rfl, e3.trans (e4.trans e5), ⟨_, g5, ?_⟩, rfl, kk + 1, ?_⟩
          · have := ((t3.mono e4.tups).mono e5.tups).take R0.length
            rw [List.map_append, List.take_left' (by rw [List.length_map])] at this
            rw [List.dropLast_eq_take, xl']
            exact this
          · rw [ek, hq, List.replicate_succ, List.append_assoc]
            rfl
        · refine w_ifN (decide_eq_false fun z => hq (ratD_zero.mp z)) ?_
          exact done (fun R' q' h => by
            obtain ⟨_, h2⟩ := List.append_inj' h rfl
            cases h2
            exact hq) H4 e4

/-! ### sure_sum, where nothing is unsure -/
theorem no_and {c d : TT} {σ : St} {H : Hp} {QB : Bool → Hp → Prop} (P : Hp → Prop) (h : ∀ QB' : Bool → Hp → Prop, (∀ H', P H' → QB' false H') → tAnd c d σ H QB') (k : ∀ H', P H' → QB false H') : tAnd c d σ H QB := h QB k
def t3n (t : T3) : Nat := t.1 + t.2.1 + t.2.2
theorem clash_ix {H : Hp} {x : V} {t : T3} (h : Tp H x (clashD (some t))) : ∃ p, x = .ref p ∧ H p = some (.tup [.int (t3n t : Nat), .int (t.1 : Nat), .int (t.2.1 : Nat), .int (t.2.2 : Nat)]) := by
  obtain ⟨p, xs, rfl, hp, tp⟩ := Tp.inv (ds := [.int (t3n t : Nat), .int (t.1 : Nat), .int (t.2.1 : Nat), .int (t.2.2 : Nat)]) h
  have e := TpAll.ints (ns := [((t3n t : Nat) : Int), (t.1 : Nat), (t.2.1 : Nat), (t.2.2 : Nat)]) tp
  subst e
  exact ⟨p, rfl, hp⟩
def sp_sure_sum (Γ : Gm) : Sp := fun vs H Q _ => ∃ v r, ∃ n : Nat, vs = [v, .int n] ∧ RuleAt Γ H v r ∧ 1 ≤ n ∧ (n : Int) ≤ r.top ∧ (∀ t, r.clash = some t → n < t3n t) ∧ ∀ H', Same H H' → Q (.int (linS r false (n - 1))) H'
/-- sure_sum: rule, heap, told -/
def t_sure_sum (Γ : Gm) (E : XK) : TS := (tSeq (tDrop (tCal (sp_check_heap Γ) E (tCons (tVar 0) (tCons (tVar 1) (tCons (tC (.int 1000000000000000000000000000000)) tNil)))))
  (tSeq (tAsg (tCal (sp_clash Γ) E0 (tCons (tVar 0) tNil)) (gName 2))
  (tSeq (tIfS (tAnd (tTest (tOp rNotIsU (tVar 2) (tC .non))) (tTest (tOp rLe (tOp (rIx Γ.K) (tVar 2) (tC (.int 0))) (tVar 1)))) tNever tNext)
  (tRet (tCal (sp_one_by_one Γ) E0 (tCons (tVar 0) (tCons (tVar 1) (tCons (tC (.bl false)) tNil))))))))
theorem rd_sure_sum (Γ : Gm) (vs : List V) (H : Hp) (Q : VK) (E : XK) (h : sp_sure_sum Γ vs H Q E) : t_sure_sum Γ E ⟨fun _ H' => Q .non H', Q, fun _ _ => False, fun _ _ => False⟩ (startN 3 vs) H := by
  obtain ⟨v, r, n, rfl, hr, h1, ht, hs, k⟩ := h
  unfold t_sure_sum
  walk_at "ss"
  have ok := hr.ok
  have hok : heapOk r 1000000000000000000000000000000 (.int n) = true := by
    have htop : r.top ≤ 1000000000000000000000000000000 := by
      cases r with
      | tab rows =>
        obtain ⟨_, h2, _⟩ := ok
        show (rows.length : Int) + 1 ≤ _
        omega
      | trm ts => exact Int.le_refl _
    unfold heapOk
    refine inD_yes (by omega) ?_
    split <;> omega
  refine ⟨v, r, .int n, .int n, 1000000000000000000000000000000, rfl, hr, .int n, (fun z => by rw [hok] at z; cases z), fun _ => ?_⟩
  walk_at "ss"
  refine ⟨v, r, rfl, hr, fun x H1 e1 tx => ?_⟩
  refine w_gName ?_
  refine w_seq ?_
  refine w_ifS ?_
  refine no_and (P := fun H' => H' = H1) (fun QB' hq => ?_) (fun H2 e2 => ?_)
  · walk_at "ss"
    rw [clash_isN tx]
    cases hc : r.clash with
    | none =>
      refine w_ifN rfl ?_
      exact hq H1 rfl
    | some t =>
      refine w_ifY rfl ?_
      rw [hc] at tx
      obtain ⟨p, rfl, gp⟩ := clash_ix tx
      walk_at "ss"
      refine w_ixT (SqT.of gp) (atI0 _ _) ?_
      walk_at "ss"
      have := hs t hc
      rw [decide_eq_false (by omega)]
      exact hq H1 rfl
  subst e2
  refine w_ifN rfl ?_
  walk_at "ss"
  exact ⟨v, r, false, n, rfl, hr.mono e1, h1, ht, fun H' e => k H' (e1.trans e)⟩

/-! ### tables by told points of heaps -/
def sumsOk : PyData → Bool
  | .tuple ds => decide (1 ≤ ds.length ∧ ds.length < 40) && ds.all (inD (-100000) 100000)
  | _ => false
theorem sumsOk_inv {d : PyData} (h : sumsOk d = true) : ∃ ss : List Int, d = .tuple (ss.map PyData.int) ∧ 1 ≤ ss.length ∧ ss.length < 40 ∧ ∀ s ∈ ss, -100000 ≤ s ∧ s ≤ 100000 := by
  cases d with
  | tuple ds =>
    have h' : (decide (1 ≤ ds.length ∧ ds.length < 40) && ds.all (inD (-100000) 100000)) = true := h
    rw [Bool.and_eq_true, decide_eq_true_eq] at h'
    obtain ⟨⟨h1, h2⟩, h3⟩ := h'
    have key : ∀ ds : List PyData, ds.all (inD (-100000) 100000) = true → ∃ ss : List Int, ds = ss.map PyData.int ∧ ∀ s ∈ ss, -100000 ≤ s ∧ s ≤ 100000 := fun ds => by
      induction ds with
      | nil => exact fun _ => ⟨[], rfl, fun s hs => nomatch hs⟩
      | cons x ds ih =>
        intro h
        rw [List.all_cons, Bool.and_eq_true] at h
        obtain ⟨n, rfl, n1, n2⟩ := inD_int h.1
        obtain ⟨ss, rfl, hs⟩ := ih h.2
        refine ⟨n :: ss, rfl, fun s hs' => ?_⟩
        rcases List.mem_cons.mp hs' with e | e
        · rw [e]; exact ⟨n1, n2⟩
        · exact hs s e
    obtain ⟨ss, rfl, hs⟩ := key ds h3
    rw [List.length_map] at h1 h2
    exact ⟨ss, rfl, h1, h2, hs⟩
  | _ => cases h
theorem sumsOk_mk {ss : List Int} (h1 : 1 ≤ ss.length) (h2 : ss.length < 40) (h : ∀ s ∈ ss, -100000 ≤ s ∧ s ≤ 100000) : sumsOk (.tuple (ss.map PyData.int)) = true := by
  show (decide (1 ≤ (ss.map PyData.int).length ∧ (ss.map PyData.int).length < 40) && (ss.map PyData.int).all (inD (-100000) 100000)) = true
  rw [List.length_map, decide_eq_true ⟨h1, h2⟩, ints_all h]
  rfl
theorem ofI_inj {ss tt : List Int} (h : PyData.tuple (ss.map PyData.int) = .tuple (tt.map PyData.int)) : ss = tt := by
  injection h with h
  exact map_int_inj h
def sp_check_sums (Γ : Gm) : Sp := fun vs H Q E => ∃ v d, vs = [v] ∧ Dv H v d ∧ (sumsOk d = false → ∀ H', Same H H' → E (.ref Γ.cBadSums) none H') ∧ (sumsOk d = true → ∀ H', Same H H' → Q .non H')
/-- check_sums: sums, told -/
def t_check_sums (Γ : Gm) (E : XK) : TS := (tSeq (tIfS (tOr (tNot (tB (tCB (rIsi Γ.K) (tCons (tVar 0) (tCons (tC (.ty "tuple")) tNil))))) (tNot (tTest (tChain rLe rLt (tC (.int 1)) (tCB (rLen Γ.K) (tCons (tVar 0) tNil)) (tC (.int 40)))))) (tRaise Γ.cBadSums (fun cls d _ H => E cls d H)) tNext)
  (tIfS (tNot (tB (tCB (rAll Γ.K) (tCons (tLc (iSeq Γ.K (tVar 0)) (gName 1) tYes (tCal (sp_is_from Γ) E0 (tCons (tVar 1) (tCons (tOp rSubI (tC (.int 0)) (tC (.int 100000))) (tCons (tC (.int 100000)) tNil)))) [1]) tNil)))) (tRaise Γ.cBadSums (fun cls d _ H => E cls d H)) tNext))
theorem rd_check_sums (Γ : Gm) (vs : List V) (H : Hp) (Q : VK) (E : XK) (h : sp_check_sums Γ vs H Q E) : t_check_sums Γ E ⟨fun _ H' => Q .non H', Q, fun _ _ => False, fun _ _ => False⟩ (startN 2 vs) H := by
  obtain ⟨v, d, rfl, hd, k1, k2⟩ := h
  unfold t_check_sums
  walk_at "ss"
  refine w_isi hd.tag (by decide) ?_
  rw [hd.ty]
  walk_at "ss"
  refine w_ite (fun e => ?_) (fun e => ?_)
  · walk_at "ss"
    refine k1 ?_ H (Same.refl H)
    cases d with
    | tuple ds => exact absurd (show (!tyTab "tuple" "tuple") = true from e) (by decide)
    | _ => rfl
  obtain ⟨ds, rfl⟩ := tupTy (by simpa using e)
  obtain ⟨a, xs, rfl, hx, tx⟩ := hd.tupInv
  have hl := tx.length
  walk_at "ss"
  refine w_lenT (SqT.of hx) ?_
  walk_at "ss"
  rw [hl]
  have bad : ¬ (1 ≤ ds.length ∧ ds.length < 40) → sumsOk (.tuple ds) = false := fun n => by
    show (decide (1 ≤ ds.length ∧ ds.length < 40) && _) = false
    rw [decide_eq_false n]
    rfl
  refine w_ite (fun e1 => ?_) (fun e1 => ?_)
  rotate_left
  · walk_at "ss"
    refine k1 (bad ?_) H (Same.refl H)
    simp only [decide_eq_false_iff_not] at e1
    omega
  walk_at "ss"
  simp only [decide_eq_true_eq] at e1
  refine w_ite (fun e2 => ?_) (fun e2 => ?_)
  · walk_at "ss"
    refine k1 (bad ?_) H (Same.refl H)
    simp only [Bool.not_eq_true', decide_eq_false_iff_not] at e2
    omega
  simp only [Bool.not_eq_false', decide_eq_true_eq] at e2
  walk_at "ss"
  refine k_seqT (SqT.of hx) ?_
  refine k_lcTup (fun i acc H' => acc = ((ds.take i).map (inD (-100000) 100000)).map V.bl) (SqT.of hx) (fun _ _ => rfl) ?_ ?_
  · rintro j z D acc H2 hj hD e4 hacc rfl
    obtain ⟨dz, hdz, tdz⟩ := tx.get' hj
    walk_at "ss"
    refine ⟨rfl, ?_⟩
    walk_at "ss"
    refine ⟨z, _, _, rfl, (tdz.mono e4).tag, ?_⟩
    rw [tdz.inR]
    refine lcTurn.mk hD e4 hacc (by rw [List.length_map, List.length_map, List.length_take]; omega) ?_
    rw [all_take hdz, List.map_append]
    rfl
  · rintro D acc H2 hD e4 hacc rfl
    rw [hl, List.take_length] at hacc
    walk_at "ss"
    refine w_all (SqL.of hacc) ?_
    walk_at "ss"
    have ea : (ds.map (inD (-100000) 100000)).all id = ds.all (inD (-100000) 100000) := by rw [List.all_map]; rfl
    rw [ea]
    have es : sumsOk (.tuple ds) = ds.all (inD (-100000) 100000) := by
      show (decide (1 ≤ ds.length ∧ ds.length < 40) && _) = _
      rw [decide_eq_true (by omega)]
      rfl
    rw [← es]
    refine w_ite (fun e5 => ?_) (fun e5 => ?_)
    · walk_at "ss"
      exact k1 (by simpa using e5) H2 e4
    · walk_at "ss"
      exact k2 (by simpa using e5) H2 e4
theorem dvs_int {H : Hp} : ∀ {xs : List V} {ss : List Int}, DvAll H xs (ss.map PyData.int) → xs = ss.map V.int
  | [], [], _ => rfl
  | [], _ :: _, h => by cases h
  | _ :: _, [], h => by cases h
  | x :: xs, s :: ss, h => by
    rw [List.map_cons] at h
    cases h with
    | cons h1 h2 => rw [dv_int h1, dvs_int h2]; rfl
/-! the row of told points -/
def rowS (ss : List Int) : List Int := 0 :: 0 :: ss
def rowV (ss : List Int) (k : Nat) : Int := (rowS ss).getD k 0
def dueA (ss : List Int) (a b : Nat) : Int := rowV ss (a + b) - rowV ss a - rowV ss b
theorem row_ix {ss : List Int} {k : Nat} (h : k < ss.length + 2) {j : Int} (e : j = k) : atI ((rowS ss).map V.int) j = some (.int (rowV ss k)) := by
  subst e
  refine atI_of (by omega) ?_
  have hk : k < (rowS ss).length := h
  rw [Int.toNat_natCast, List.getElem?_map, List.getElem?_eq_getElem hk]
  unfold rowV
  rw [List.getD_eq_getElem?_getD, List.getElem?_eq_getElem hk]
  rfl
theorem rowD_sm {ss : List Int} (h : ∀ s ∈ ss, -100000 ≤ s ∧ s ≤ 100000) (k : Nat) : -100000 ≤ rowV ss k ∧ rowV ss k ≤ 100000 := by
  unfold rowV
  by_cases hk : k < (rowS ss).length
  · rw [List.getD_eq_getElem?_getD, List.getElem?_eq_getElem hk]
    have hm : (rowS ss)[k] ∈ rowS ss := List.getElem_mem hk
    show -100000 ≤ (rowS ss)[k] ∧ (rowS ss)[k] ≤ 100000
    rcases List.mem_cons.mp hm with e | hm
    · rw [e]; decide
    · rcases List.mem_cons.mp hm with e | hm
      · rw [e]; decide
      · exact h _ hm
  · rw [List.getD_eq_getElem?_getD, List.getElem?_eq_none (by omega)]
    exact (by decide)
theorem dueA_sm {ss : List Int} (h : ∀ s ∈ ss, -100000 ≤ s ∧ s ≤ 100000) (a b : Nat) : -1000000 ≤ dueA ss a b ∧ dueA ss a b ≤ 1000000 := by
  have h1 := rowD_sm h (a + b)
  have h2 := rowD_sm h a
  have h3 := rowD_sm h b
  unfold dueA
  omega
def sp_due_at (Γ : Gm) : Sp := fun vs H Q _ => ∃ (p : Addr) (ss : List Int) (a b : Nat), vs = [.ref p, .int a, .int b] ∧ H p = some (.tup ((rowS ss).map V.int)) ∧ a + b < ss.length + 2 ∧ Q (.int (dueA ss a b)) H
/-- due_at: row, first, second -/
def t_due_at (Γ : Gm) : TS := (tRet (tOp rSubI (tOp rSubI (tOp (rIx Γ.K) (tVar 0) (tOp (rAddU Γ.K) (tVar 1) (tVar 2))) (tOp (rIx Γ.K) (tVar 0) (tVar 1))) (tOp (rIx Γ.K) (tVar 0) (tVar 2))))
theorem rd_due_at (Γ : Gm) (vs : List V) (H : Hp) (Q : VK) (E : XK) (h : sp_due_at Γ vs H Q E) : t_due_at Γ ⟨fun _ H' => Q .non H', Q, fun _ _ => False, fun _ _ => False⟩ (startN 3 vs) H := by
  obtain ⟨p, ss, a, b, rfl, hp, hab, k⟩ := h
  unfold t_due_at
  walk_at "ss"
  refine w_ixT (SqT.of hp) (row_ix (k := a + b) hab (by omega)) ?_
  walk_at "ss"
  refine w_ixT (SqT.of hp) (row_ix (k := a) (by omega) rfl) ?_
  walk_at "ss"
  refine w_ixT (SqT.of hp) (row_ix (k := b) (by omega) rfl) ?_
  walk_at "ss"
  exact k
/-- the table's rows -/
def surI (ss : List Int) (i : Nat) : List Int := (List.range (ss.length - i)).map fun j => dueA ss (i + 1) (j + 1)
def surR (ss : List Int) : List (List Int) := (List.range ss.length).map (surI ss)
theorem surR_ok {ss : List Int} (h1 : 1 ≤ ss.length) (h2 : ss.length < 40) (h : ∀ s ∈ ss, -100000 ≤ s ∧ s ≤ 100000) : (R.tab (surR ss)).ok := by
  unfold surR
  refine ⟨by rw [List.length_map, List.length_range]; exact h1, by rw [List.length_map, List.length_range]; exact h2, fun i r hr => ?_⟩
  rw [List.getElem?_map] at hr
  obtain ⟨i', hi', rfl⟩ := Option.map_eq_some_iff.mp hr
  have hlt : i < ss.length := by
    have := (List.getElem?_eq_some_iff.mp hi').1
    rw [List.length_range] at this
    exact this
  rw [List.getElem?_range hlt] at hi'
  cases hi'
  refine ⟨by unfold surI; rw [List.length_map, List.length_range, List.length_map, List.length_range], fun n hn => ?_⟩
  unfold surI at hn
  obtain ⟨j, _, rfl⟩ := List.mem_map.mp hn
  exact dueA_sm h _ _
theorem surR_pts {ss : List Int} {a b : Nat} (ha : 1 ≤ a) (hb : 1 ≤ b) (hs : a + b ≤ ss.length + 1) : (R.tab (surR ss)).pts a b = dueA ss a b := by
  show ((surR ss).getD ((a : Int) - 1).toNat []).getD ((b : Int) - 1).toNat 0 = _
  rw [show ((a : Int) - 1).toNat = a - 1 by omega, show ((b : Int) - 1).toNat = b - 1 by omega]
  have e1 : (surR ss).getD (a - 1) [] = surI ss (a - 1) := by
    unfold surR
    rw [List.getD_eq_getElem?_getD, List.getElem?_map, List.getElem?_range (by omega)]
    rfl
  rw [e1]
  unfold surI
  rw [List.getD_eq_getElem?_getD, List.getElem?_map, List.getElem?_range (by omega)]
  show dueA ss (a - 1 + 1) (b - 1 + 1) = _
  rw [show a - 1 + 1 = a by omega, show b - 1 + 1 = b by omega]
theorem surR_clash {ss : List Int} : (R.tab (surR ss)).clash = none := by
  refine List.find?_eq_none.mpr fun t ht => ?_
  obtain ⟨t1, t2, t3, t4⟩ := mem_triN ht
  have hm : (R.tab (surR ss)).triM = (surR ss).length - 1 := rfl
  rw [hm] at t4
  have hl : (surR ss).length = ss.length := by unfold surR; rw [List.length_map, List.length_range]
  rw [hl] at t4
  have e : evenT (.tab (surR ss)) t.1 t.2.1 t.2.2 = true := by
    unfold evenT
    refine decide_eq_true ?_
    rw [surR_pts t1 t2 (by omega), surR_pts (by omega) t3 (by omega), surR_pts t2 t3 (by omega), surR_pts t1 (by omega) (by omega)]
    unfold dueA
    rw [Nat.add_assoc]
    omega
  rw [e]
  decide
theorem surR_lin {ss : List Int} : ∀ k : Nat, k ≤ ss.length → linS (.tab (surR ss)) false k = rowV ss (k + 1)
  | 0, _ => rfl
  | k + 1, h => by
    show linS (.tab (surR ss)) false k + (R.tab (surR ss)).pts ((k + 1 : Nat) : Int) 1 = _
    have e : (R.tab (surR ss)).pts ((k + 1 : Nat) : Int) ((1 : Nat) : Int) = dueA ss (k + 1) 1 := surR_pts (by omega) (by omega) (by omega)
    rw [surR_lin k (by omega), show (1 : Int) = ((1 : Nat) : Int) from rfl, e]
    unfold dueA
    have z : rowV ss 1 = 0 := rfl
    rw [z]
    omega
theorem w_mkRuleE {Γ : Gm} {H : Hp} {Q : VK} {E : XK} {v : V} (r : R) (hv : Tp H v r.body) (ok : r.ok) (k : ∀ p H', Same H H' → RuleAt Γ H' (.ref p) r → Q (.ref p) H') : kMak Γ.cRule (sp_RuleU_initU Γ) E [.str r.kind, v] H Q := by
  have hr := ruleOf_body ok
  intro x dx hx hdx ne
  have e1 : Same H (upd (upd H dx (.own x)) x (.ins Γ.cRule dx [])) := (Same.new hdx).mut hx
  refine ⟨x, dx, _, .str r.kind, v, r.body, rfl, upd_same, .str _, (hv.mono (Same.tups e1)).dv, ⟨(fun z => by rw [hr] at z; cases z), ?_⟩⟩
  intro r' s b hr' es ev _ _ _ H' keep h'
  cases es
  rw [hr] at hr'
  cases hr'
  subst ev
  have keep' : Same H H' := fun c o ho => keep c o (fun z => by rw [z, hx] at ho; cases ho) (e1 c o ho)
  exact ⟨rfl, k x H' keep' ⟨x, dx, b, rfl, h', hv.mono (Same.tups keep'), ok⟩⟩
def sp_sure_table (Γ : Gm) : Sp := fun vs H Q E => ∃ v d, vs = [v] ∧ Dv H v d ∧ (sumsOk d = false → ∀ H', Same H H' → E (.ref Γ.cBadSums) none H') ∧ ∀ ss, d = .tuple (ss.map PyData.int) → sumsOk d = true → ∀ p H', Same H H' → RuleAt Γ H' (.ref p) (.tab (surR ss)) → Q (.ref p) H'
/-- sure_table: sums, row, most, found, first, second -/
def t_sure_table (Γ : Gm) (E : XK) : TS := (tSeq (tDrop (tCal (sp_check_sums Γ) E (tCons (tVar 0) tNil)))
  (tSeq (tAsg (tTup (tCons (tTup (tCons (tC (.int 0)) (tCons (tC (.int 0)) (StX.tStar Γ.K (tVar 0) tNil)))) (tCons (tOp (rAddU Γ.K) (tCB (rLen Γ.K) (tCons (tVar 0) tNil)) (tC (.int 1))) tNil))) (gTup Γ.K 2 (gCons (gName 1) (gCons (gName 2) gNil))))
  (tSeq (tAsg (tLst tNil) (gName 3))
  (tSeq (tFor (iRng2 (tCons (tC (.int 1)) (tCons (tVar 2) tNil))) (gName 4) (tDrop (tBM Γ.K "list" rAppend (tVar 3) (tCons (tCB (rTupOf Γ.K) (tCons (tLc (iRng2 (tCons (tC (.int 1)) (tCons (tOp (rAddU Γ.K) (tOp rSubI (tVar 2) (tVar 4)) (tC (.int 1))) tNil))) (gName 5) tYes (tCal (sp_due_at Γ) E0 (tCons (tVar 1) (tCons (tVar 4) (tCons (tVar 5) tNil)))) [5]) tNil)) tNil))))
  (tRet (tMak Γ.cRule (sp_RuleU_initU Γ) E (tCons (tC (.str "table")) (tCons (tCB (rTupOf Γ.K) (tCons (tVar 3) tNil)) tNil))))))))
theorem rd_sure_table (Γ : Gm) (vs : List V) (H : Hp) (Q : VK) (E : XK) (h : sp_sure_table Γ vs H Q E) : t_sure_table Γ E ⟨fun _ H' => Q .non H', Q, fun _ _ => False, fun _ _ => False⟩ (startN 6 vs) H := by
  obtain ⟨v, d, rfl, hd, k1, k2⟩ := h
  unfold t_sure_table
  walk_at "ss"
  refine ⟨v, d, rfl, hd, k1, fun hok H1 e1 => ?_⟩
  obtain ⟨ss, rfl, s1, s2, s3⟩ := sumsOk_inv hok
  obtain ⟨a, xs, rfl, hx, tx⟩ := (hd.mono e1).tupInv
  have ex : xs = ss.map V.int := dvs_int tx
  subst ex
  walk_at "ss"
  refine ⟨a, _, rfl, .inl (SqT.of hx), ?_⟩
  walk_at "ss"
  rw [List.append_nil]
  refine n_tup (hz := by rw [List.length_cons, List.length_cons, List.length_map]; omega) fun t2 H2 f2 e2 g2 => ?_
  walk_at "ss"
  refine w_lenT (SqT.of (e2 _ _ hx)) ?_
  rw [List.length_map]
  walk_at "ss"
  refine n_tup fun t3 H3 f3 e3 g3 => ?_
  refine w_gTup (SqT.of g3) rfl ?_
  walk_at "ss"
  refine n_lst fun L H4 f4 e4 g4 => ?_
  walk_at "ss"
  refine k_rng2 (by omega) ?_
  rw [show ((ss.length : Int) + 1 - 1).toNat = ss.length by omega]
  have row4 : H4 t2 = some (.tup ((rowS ss).map V.int)) := (e3.trans e4) _ _ g2
  have e14 := e1.trans (e2.trans (e3.trans e4))
  have fL : H L = none := (e1.trans (e2.trans e3)).free f4
  refine k_range (fun i σ H' => ∃ x4 x5 rs, σ = [some (.ref a), some (.ref t2), some (.int ((ss.length : Int) + 1)), some (.ref L), x4, x5] ∧ Same H H' ∧ H' L = some (.lst rs) ∧ TpAll H' rs ((List.range i).map fun i => PyData.tuple ((surI ss i).map PyData.int)) ∧ H' t2 = some (.tup ((rowS ss).map V.int))) ⟨none, none, [], rfl, e14, g4, .nil, row4⟩ ?_ ?_
  · rintro i σ H5 hi ⟨x4, x5, rs, rfl, e5, g5, t5, r5⟩
    have rl := t5.length
    rw [List.length_map, List.length_range] at rl
    walk_at "ss"
    refine w_tyL g5 ?_
    walk_at "ss"
    refine k_rng2 (by omega) ?_
    rw [show ((ss.length : Int) + 1 - (1 + (i : Int)) + 1 - 1).toNat = ss.length - i by omega]
    refine k_lcRange (fun j acc _ => acc = ((List.range j).map fun j => V.int (dueA ss (i + 1) (j + 1)))) (fun _ _ => rfl) ?_ ?_
    · rintro j D acc H6 hj hD e6 hacc rfl
      walk_at "ss"
      refine ⟨rfl, ?_⟩
      walk_at "ss"
      refine ⟨t2, ss, i + 1, j + 1, ?_, e6 _ _ r5, by omega, ?_⟩
      · rw [show (1 : Int) + (i : Int) = ((i + 1 : Nat) : Int) by omega, show (1 : Int) + (j : Int) = ((j + 1 : Nat) : Int) by omega]
      refine lcTurn.mk hD e6 hacc (by rw [List.length_map, List.length_range]; omega) ?_
      rw [List.range_succ, List.map_append]
      rfl
    rintro D acc H6 hD e6 hacc rfl
    have hacc' : H6 D = some (.lst ((surI ss i).map V.int)) := by
      rw [hacc]
      unfold surI
      rw [List.map_map]
      rfl
    walk_at "ss"
    refine w_tupL (SqL.of hacc') fun t7 H7 f7 e7 g7 => ?_
    walk_at "ss"
    have g57 := (e6.trans e7) _ _ g5
    refine w_app g57 (by omega) ?_
    have uL : ∀ ys, Tups H7 (upd H7 L (.lst ys)) := fun ys => (Same.refl H7).tups.upd (fun xs z => by rw [g57] at z; cases z)
    refine ⟨_, _, rs ++ [V.ref t7], rfl, Same.mut (e5.trans (e6.trans e7)) fL, upd_same, ?_, uL _ _ _ ((e6.trans e7) _ _ r5)⟩
    rw [List.range_succ, List.map_append]
    exact ((t5.mono (e6.trans e7).tups).mono (uL _)).append (.cons ((Tp.tup g7 (TpAll.of_ints _ _)).mono (uL _)) .nil)
  · rintro σ H5 ⟨x4, x5, rs, rfl, e5, g5, t5, r5⟩
    walk_at "ss"
    refine w_tupL (SqL.of g5) fun t6 H6 f6 e6 g6 => ?_
    walk_at "ss"
    refine w_mkRuleE (R.tab (surR ss)) ?_ (surR_ok s1 s2 s3) fun p H7 e7 hr => ?_
    · show Tp H6 (.ref t6) (.tuple ((surR ss).map fun r => .tuple (r.map PyData.int)))
      unfold surR
      rw [List.map_map]
      exact .tup g6 (t5.mono e6.tups)
    · exact k2 ss rfl hok p H7 (e5.trans (e6.trans e7)) hr
/-! ### the places that are not as told -/
def inn (P : Nat → Nat → Bool) (i j : Nat) : List (Nat × Nat) := ((List.range j).filter (P i)).map fun q => (i, q)
def outN (P : Nat → Nat → Bool) (n i : Nat) : List (Nat × Nat) := (List.range i).flatMap fun q => inn P q (n - q)
def pairD (t : Nat × Nat) : PyData := .tuple [.int ((t.1 : Int) + 1), .int ((t.2 : Int) + 1)]
theorem inn_succ (P : Nat → Nat → Bool) (i j : Nat) : inn P i (j + 1) = inn P i j ++ (if P i j = true then [(i, j)] else []) := by
  unfold inn
  rw [List.range_succ, List.filter_append, List.map_append]
  congr 1
  by_cases h : P i j = true
  · rw [if_pos h, List.filter_cons_of_pos h]
    rfl
  · rw [if_neg h, List.filter_cons_of_neg h]
    rfl
theorem out_succ (P : Nat → Nat → Bool) (n i : Nat) : outN P n (i + 1) = outN P n i ++ inn P i (n - i) := by
  unfold outN
  rw [List.range_succ, List.flatMap_append]
  simp
theorem inn_len (P : Nat → Nat → Bool) (i j : Nat) : (inn P i j).length ≤ j := by
  unfold inn
  rw [List.length_map]
  refine Nat.le_trans (List.length_filter_le _ _) ?_
  rw [List.length_range]
  exact Nat.le_refl j
theorem out_len (P : Nat → Nat → Bool) (n : Nat) : ∀ i, (outN P n i).length ≤ i * n
  | 0 => Nat.zero_le _
  | i + 1 => by
    rw [out_succ, List.length_append, Nat.succ_mul]
    have h1 := out_len P n i
    have h2 := inn_len P i (n - i)
    omega
def unP (rows : List (List Int)) (ss : List Int) (i j : Nat) : Bool := !decide (((rows.getD i []).getD j 0) = dueA ss (i + 1) (j + 1))
structure UnlK (Γ : Gm) (r : R) (d : PyData) (H : Hp) (Q : VK) (E : XK) : Prop where
  trm : (∃ ts, r = .trm ts) → E (.ref Γ.cNoTable) none H
  bad : ∀ rows, r = .tab rows → sumsOk d = false → ∀ H', Same H H' → E (.ref Γ.cBadSums) none H'
  len : ∀ (rows : List (List Int)) (ss : List Int), r = .tab rows → d = .tuple (ss.map PyData.int) → sumsOk d = true → ss.length ≠ rows.length → ∀ H', Same H H' → E (.ref Γ.cBadSums) none H'
  good : ∀ (rows : List (List Int)) (ss : List Int), r = .tab rows → d = .tuple (ss.map PyData.int) → sumsOk d = true → ss.length = rows.length → ∀ l xs H', Same H H' → H' l = some (.lst xs) → TpAll H' xs ((outN (unP rows ss) ss.length ss.length).map pairD) → Q (.ref l) H'
def sp_unlike_places (Γ : Gm) : Sp := fun vs H Q E => ∃ v w r d, vs = [v, w] ∧ RuleAt Γ H v r ∧ Dv H w d ∧ UnlK Γ r d H Q E
/-- unlike_places: rule, sums, most, row, found, first, second -/
def t_unlike_places (Γ : Gm) (E : XK) : TS := (tSeq (tIfS (tTest (tOp (rNeU Γ.K) (tFld Γ.K (tVar 0) "form") (tC (.str "table")))) (tRaise Γ.cNoTable (fun cls d _ H => E cls d H)) tNext)
  (tSeq (tDrop (tCal (sp_check_sums Γ) E (tCons (tVar 1) tNil)))
  (tSeq (tPar 2 3 (tCons (tCal (sp_most_of Γ) E0 (tCons (tVar 0) tNil)) (tCons (tTup (tCons (tC (.int 0)) (tCons (tC (.int 0)) (StX.tStar Γ.K (tVar 1) tNil)))) tNil)))
  (tSeq (tIfS (tTest (tOp (rNeU Γ.K) (tCB (rLen Γ.K) (tCons (tVar 1) tNil)) (tOp rSubI (tVar 2) (tC (.int 1))))) (tRaise Γ.cBadSums (fun cls d _ H => E cls d H)) tNext)
  (tSeq (tAsg (tLst tNil) (gName 4))
  (tSeq (tFor (iRng2 (tCons (tC (.int 1)) (tCons (tVar 2) tNil))) (gName 5) (tFor (iRng2 (tCons (tC (.int 1)) (tCons (tOp (rAddU Γ.K) (tOp rSubI (tVar 2) (tVar 5)) (tC (.int 1))) tNil))) (gName 6) (tIfS (tTest (tOp (rNeU Γ.K) (tCal (sp_points_by Γ) E0 (tCons (tVar 0) (tCons (tVar 5) (tCons (tVar 6) tNil)))) (tCal (sp_due_at Γ) E0 (tCons (tVar 3) (tCons (tVar 5) (tCons (tVar 6) tNil)))))) (tDrop (tBM Γ.K "list" rAppend (tVar 4) (tCons (tTup (tCons (tVar 5) (tCons (tVar 6) tNil))) tNil))) tNext)))
  (tRet (tVar 4))))))))
theorem rd_unlike_places (Γ : Gm) (F : RuleF Γ) (vs : List V) (H : Hp) (Q : VK) (E : XK) (h : sp_unlike_places Γ vs H Q E) : t_unlike_places Γ E ⟨fun _ H' => Q .non H', Q, fun _ _ => False, fun _ _ => False⟩ (startN 7 vs) H := by
  obtain ⟨v, w, r, d, rfl, hr, hd, k⟩ := h
  unfold t_unlike_places
  walk_at "ss"
  refine w_form F hr ?_
  walk_at "ss"
  rw [kind_tab]
  cases r with
  | trm ts =>
    refine w_ifY rfl ?_
    walk_at "ss"
    exact k.trm ⟨ts, rfl⟩
  | tab rows =>
  refine w_ifN rfl ?_
  walk_at "ss"
  refine ⟨w, d, rfl, hd, k.bad rows rfl, fun hok H1 e1 => ?_⟩
  obtain ⟨ss, rfl, s1, s2, s3⟩ := sumsOk_inv hok
  obtain ⟨a, xs, rfl, hx, tx⟩ := (hd.mono e1).tupInv
  have ex : xs = ss.map V.int := dvs_int tx
  subst ex
  walk_at "ss"
  refine ⟨v, .tab rows, rfl, hr.mono e1, ?_⟩
  walk_at "ss"
  refine ⟨a, _, rfl, .inl (SqT.of hx), ?_⟩
  walk_at "ss"
  rw [List.append_nil]
  refine n_tup (hz := by rw [List.length_cons, List.length_cons, List.length_map]; omega) fun t2 H2 f2 e2 g2 => ?_
  walk_at "ss"
  refine w_lenT (SqT.of (e2 _ _ hx)) ?_
  rw [List.length_map]
  walk_at "ss"
  have etop : (R.tab rows).top = (rows.length : Int) + 1 := rfl
  by_cases hln : ss.length = rows.length
  rotate_left
  · refine w_ifY (by rw [decide_eq_false (by rw [etop]; omega)]; rfl) ?_
    walk_at "ss"
    exact k.len rows ss rfl rfl hok hln H2 (e1.trans e2)
  refine w_ifN (by rw [decide_eq_true (by rw [etop]; omega)]; rfl) ?_
  walk_at "ss"
  refine n_lst fun L H3 f3 e3 g3 => ?_
  walk_at "ss"
  rw [etop, ← hln]
  refine k_rng2 (by omega) ?_
  rw [show ((ss.length : Int) + 1 - 1).toNat = ss.length by omega]
  have e13 := e1.trans (e2.trans e3)
  have fL : H L = none := (e1.trans e2).free f3
  have row3 : H3 t2 = some (.tup ((rowS ss).map V.int)) := e3 _ _ g2
  obtain ⟨P, hP⟩ : ∃ P, P = unP rows ss := ⟨_, rfl⟩
  refine k_range (fun i σ H' => ∃ x5 x6 xs, σ = [some v, some (.ref a), some (.int ((ss.length : Int) + 1)), some (.ref t2), some (.ref L), x5, x6] ∧ Same H H' ∧ H' L = some (.lst xs) ∧ TpAll H' xs ((outN P ss.length i).map pairD) ∧ H' t2 = some (.tup ((rowS ss).map V.int))) ⟨none, none, [], rfl, e13, g3, .nil, row3⟩ ?_ ?_
  · rintro i σ H4 hi ⟨x5, x6, xs, rfl, e4, g4, t4, r4⟩
    walk_at "ss"
    refine k_rng2 (by omega) ?_
    rw [show ((ss.length : Int) + 1 - (1 + (i : Int)) + 1 - 1).toNat = ss.length - i by omega]
    refine k_range (fun j σ H' => ∃ x6 xs, σ = [some v, some (.ref a), some (.int ((ss.length : Int) + 1)), some (.ref t2), some (.ref L), some (.int (1 + (i : Int))), x6] ∧ Same H H' ∧ H' L = some (.lst xs) ∧ TpAll H' xs ((outN P ss.length i ++ inn P i j).map pairD) ∧ H' t2 = some (.tup ((rowS ss).map V.int))) ⟨x6, xs, rfl, e4, g4, by rw [show inn P i 0 = [] from rfl, List.append_nil]; exact t4, r4⟩ ?_ ?_
    · rintro j σ H5 hj ⟨x6, xs, rfl, e5, g5, t5, r5⟩
      walk_at "ss"
      rw [show (1 : Int) + (i : Int) = ((i + 1 : Nat) : Int) by omega, show (1 : Int) + (j : Int) = ((j + 1 : Nat) : Int) by omega]
      have r5' := hr.mono e5
      refine ⟨v, .tab rows, ((i + 1 : Nat) : Int), ((j + 1 : Nat) : Int), rfl, r5', by omega, by omega, by rw [etop]; omega, fun H6 e6 => ?_⟩
      walk_at "ss"
      refine ⟨t2, ss, i + 1, j + 1, rfl, e6 _ _ r5, by omega, ?_⟩
      walk_at "ss"
      have ep : (R.tab rows).pts ((i + 1 : Nat) : Int) ((j + 1 : Nat) : Int) = (rows.getD i []).getD j 0 := by
        show (rows.getD (((i + 1 : Nat) : Int) - 1).toNat []).getD (((j + 1 : Nat) : Int) - 1).toNat 0 = _
        rw [show (((i + 1 : Nat) : Int) - 1).toNat = i by omega, show (((j + 1 : Nat) : Int) - 1).toNat = j by omega]
      have epp : (!decide ((R.tab rows).pts ((i + 1 : Nat) : Int) ((j + 1 : Nat) : Int) = dueA ss (i + 1) (j + 1))) = P i j := by
        rw [ep, hP]
        rfl
      rw [epp]
      have g6 := e6 _ _ g5
      have xl := t5.length
      rw [List.length_map, List.length_append] at xl
      have b1 := out_len P ss.length i
      have b2 := inn_len P i j
      have b3 : i * ss.length ≤ 40 * 40 := Nat.mul_le_mul (by omega) (by omega)
      cases hPi : P i j with
      | true =>
        refine w_ifY rfl ?_
        walk_at "ss"
        refine w_tyL g6 ?_
        walk_at "ss"
        refine n_tup fun t7 H7 f7 e7 g7 => ?_
        walk_at "ss"
        have g67 := e7 _ _ g6
        refine w_app g67 (by omega) ?_
        have uL : ∀ ys, Tups H7 (upd H7 L (.lst ys)) := fun ys => (Same.refl H7).tups.upd (fun xs z => by rw [g67] at z; cases z)
        refine ⟨some (.int ((j + 1 : Nat) : Int)), xs ++ [V.ref t7], ?_, Same.mut (e5.trans (e6.trans e7)) fL, upd_same, ?_, uL _ _ _ ((e6.trans e7) _ _ r5)⟩
        · rw [show ((i + 1 : Nat) : Int) = 1 + (i : Int) by omega, show ((j + 1 : Nat) : Int) = 1 + (j : Int) by omega]
          rfl
        · rw [inn_succ, hPi, if_pos rfl, ← List.append_assoc, List.map_append]
          exact ((t5.mono (e6.trans e7).tups).mono (uL _)).append (.cons ((Tp.tup g7 (.cons (.int _) (.cons (.int _) .nil))).mono (uL _)) .nil)
      | false =>
        refine w_ifN rfl ?_
        walk_at "ss"
        refine ⟨some (.int ((j + 1 : Nat) : Int)), xs, ?_, e5.trans e6, g6, ?_, e6 _ _ r5⟩
        · rw [show ((i + 1 : Nat) : Int) = 1 + (i : Int) by omega, show ((j + 1 : Nat) : Int) = 1 + (j : Int) by omega]
          rfl
        · rw [inn_succ, hPi, if_neg (by decide), List.append_nil]
          exact t5.mono e6.tups
    · rintro σ H5 ⟨x6, xs, rfl, e5, g5, t5, r5⟩
      rw [← out_succ] at t5
      exact ⟨_, _, xs, rfl, e5, g5, t5, r5⟩
  · rintro σ H4 ⟨x5, x6, xs, rfl, e4, g4, t4, r4⟩
    walk_at "ss"
    rw [hP] at t4
    exact k.good rows ss rfl rfl hok hln L xs H4 e4 g4 t4

/-! ### splitting evenly -/
def evn (r : R) (n : Nat) : Int := if h : n ≤ 1 then 0 else r.pts ((n - n / 2 : Nat) : Int) ((n / 2 : Nat) : Int) + evn r (n - n / 2) + evn r (n / 2)
termination_by n
decreasing_by
  · omega
  · omega
theorem evn_one (r : R) {n : Nat} (h : n ≤ 1) : evn r n = 0 := by rw [evn, dif_pos h]
theorem evn_more (r : R) {n : Nat} (h : 2 ≤ n) : evn r n = r.pts ((n - n / 2 : Nat) : Int) ((n / 2 : Nat) : Int) + evn r (n - n / 2) + evn r (n / 2) := by rw [evn, dif_neg (by omega)]
theorem evn_bd {r : R} (ok : r.ok) : ∀ (k n : Nat), n ≤ 2 ^ k → (n : Int) ≤ r.top → (evn r n).natAbs ≤ 2 ^ (832 + 2 * k)
  | 0, n, h, _ => by
    rw [evn_one r (by simpa using h)]
    exact Nat.zero_le _
  | k + 1, n, h, ht => by
    by_cases h1 : n ≤ 1
    · rw [evn_one r h1]
      exact Nat.zero_le _
    have e : 2 ^ (k + 1) = 2 * 2 ^ k := by rw [Nat.pow_succ]; omega
    rw [evn_more r (by omega)]
    have p := pts_small (r := r) (a := ((n - n / 2 : Nat) : Int)) (b := ((n / 2 : Nat) : Int)) ok (by omega) (by omega) (by omega)
    have i1 := evn_bd ok k (n - n / 2) (by omega) (by omega)
    have i2 := evn_bd ok k (n / 2) (by omega) (by omega)
    have p' : (r.pts ((n - n / 2 : Nat) : Int) ((n / 2 : Nat) : Int)).natAbs ≤ 2 ^ (832 + 2 * k) := Nat.le_trans p (Nat.pow_le_pow_right (by decide) (by omega))
    have e2 : 2 ^ (832 + 2 * (k + 1)) = 4 * 2 ^ (832 + 2 * k) := by
      rw [show 832 + 2 * (k + 1) = 832 + 2 * k + 2 by omega, Nat.pow_add]
      omega
    generalize 2 ^ (832 + 2 * k) = B at *
    generalize 2 ^ (832 + 2 * (k + 1)) = B2 at *
    omega
theorem w_iteW {b : Bool} {ta tb : TE} {σ : St} {H : Hp} {Q : VK} (x : V) (k : ∀ H', Same H H' → Q x H') (h1 : b = true → ∀ Q' : VK, (∀ H', Same H H' → Q' x H') → ta σ H Q') (h2 : b = false → ∀ Q' : VK, (∀ H', Same H H' → Q' x H') → tb σ H Q') : if b = true then ta σ H Q else tb σ H Q := by
  cases b with
  | true => exact w_iteT (h1 rfl Q k)
  | false => exact w_iteF (h2 rfl Q k)
def evg (r : R) (n : Nat) : Int := if ((n + 1 : Nat) : Int) ≤ r.top then evn r (n + 1) else 0
def spn_even_by (Γ : Gm) (k : Nat) : Sp := fun vs H Q _ => ∃ v r, ∃ n : Nat, vs = [v, .int n] ∧ RuleAt Γ H v r ∧ 1 ≤ n ∧ n < 2 ^ k ∧ (n : Int) ≤ r.top ∧ ∀ p H', Same H H' → H' p = some (.tup [.int (evn r n), .int (evg r n)]) → Q (.ref p) H'
def sp_even_by (Γ : Gm) : Sp := spn_even_by Γ 105
/-- even_by: rule, heap, half, small, great, own -/
def t_even_by (Γ : Gm) (n : Nat) : TS := (tSeq (tIfS (tTest (tOp (rEqU Γ.K) (tVar 1) (tC (.int 1)))) (tRet (tTup (tCons (tC (.int 0)) (tCons (tIf (tTest (tOp rGt (tCal (sp_most_of Γ) E0 (tCons (tVar 0) tNil)) (tC (.int 1)))) (tCal (sp_points_by Γ) E0 (tCons (tVar 0) (tCons (tC (.int 1)) (tCons (tC (.int 1)) tNil)))) (tC (.int 0))) tNil)))) tNext)
  (tSeq (tAsg (tOp rDivI (tVar 1) (tC (.int 2))) (gName 2))
  (tSeq (tAsg (tCal (spn_even_by Γ n) E0 (tCons (tVar 0) (tCons (tVar 2) tNil))) (gTup Γ.K 2 (gCons (gName 3) (gCons (gName 4) gNil))))
  (tSeq (tIfS (tTest (tOp (rEqU Γ.K) (tOp rModI (tVar 1) (tC (.int 2))) (tC (.int 0)))) (tSeq (tAsg (tOp (rAddU Γ.K) (tOp (rMulU Γ.K) (tC (.int 2)) (tVar 3)) (tCal (sp_points_by Γ) E0 (tCons (tVar 0) (tCons (tVar 2) (tCons (tVar 2) tNil))))) (gName 5))
  (tRet (tTup (tCons (tVar 5) (tCons (tIf (tTest (tOp rLt (tVar 1) (tCal (sp_most_of Γ) E0 (tCons (tVar 0) tNil)))) (tOp (rAddU Γ.K) (tOp (rAddU Γ.K) (tVar 3) (tVar 4)) (tCal (sp_points_by Γ) E0 (tCons (tVar 0) (tCons (tOp (rAddU Γ.K) (tVar 2) (tC (.int 1))) (tCons (tVar 2) tNil))))) (tC (.int 0))) tNil))))) tNext)
  (tSeq (tAsg (tOp (rAddU Γ.K) (tOp (rAddU Γ.K) (tVar 3) (tVar 4)) (tCal (sp_points_by Γ) E0 (tCons (tVar 0) (tCons (tOp (rAddU Γ.K) (tVar 2) (tC (.int 1))) (tCons (tVar 2) tNil))))) (gName 5))
  (tRet (tTup (tCons (tVar 5) (tCons (tIf (tTest (tOp rLt (tVar 1) (tCal (sp_most_of Γ) E0 (tCons (tVar 0) tNil)))) (tOp (rAddU Γ.K) (tOp (rMulU Γ.K) (tC (.int 2)) (tVar 4)) (tCal (sp_points_by Γ) E0 (tCons (tVar 0) (tCons (tOp (rAddU Γ.K) (tVar 2) (tC (.int 1))) (tCons (tOp (rAddU Γ.K) (tVar 2) (tC (.int 1))) tNil))))) (tC (.int 0))) tNil)))))))))
theorem rd0_even_by (Γ : Gm) (vs : List V) (H : Hp) (Q : VK) (E : XK) (h : spn_even_by Γ 0 vs H Q E) : False := by
  obtain ⟨v, r, n, _, _, h1, h2, _⟩ := h
  simp at h2
  omega
theorem top_big {r : R} (ok : r.ok) {n : Nat} (h : (n : Int) ≤ r.top) : n ≤ 2 ^ 100 := by
  have := (top_ge ok).2
  have : n ≤ 1000000000000000000000000000000 := by omega
  exact Nat.le_trans this (by decide)
theorem evn_bd' {r : R} (ok : r.ok) {n : Nat} (h : (n : Int) ≤ r.top) : (evn r n).natAbs ≤ 2 ^ 1032 := evn_bd ok 100 n (top_big ok h) h
theorem rd_even_by (Γ : Gm) (k : Nat) (vs : List V) (H : Hp) (Q : VK) (E : XK) (h : spn_even_by Γ (k + 1) vs H Q E) : t_even_by Γ k ⟨fun _ H' => Q .non H', Q, fun _ _ => False, fun _ _ => False⟩ (startN 6 vs) H := by
  obtain ⟨v, r, n, rfl, hr, h1, hk, ht, q⟩ := h
  have ok := hr.ok
  have tg := (top_ge ok).1
  unfold t_even_by
  walk_at "ss"
  by_cases e : n = 1
  · subst e
    have eg : evg r 1 = r.pts 1 1 := by
      unfold evg
      rw [if_pos (by omega), evn_more r (by decide)]
      show r.pts ((1 : Nat) : Int) ((1 : Nat) : Int) + evn r 1 + evn r 1 = _
      rw [evn_one r (by decide)]
      simp
    refine w_ifY rfl ?_
    walk_at "ss"
    refine ⟨v, r, rfl, hr, ?_⟩
    walk_at "ss"
    refine w_ifY (decide_eq_true (by omega)) ?_
    walk_at "ss"
    refine ⟨v, r, _, _, rfl, hr, by decide, by decide, by omega, fun H1 e1 => ?_⟩
    walk_at "ss"
    refine n_tup fun p H2 f2 e2 g2 => ?_
    refine q p H2 (e1.trans e2) ?_
    rw [evn_one r (by decide), eg]
    exact g2
  refine w_ifN (decide_eq_false (by omega)) ?_
  walk_at "ss"
  refine w_divI ⟨by decide, by decide +kernel⟩ ?_
  obtain ⟨m, hm⟩ : ∃ m : Nat, m = n / 2 := ⟨_, rfl⟩
  have em : (n : Int) / 2 = (m : Int) := by omega
  walk_at "ss"
  rw [em]
  have k2 : 2 ^ (k + 1) = 2 * 2 ^ k := by rw [Nat.pow_succ]; omega
  have hm1 : 1 ≤ m := by omega
  refine ⟨v, r, m, rfl, hr, hm1, by omega, by omega, fun p H1 e1 g1 => ?_⟩
  have bm := evn_bd' ok (n := m) (by omega)
  have eg : evg r m = evn r (m + 1) := if_pos (by omega)
  have bm1 := evn_bd' ok (n := m + 1) (by omega)
  rw [eg] at g1
  refine w_gTup (SqT.of g1) rfl ?_
  have r1 := hr.mono e1
  have b2 : (2 : Int).natAbs ≤ 2 ^ 1 := by decide
  walk_at "ss"
  by_cases ev : n = 2 * m
  · refine w_ifY (decide_eq_true (by omega)) ?_
    walk_at "s"
    walk_at "s"
    walk_at "s"
    walk_at "s"
    walk_at "s"
    walk_at "s"
    refine w_mulI (cmul_of b2 bm) ?_
    walk_at "ss"
    refine ⟨v, r, _, _, rfl, r1, by omega, by omega, by omega, fun H2 e2 => ?_⟩
    have r2 := r1.mono e2
    walk_at "ss"
    refine ⟨v, r, rfl, r2, ?_⟩
    walk_at "ss"
    have own : 2 * evn r m + r.pts (m : Int) (m : Int) = evn r n := by
      rw [evn_more r (n := n) (by omega), ← hm, show n - m = m by omega]
      omega
    rw [own]
    refine w_iteW (.int (evg r n)) (fun H3 e3 => ?_) (fun c Q' q' => ?_) (fun c Q' q' => ?_)
    · walk_at "ss"
      refine n_tup fun p2 H4 f4 e4 g4 => ?_
      exact q p2 H4 (e1.trans (e2.trans (e3.trans e4))) g4
    · have c' := of_decide_eq_true c
      walk_at "ss"
      refine ⟨v, r, _, _, rfl, r2, by omega, by omega, by omega, fun H3 e3 => ?_⟩
      walk_at "ss"
      have : evn r m + evn r (m + 1) + r.pts ((m : Int) + 1) (m : Int) = evg r n := by
        unfold evg
        rw [if_pos (by omega), evn_more r (n := n + 1) (by omega), show (n + 1) / 2 = m by omega, show n + 1 - m = m + 1 by omega, show (((m + 1 : Nat)) : Int) = (m : Int) + 1 by omega]
        omega
      rw [this]
      exact q' H3 e3
    · have c' := of_decide_eq_false c
      walk_at "ss"
      have : evg r n = 0 := if_neg (by omega)
      rw [this] at q'
      exact q' H2 (Same.refl H2)
  · have od : n = 2 * m + 1 := by omega
    refine w_ifN (decide_eq_false (by omega)) ?_
    walk_at "ss"
    refine ⟨v, r, _, _, rfl, r1, by omega, by omega, by omega, fun H2 e2 => ?_⟩
    have r2 := r1.mono e2
    walk_at "ss"
    refine ⟨v, r, rfl, r2, ?_⟩
    walk_at "ss"
    have own : evn r m + evn r (m + 1) + r.pts ((m : Int) + 1) (m : Int) = evn r n := by
      rw [evn_more r (n := n) (by omega), ← hm, show n - m = m + 1 by omega, show (((m + 1 : Nat)) : Int) = (m : Int) + 1 by omega]
      omega
    rw [own]
    refine w_iteW (.int (evg r n)) (fun H3 e3 => ?_) (fun c Q' q' => ?_) (fun c Q' q' => ?_)
    · walk_at "ss"
      refine n_tup fun p2 H4 f4 e4 g4 => ?_
      exact q p2 H4 (e1.trans (e2.trans (e3.trans e4))) g4
    · have c' := of_decide_eq_true c
      walk_at "s"
      walk_at "s"
      walk_at "s"
      walk_at "s"
      refine w_mulI (cmul_of b2 bm1) ?_
      walk_at "ss"
      refine ⟨v, r, _, _, rfl, r2, by omega, by omega, by omega, fun H3 e3 => ?_⟩
      walk_at "ss"
      have : 2 * evn r (m + 1) + r.pts ((m : Int) + 1) ((m : Int) + 1) = evg r n := by
        unfold evg
        rw [if_pos (by omega), evn_more r (n := n + 1) (by omega), show (n + 1) / 2 = m + 1 by omega, show n + 1 - (m + 1) = m + 1 by omega, show (((m + 1 : Nat)) : Int) = (m : Int) + 1 by omega]
        omega
      rw [this]
      exact q' H3 e3
    · have c' := of_decide_eq_false c
      walk_at "ss"
      have : evg r n = 0 := if_neg (by omega)
      rw [this] at q'
      exact q' H2 (Same.refl H2)
/-! ### evenly, one_off, last_off -/
theorem w_heapG {Γ : Gm} {H : Hp} {Q : VK} {E : XK} {v : V} {r : R} {n : Int} (hr : RuleAt Γ H v r) (h1 : 1 ≤ n) (h3 : n ≤ r.top) (k : Q .non H) : sp_check_heap Γ [v, .int n, .int 1000000000000000000000000000000] H Q E := by
  have z : heapOk r 1000000000000000000000000000000 (.int n) = true := by
    have := (top_ge hr.ok).2
    unfold heapOk
    refine inD_yes h1 ?_
    split <;> omega
  exact ⟨v, r, .int n, .int n, _, rfl, hr, .int n, (fun e => by rw [z] at e; cases e), fun _ => k⟩
def sp_evenly (Γ : Gm) : Sp := fun vs H Q _ => ∃ v r, ∃ n : Nat, vs = [v, .int n] ∧ RuleAt Γ H v r ∧ 1 ≤ n ∧ (n : Int) ≤ r.top ∧ ∀ H', Same H H' → Q (.int (evn r n)) H'
def sp_one_off (Γ : Gm) : Sp := fun vs H Q _ => ∃ v r, ∃ n : Nat, vs = [v, .int n] ∧ RuleAt Γ H v r ∧ 1 ≤ n ∧ (n : Int) ≤ r.top ∧ ∀ H', Same H H' → Q (.int (linS r true (n - 1))) H'
def sp_last_off (Γ : Gm) : Sp := fun vs H Q _ => ∃ v r, ∃ n : Nat, vs = [v, .int n] ∧ RuleAt Γ H v r ∧ 1 ≤ n ∧ (n : Int) ≤ r.top ∧ ∀ H', Same H H' → Q (.int (linS r false (n - 1))) H'
/-- evenly: rule, heap -/
def t_evenly (Γ : Gm) (E : XK) : TS := (tSeq (tDrop (tCal (sp_check_heap Γ) E (tCons (tVar 0) (tCons (tVar 1) (tCons (tC (.int 1000000000000000000000000000000)) tNil)))))
  (tRet (tOp (rIx Γ.K) (tCal (sp_even_by Γ) E0 (tCons (tVar 0) (tCons (tVar 1) tNil))) (tC (.int 0)))))
theorem rd_evenly (Γ : Gm) (vs : List V) (H : Hp) (Q : VK) (E : XK) (h : sp_evenly Γ vs H Q E) : t_evenly Γ E ⟨fun _ H' => Q .non H', Q, fun _ _ => False, fun _ _ => False⟩ (startN 2 vs) H := by
  obtain ⟨v, r, n, rfl, hr, h1, ht, q⟩ := h
  unfold t_evenly
  walk_at "ss"
  refine w_heapG hr (by omega) ht ?_
  walk_at "ss"
  refine ⟨v, r, n, rfl, hr, h1, ?_, ht, fun p H1 e1 g1 => ?_⟩
  · exact Nat.lt_of_le_of_lt (top_big hr.ok ht) (by decide)
  walk_at "ss"
  refine w_ixT (SqT.of g1) (atI0 _ _) ?_
  exact q H1 e1
/-- one_off: rule, heap -/
def t_one_off (Γ : Gm) (E : XK) : TS := (tSeq (tDrop (tCal (sp_check_heap Γ) E (tCons (tVar 0) (tCons (tVar 1) (tCons (tC (.int 1000000000000000000000000000000)) tNil)))))
  (tRet (tCal (sp_one_by_one Γ) E0 (tCons (tVar 0) (tCons (tVar 1) (tCons (tC (.bl true)) tNil))))))
theorem rd_one_off (Γ : Gm) (vs : List V) (H : Hp) (Q : VK) (E : XK) (h : sp_one_off Γ vs H Q E) : t_one_off Γ E ⟨fun _ H' => Q .non H', Q, fun _ _ => False, fun _ _ => False⟩ (startN 2 vs) H := by
  obtain ⟨v, r, n, rfl, hr, h1, ht, q⟩ := h
  unfold t_one_off
  walk_at "ss"
  refine w_heapG hr (by omega) ht ?_
  walk_at "ss"
  exact ⟨v, r, true, n, rfl, hr, h1, ht, q⟩
/-- last_off: rule, heap -/
def t_last_off (Γ : Gm) (E : XK) : TS := (tSeq (tDrop (tCal (sp_check_heap Γ) E (tCons (tVar 0) (tCons (tVar 1) (tCons (tC (.int 1000000000000000000000000000000)) tNil)))))
  (tRet (tCal (sp_one_by_one Γ) E0 (tCons (tVar 0) (tCons (tVar 1) (tCons (tC (.bl false)) tNil))))))
theorem rd_last_off (Γ : Gm) (vs : List V) (H : Hp) (Q : VK) (E : XK) (h : sp_last_off Γ vs H Q E) : t_last_off Γ E ⟨fun _ H' => Q .non H', Q, fun _ _ => False, fun _ _ => False⟩ (startN 2 vs) H := by
  obtain ⟨v, r, n, rfl, hr, h1, ht, q⟩ := h
  unfold t_last_off
  walk_at "ss"
  refine w_heapG hr (by omega) ht ?_
  walk_at "ss"
  exact ⟨v, r, false, n, rfl, hr, h1, ht, q⟩

/-! ### first_better -/
structure StyF (Γ : Gm) : Prop where
  ex : ∃ od n sl t1 t2 t3, Γ.K.lookup Γ.aSTYLES = some ⟨.type "tuple", od, .seq #[.str "even" t1, .str "first" t2, .str "last" t3] n, sl⟩
theorem StyF.at_ {Γ : Gm} (F : StyF Γ) (H : Hp) : SqT Γ.K H Γ.aSTYLES [.str "even", .str "first", .str "last"] := by
  obtain ⟨od, n, sl, t1, t2, t3, h⟩ := F.ex
  exact .inr ⟨_, _, n, h, rfl, rfl, (show 3 ≤ sizeLine from by decide), .cons ⟨t1, rfl⟩ (.cons ⟨t2, rfl⟩ (.cons ⟨t3, rfl⟩ .nil))⟩
def styOk : PyData → Bool
  | .str s => decide (s = "even") || (decide (s = "first") || decide (s = "last"))
  | _ => false
/-- the points of a heap by a style -/
def sty (r : R) (s : Str) (n : Nat) : Int := if s = "even" then evn r n else linS r (decide (s = "first")) (n - 1)
def sp_styled (Γ : Gm) : Sp := fun vs H Q _ => ∃ v r s, ∃ n : Nat, vs = [v, .str s, .int n] ∧ RuleAt Γ H v r ∧ 1 ≤ n ∧ (n : Int) ≤ r.top ∧ ∀ H', Same H H' → Q (.int (sty r s n)) H'
/-- styled: rule, style, heap -/
def t_styled (Γ : Gm) : TS := (tSeq (tIfS (tTest (tOp (rEqU Γ.K) (tVar 1) (tC (.str "even")))) (tRet (tOp (rIx Γ.K) (tCal (sp_even_by Γ) E0 (tCons (tVar 0) (tCons (tVar 2) tNil))) (tC (.int 0)))) tNext)
  (tRet (tCal (sp_one_by_one Γ) E0 (tCons (tVar 0) (tCons (tVar 2) (tCons (tOp (rEqU Γ.K) (tVar 1) (tC (.str "first"))) tNil))))))
theorem rd_styled (Γ : Gm) (vs : List V) (H : Hp) (Q : VK) (E : XK) (h : sp_styled Γ vs H Q E) : t_styled Γ ⟨fun _ H' => Q .non H', Q, fun _ _ => False, fun _ _ => False⟩ (startN 3 vs) H := by
  obtain ⟨v, r, s, n, rfl, hr, h1, ht, q⟩ := h
  unfold t_styled
  walk_at "ss"
  unfold sty at q
  by_cases e : s = "even"
  · rw [if_pos e] at q
    refine w_ifY (decide_eq_true e) ?_
    walk_at "ss"
    refine ⟨v, r, n, rfl, hr, h1, Nat.lt_of_le_of_lt (top_big hr.ok ht) (by decide), ht, fun p H1 e1 g1 => ?_⟩
    walk_at "ss"
    refine w_ixT (SqT.of g1) (atI0 _ _) ?_
    exact q H1 e1
  · rw [if_neg e] at q
    refine w_ifN (decide_eq_false e) ?_
    walk_at "ss"
    exact ⟨v, r, _, n, rfl, hr, h1, ht, q⟩
def betB (r : R) (s : Str) (gs : List Int) (h : Nat) : Bool := decide (sty r s h < 0 - fAt gs h)
def betR (r : R) (s : Str) (gs : List Int) (m : Nat) : Option Nat := ((List.range m).map (· + 1)).find? (betB r s gs)
def optI : Option Nat → V
  | none => .non
  | some h => .int (h : Int)
structure BetK (Γ : Gm) (r : R) (dx dy : PyData) (H : Hp) (Q : VK) (E : XK) : Prop where
  style : styOk dx = false → E (.ref Γ.cBadStyle) none H
  num : styOk dx = true → heapOk r 40 dy = false → E (.ref Γ.cBadNumber) none H
  good : ∀ s, ∀ m : Nat, dx = .str s → styOk dx = true → dy = .int m → 1 ≤ m → m ≤ 40 → (m : Int) ≤ r.top → ∀ gs H', Same H H' → gs.length = m → Tab r (-1) gs → Q (optI (betR r s gs m)) H'
def sp_first_better (Γ : Gm) : Sp := fun vs H Q E => ∃ v r x y dx dy, vs = [v, x, y] ∧ RuleAt Γ H v r ∧ Dv H x dx ∧ Dv H y dy ∧ BetK Γ r dx dy H Q E
/-- first_better: rule, style, most, table, heap -/
def t_first_better (Γ : Gm) (E : XK) : TS := (tSeq (tIfS (tOr (tNot (tB (tCB (rIsi Γ.K) (tCons (tVar 1) (tCons (tC (.ty "str")) tNil))))) (tTest (tOp (rNotInU Γ.K) (tVar 1) (tC (.ref Γ.aSTYLES))))) (tRaise Γ.cBadStyle (fun cls d _ H => E cls d H)) tNext)
  (tSeq (tIfS (tNot (tB (tCal (sp_is_from Γ) E0 (tCons (tVar 2) (tCons (tC (.int 1)) (tCons (tCB rMin2 (tCons (tC (.int 40)) (tCons (tCal (sp_most_of Γ) E0 (tCons (tVar 0) tNil)) tNil))) tNil)))))) (tRaise Γ.cBadNumber (fun cls d _ H => E cls d H)) tNext)
  (tSeq (tAsg (tCal (sp_table_of Γ) E0 (tCons (tVar 0) (tCons (tVar 2) (tCons (tUn (rU fun i => .int (-i)) (tC (.int 1))) tNil)))) (gName 3))
  (tSeq (tFor (iRng2 (tCons (tC (.int 1)) (tCons (tOp (rAddU Γ.K) (tVar 2) (tC (.int 1))) tNil))) (gName 4) (tIfS (tTest (tOp rLt (tCal (sp_styled Γ) E0 (tCons (tVar 0) (tCons (tVar 1) (tCons (tVar 4) tNil)))) (tOp rSubI (tC (.int 0)) (tOp (rIx Γ.K) (tVar 3) (tVar 4))))) (tRet (tVar 4)) tNext))
  (tRet (tC .non))))))
theorem inV3 (s : Str) : inV (.str s) [.str "even", .str "first", .str "last"] = styOk (.str s) := by
  simp only [inV, List.any_cons, List.any_nil, eqV, Bool.or_false, styOk]
  have h : ∀ x y : Str, (x == y) = decide (y = x) := fun x y => by
    by_cases e : x = y
    · subst e; simp
    · rw [decide_eq_false (fun z => e z.symm)]; simpa using e
  rw [h, h, h]
theorem rd_first_better (Γ : Gm) (S : StyF Γ) (vs : List V) (H : Hp) (Q : VK) (E : XK) (h : sp_first_better Γ vs H Q E) : t_first_better Γ E ⟨fun _ H' => Q .non H', Q, fun _ _ => False, fun _ _ => False⟩ (startN 5 vs) H := by
  obtain ⟨v, r, x, y, dx, dy, rfl, hr, hx, hy, kk⟩ := h
  unfold t_first_better
  walk_at "ss"
  refine w_isi hx.tag (by decide) ?_
  rw [hx.ty]
  walk_at "ss"
  refine w_ite (fun e => ?_) (fun e => ?_)
  · walk_at "ss"
    refine kk.style ?_
    cases dx with
    | str s => exact absurd (show (!tyTab "str" "str") = true from e) (by decide)
    | _ => rfl
  obtain ⟨s, rfl⟩ := strTy (by simpa using e)
  have ek := dv_str hx
  subst ek
  walk_at "ss"
  refine w_in2 (w_inT (S.at_ H) rfl rfl ?_)
  walk_at "ss"
  rw [if_pos rfl, inV3]
  refine w_ite (fun e2 => ?_) (fun e2 => ?_)
  · walk_at "ss"
    exact kk.style (by simpa using e2)
  have so : styOk (.str s) = true := by simpa using e2
  walk_at "ss"
  refine ⟨v, r, rfl, hr, ?_⟩
  walk_at "ss"
  refine ⟨y, 1, _, rfl, hy.tag, ?_⟩
  rw [hy.inR]
  walk_at "ss"
  refine w_ite (fun e3 => ?_) (fun e3 => ?_)
  · walk_at "ss"
    exact kk.num so (by simpa [heapOk] using e3)
  have ho : inD 1 (if r.top < 40 then r.top else 40) dy = true := by simpa using e3
  obtain ⟨z, rfl, z1, z2⟩ := inD_int ho
  obtain ⟨m, rfl⟩ : ∃ m : Nat, z = m := ⟨z.toNat, by omega⟩
  have ey := dv_int hy
  subst ey
  have m40 : m ≤ 40 ∧ (m : Int) ≤ r.top := by split at z2 <;> omega
  have m1 : 1 ≤ m := by omega
  walk_at "ss"
  refine ⟨v, r, m, -1, rfl, hr, by omega, by omega, m40.2, .inr rfl, fun l gs H1 e1 f1 g1 hl T => ?_⟩
  have hgl : gs.length = m := by omega
  walk_at "ss"
  refine k_rng2 (by omega) ?_
  rw [show ((m : Int) + 1 - 1).toNat = m by omega]
  refine k_range (fun i σ H' => ∃ x4, σ = [some v, some (.str s), some (.int m), some (.ref l), x4] ∧ Same H1 H' ∧ ∀ h ∈ (List.range i).map (· + 1), betB r s gs h = false) ⟨_, rfl, Same.refl H1, fun h hh => nomatch hh⟩ ?_ ?_
  · rintro i σ H2 hi ⟨x4, rfl, e2, pre⟩
    have ei : (1 + (i : Int)) = ((i + 1 : Nat) : Int) := by omega
    walk_at "ss"
    rw [ei]
    refine ⟨v, r, s, i + 1, rfl, hr.mono (e1.trans e2), by omega, by omega, fun H3 e3 => ?_⟩
    walk_at "ss"
    refine w_ixL (SqL.of ((e2.trans e3) _ _ g1)) (tab_ix (n := i + 1) (by omega) (by omega) rfl) ?_
    walk_at "ss"
    have eb : decide (sty r s (i + 1) < 0 - fAt gs (i + 1)) = betB r s gs (i + 1) := rfl
    rw [eb]
    refine w_ite (fun c => ?_) (fun c => ?_)
    · walk_at "ss"
      have : betR r s gs m = some (i + 1) := by
        obtain ⟨sf, es⟩ := map_cut (fun i => i + 1) hi
        show ((List.range m).map _).find? _ = _
        rw [es]
        exact find_at pre c
      have q := kk.good s m rfl so rfl m1 m40.1 m40.2 gs H3 (e1.trans (e2.trans e3)) hgl T
      rw [this] at q
      exact q
    · walk_at "ss"
      refine ⟨_, rfl, e2.trans e3, fun h hh => ?_⟩
      rw [List.range_succ, List.map_append, List.mem_append] at hh
      rcases hh with hh | hh
      · exact pre h hh
      · have : h = i + 1 := by simpa using hh
        rw [this]
        exact c
  · rintro σ H2 ⟨x4, rfl, e2, pre⟩
    walk_at "ss"
    have : betR r s gs m = none := List.find?_eq_none.mpr fun h hh => by rw [pre h hh]; decide
    have q := kk.good s m rfl so rfl m1 m40.1 m40.2 gs H2 (e1.trans e2) hgl T
    rw [this] at q
    exact q

/-! ### numbers of ways -/
def conv (t : List Nat) (n k : Nat) : Nat := ((List.range k).map fun i => t.getD (i + 1) 0 * t.getD (n - (i + 1)) 0).sum
def catT : Nat → List Nat
  | 0 => [0, 1]
  | k + 1 => catT k ++ [conv (catT k) (k + 2) (k + 1)]
theorem catT_len : ∀ k, (catT k).length = k + 2
  | 0 => rfl
  | k + 1 => by
    show (catT k ++ [_]).length = _
    rw [List.length_append, catT_len k]
    rfl
def cat (n : Nat) : Nat := (catT (n - 1)).getD n 0
theorem catT_get : ∀ k m, m ≤ k + 1 → (catT k).getD m 0 = cat m
  | 0, 0, _ => rfl
  | 0, 1, _ => rfl
  | 0, m + 2, h => by omega
  | k + 1, m, h => by
    by_cases e : m = k + 2
    · subst e
      rfl
    · rw [← catT_get k m (by omega)]
      show (catT k ++ [_]).getD m 0 = _
      rw [List.getD_eq_getElem?_getD, List.getElem?_append_left (by rw [catT_len]; omega), List.getD_eq_getElem?_getD]
/-- how many ways have a first part of at most j things -/
def off (n j : Nat) : Nat := ((List.range j).map fun i => cat (i + 1) * cat (n - (i + 1))).sum
theorem off_succ (n j : Nat) : off n (j + 1) = off n j + cat (j + 1) * cat (n - (j + 1)) := by
  unfold off
  rw [List.range_succ, List.map_append, List.sum_append]
  simp
theorem off_mono (n : Nat) {j k : Nat} (h : j ≤ k) : off n j ≤ off n k := by
  induction k with
  | zero => rw [Nat.le_zero.mp h]; exact Nat.le_refl _
  | succ k ih =>
    by_cases e : j = k + 1
    · rw [e]; exact Nat.le_refl _
    · have := ih (by omega)
      rw [off_succ]
      omega
theorem cat_step {n : Nat} (h : 2 ≤ n) : cat n = off n (n - 1) := by
  obtain ⟨k, rfl⟩ : ∃ k, n = k + 2 := ⟨n - 2, by omega⟩
  have e1 : cat (k + 2) = conv (catT k) (k + 2) (k + 1) := by
    show (catT k ++ [_]).getD (k + 2) 0 = _
    rw [List.getD_eq_getElem?_getD, List.getElem?_append_right (by rw [catT_len]; exact Nat.le_refl _), catT_len, Nat.sub_self]
    rfl
  rw [e1]
  unfold conv off
  show ((List.range (k + 1)).map _).sum = ((List.range (k + 1)).map _).sum
  congr 1
  refine List.map_congr_left fun i hi => ?_
  have := List.mem_range.mp hi
  rw [catT_get k (i + 1) (by omega), catT_get k (k + 2 - (i + 1)) (by omega)]
theorem cat_le : ∀ n ≤ 40, cat n ≤ 2 ^ 80 := by decide +kernel
def rankW : Wy → Nat
  | .one => 0
  | .two l r => off (l.things + r.things) (l.things - 1) + rankW l * cat r.things + rankW r
theorem mul_lt {a A b B : Nat} (h1 : a < A) (h2 : b < B) : a * B + b < A * B := by
  have : (a + 1) * B ≤ A * B := Nat.mul_le_mul_right B h1
  rw [Nat.succ_mul] at this
  omega
theorem rank_part {l r : Wy} (hl : rankW l < cat l.things) (hr : rankW r < cat r.things) : off (l.things + r.things) (l.things - 1) ≤ rankW (.two l r) ∧ rankW (.two l r) < off (l.things + r.things) l.things := by
  have p := l.pos
  have e : rankW (.two l r) = off (l.things + r.things) (l.things - 1) + rankW l * cat r.things + rankW r := rfl
  have s := off_succ (l.things + r.things) (l.things - 1)
  rw [show l.things - 1 + 1 = l.things by omega, show l.things + r.things - l.things = r.things by omega] at s
  have := mul_lt hl hr
  omega
theorem rank_lt : ∀ w : Wy, rankW w < cat w.things
  | .one => by decide
  | .two l r => by
    have hl := rank_lt l
    have hr := rank_lt r
    have p1 := l.pos
    have p2 := r.pos
    obtain ⟨_, h⟩ := rank_part hl hr
    rw [things_two, cat_step (by omega)]
    exact Nat.lt_of_lt_of_le h (off_mono _ (by omega))
theorem rank_inj : ∀ (w w' : Wy), w.things = w'.things → rankW w = rankW w' → w = w'
  | .one, .one, _, _ => rfl
  | .one, .two l r, h, _ => by
    have p1 := l.pos
    have p2 := r.pos
    rw [things_two] at h
    have : (Wy.one).things = 1 := rfl
    omega
  | .two l r, .one, h, _ => by
    have p1 := l.pos
    have p2 := r.pos
    rw [things_two] at h
    have : (Wy.one).things = 1 := rfl
    omega
  | .two l r, .two l' r', h, e => by
    rw [things_two, things_two] at h
    have a := rank_part (rank_lt l) (rank_lt r)
    have b := rank_part (rank_lt l') (rank_lt r')
    rw [← h] at b
    rw [e] at a
    have pl := l.pos
    have pl' := l'.pos
    have ht : l.things = l'.things := by
      rcases Nat.lt_trichotomy l.things l'.things with c | c | c
      · have := off_mono (l.things + r.things) (show l.things ≤ l'.things - 1 by omega)
        omega
      · exact c
      · have := off_mono (l.things + r.things) (show l'.things ≤ l.things - 1 by omega)
        omega
    have hr : r.things = r'.things := by omega
    have e1 : rankW (.two l r) = off (l.things + r.things) (l.things - 1) + rankW l * cat r.things + rankW r := rfl
    have e2 : rankW (.two l' r') = off (l'.things + r'.things) (l'.things - 1) + rankW l' * cat r'.things + rankW r' := rfl
    rw [e1, e2, ← ht, ← hr] at e
    have q1 := rank_lt r
    have q2 := rank_lt r'
    rw [← hr] at q2
    have ez : rankW l * cat r.things + rankW r = rankW l' * cat r.things + rankW r' := by omega
    have d1 : rankW r = rankW r' := by
      have := congrArg (· % cat r.things) ez
      simpa [Nat.mul_add_mod_self_right, Nat.mod_eq_of_lt q1, Nat.mod_eq_of_lt q2] using this
    have d2 : rankW l = rankW l' := by
      rw [d1] at ez
      exact Nat.eq_of_mul_eq_mul_right (by omega) (Nat.add_right_cancel ez)
    rw [rank_inj l l' ht d2, rank_inj r r' hr d1]
/-! where a way stands among all -/
theorem flat_get {α : Type} (f : Nat → List α) : ∀ (m k : Nat) (x : α), ((List.range m).flatMap f)[k]? = some x → ∃ j k', j < m ∧ (f j)[k']? = some x ∧ k = ((List.range j).map fun i => (f i).length).sum + k'
  | 0, k, x, h => by simp at h
  | m + 1, k, x, h => by
    rw [List.range_succ, List.flatMap_append] at h
    by_cases c : k < ((List.range m).flatMap f).length
    · rw [List.getElem?_append_left c] at h
      obtain ⟨j, k', h1, h2, h3⟩ := flat_get f m k x h
      exact ⟨j, k', by omega, h2, h3⟩
    · rw [List.getElem?_append_right (by omega)] at h
      refine ⟨m, k - ((List.range m).flatMap f).length, by omega, by simpa using h, ?_⟩
      rw [List.length_flatMap] at c ⊢
      omega
theorem pairs_len (A B : List Wy) : (pairs A B).length = A.length * B.length := by
  induction A with
  | nil => show 0 = _; simp
  | cons a A ih =>
    have : pairs (a :: A) B = (B.map fun b => Wy.two a b) ++ pairs A B := by
      unfold pairs
      rw [List.flatMap_cons]
    rw [this, List.length_append, List.length_map, ih, List.length_cons, Nat.succ_mul, Nat.add_comm]
theorem pairs_get : ∀ (A B : List Wy) (k : Nat) (w : Wy), (pairs A B)[k]? = some w → ∃ a b i j, A[i]? = some a ∧ B[j]? = some b ∧ w = .two a b ∧ k = i * B.length + j
  | [], B, k, w, h => by
    have : (pairs [] B)[k]? = none := rfl
    rw [this] at h
    cases h
  | a :: A, B, k, w, h => by
    have hd : pairs (a :: A) B = (B.map fun b => Wy.two a b) ++ pairs A B := by
      unfold pairs
      rw [List.flatMap_cons]
    rw [hd] at h
    by_cases c : k < B.length
    · rw [List.getElem?_append_left (by rw [List.length_map]; exact c), List.getElem?_map] at h
      obtain ⟨b, hb, rfl⟩ := Option.map_eq_some_iff.mp h
      exact ⟨a, b, 0, k, rfl, hb, rfl, by omega⟩
    · rw [List.getElem?_append_right (by rw [List.length_map]; omega), List.length_map] at h
      obtain ⟨a', b, i, j, h1, h2, h3, h4⟩ := pairs_get A B _ w h
      refine ⟨a', b, i + 1, j, by rw [List.getElem?_cons_succ]; exact h1, h2, h3, ?_⟩
      rw [Nat.succ_mul]
      omega
theorem ways_len : ∀ n, 1 ≤ n → (waysN n).length = cat n := by
  intro n
  induction n using Nat.strongRecOn with
  | ind n ih =>
    intro h1
    by_cases e : n = 1
    · subst e
      rfl
    rw [waysN_step (by omega), List.length_flatMap, cat_step (by omega)]
    unfold off
    congr 1
    refine List.map_congr_left fun j hj => ?_
    have := List.mem_range.mp hj
    rw [pairs_len, ih (j + 1) (by omega) (by omega), ih (n - (j + 1)) (by omega) (by omega)]
theorem ways_rank : ∀ n, 1 ≤ n → ∀ k w, (waysN n)[k]? = some w → rankW w = k := by
  intro n
  induction n using Nat.strongRecOn with
  | ind n ih =>
    intro h1 k w h
    by_cases e : n = 1
    · subst e
      match k, h with
      | 0, h => cases h; rfl
      | k + 1, h => simp [waysN, wTab] at h
    rw [waysN_step (by omega)] at h
    obtain ⟨j, k', hj, h2, h3⟩ := flat_get _ _ _ _ h
    obtain ⟨a, b, i, q, ha, hb, rfl, h4⟩ := pairs_get _ _ _ _ h2
    have ra := ih (j + 1) (by omega) (by omega) i a ha
    have rb := ih (n - (j + 1)) (by omega) (by omega) q b hb
    have ta := ways_things (j + 1) (by omega) a (List.mem_of_getElem? ha)
    have tb := ways_things (n - (j + 1)) (by omega) b (List.mem_of_getElem? hb)
    show off (a.things + b.things) (a.things - 1) + rankW a * cat b.things + rankW b = k
    rw [ta, tb, ra, rb, h3, h4, ways_len (n - (j + 1)) (by omega), show j + 1 + (n - (j + 1)) = n by omega, Nat.add_sub_cancel]
    have : ((List.range j).map fun i => (pairs (waysN (i + 1)) (waysN (n - (i + 1)))).length).sum = off n j := by
      unfold off
      congr 1
      refine List.map_congr_left fun z hz => ?_
      have := List.mem_range.mp hz
      rw [pairs_len, ways_len (z + 1) (by omega), ways_len (n - (z + 1)) (by omega)]
    rw [this]
    omega
theorem ways_all : ∀ w : Wy, w ∈ waysN w.things
  | .one => by
    show Wy.one ∈ [Wy.one]
    exact List.mem_singleton.mpr rfl
  | .two l r => by
    have p1 := l.pos
    have p2 := r.pos
    rw [things_two, waysN_step (by omega), List.mem_flatMap]
    refine ⟨l.things - 1, List.mem_range.mpr (by omega), ?_⟩
    rw [show l.things - 1 + 1 = l.things by omega, show l.things + r.things - l.things = r.things by omega]
    exact mem_pairs.mpr ⟨l, ways_all l, r, ways_all r, rfl⟩
/-! ### counts_to -/
def catV (m : Nat) : List V := (List.range (m + 1)).map fun i => V.int (cat i : Nat)
theorem catV_len (m : Nat) : (catV m).length = m + 1 := by unfold catV; rw [List.length_map, List.length_range]
theorem cat_ix {m n : Nat} (h : n ≤ m) {j : Int} (e : j = n) : atI (catV m) j = some (.int (cat n : Nat)) := by
  subst e
  refine atI_of (by omega) ?_
  rw [Int.toNat_natCast]
  unfold catV
  rw [List.getElem?_map, List.getElem?_range (by omega)]
  rfl
def sp_counts_to (Γ : Gm) : Sp := fun vs H Q _ => ∃ n : Nat, vs = [.int n] ∧ 1 ≤ n ∧ n ≤ 40 ∧ ∀ l H', Same H H' → H l = none → H' l = some (.lst (catV n)) → Q (.ref l) H'
theorem sum_nat : ∀ (l : List Nat), (l.map fun n : Nat => (n : Int)).sum = ((l.sum : Nat) : Int)
  | [] => rfl
  | n :: l => by rw [List.map_cons, List.sum_cons, List.sum_cons, sum_nat l, Int.natCast_add]
/-- counts_to: heap, found, size, first -/
def t_counts_to (Γ : Gm) : TS := (tSeq (tAsg (tLst (tCons (tC (.int 0)) (tCons (tC (.int 1)) tNil))) (gName 1))
  (tSeq (tFor (iRng2 (tCons (tC (.int 2)) (tCons (tOp (rAddU Γ.K) (tVar 0) (tC (.int 1))) tNil))) (gName 2) (tDrop (tBM Γ.K "list" rAppend (tVar 1) (tCons (tCB (rSum Γ.K) (tCons (tLc (iRng2 (tCons (tC (.int 1)) (tCons (tVar 2) tNil))) (gName 3) tYes (tOp (rMulU Γ.K) (tOp (rIx Γ.K) (tVar 1) (tVar 3)) (tOp (rIx Γ.K) (tVar 1) (tOp rSubI (tVar 2) (tVar 3)))) [3]) tNil)) tNil))))
  (tRet (tVar 1))))
theorem rd_counts_to (Γ : Gm) (vs : List V) (H : Hp) (Q : VK) (E : XK) (h : sp_counts_to Γ vs H Q E) : t_counts_to Γ ⟨fun _ H' => Q .non H', Q, fun _ _ => False, fun _ _ => False⟩ (startN 4 vs) H := by
  obtain ⟨n, rfl, h1, h40, k⟩ := h
  unfold t_counts_to
  walk_at "ss"
  refine n_lst fun L H1 fL e1 g1 => ?_
  walk_at "ss"
  refine k_rng2 (by omega) ?_
  refine k_range (fun i σ H' => ∃ x2 x3, σ = [some (.int n), some (.ref L), x2, x3] ∧ Same H H' ∧ H' L = some (.lst (catV (i + 1)))) ⟨none, none, rfl, e1, g1⟩ ?_ ?_
  · rintro i σ H2 hi ⟨x2, x3, rfl, e2, g2⟩
    have hi' : i + 2 ≤ n := by omega
    walk_at "ss"
    refine w_tyL g2 ?_
    walk_at "ss"
    refine k_rng2 (by omega) ?_
    rw [show (2 + (i : Int) - 1).toNat = i + 1 by omega]
    refine k_lcRange (fun j acc _ => acc = (((List.range j).map fun q => cat (q + 1) * cat (i + 2 - (q + 1))).map fun n : Nat => V.int (n : Int))) (fun _ _ => rfl) ?_ ?_
    · rintro j D acc H3 hj hD e3 hacc rfl
      have gL := e3 _ _ g2
      have c1 := cat_le (j + 1) (by omega)
      have c2 := cat_le (i + 2 - (j + 1)) (by omega)
      have c1' : (((cat (j + 1) : Nat)) : Int).natAbs ≤ 2 ^ 80 := by rw [Int.natAbs_natCast]; exact c1
      have c2' : (((cat (i + 2 - (j + 1)) : Nat)) : Int).natAbs ≤ 2 ^ 80 := by rw [Int.natAbs_natCast]; exact c2
      walk_at "ss"
      refine ⟨rfl, ?_⟩
      walk_at "ss"
      refine w_ixL (SqL.of gL) (cat_ix (n := j + 1) (by omega) (by omega)) ?_
      walk_at "ss"
      refine w_ixL (SqL.of gL) (cat_ix (n := i + 2 - (j + 1)) (by omega) (by omega)) ?_
      refine w_mulI (cmul_of c1' c2') ?_
      refine lcTurn.mk hD e3 hacc (by rw [List.length_map, List.length_map, List.length_range]; omega) ?_
      rw [List.range_succ, List.map_append, List.map_append]
      simp only [List.map_cons, List.map_nil]
      rw [Int.natCast_mul]
    · rintro D acc H3 hD e3 hacc rfl
      walk_at "ss"
      refine w_sum (ns := ((List.range (i + 1)).map fun q => cat (q + 1) * cat (i + 2 - (q + 1))).map fun n : Nat => (n : Int)) (SqL.of (by rw [hacc, List.map_map (f := fun n : Nat => (n : Int))]; rfl)) ?_
      walk_at "ss"
      have gL := e3 _ _ g2
      refine w_app gL (by rw [catV_len]; omega) ?_
      refine ⟨_, _, rfl, Same.mut (e2.trans e3) fL, ?_⟩
      rw [upd_same, sum_nat]
      have ec : ((List.range (i + 1)).map fun q => cat (q + 1) * cat (i + 2 - (q + 1))).sum = cat (i + 2) := (cat_step (n := i + 2) (by omega)).symm
      rw [ec]
      unfold catV
      rw [List.range_succ (n := i + 1 + 1), List.map_append]
      rfl
  · rintro σ H2 ⟨x2, x3, rfl, e2, g2⟩
    walk_at "ss"
    rw [show ((n : Int) + 1 - 2).toNat + 1 = n by omega] at g2
    exact k L H2 e2 fL g2

/-! ### kth, rank -/
theorem catN_le {n : Nat} (h : n ≤ 40) : (((cat n : Nat)) : Int).natAbs ≤ 2 ^ 80 := by rw [Int.natAbs_natCast]; exact cat_le n h
theorem cat_pos : ∀ n ≤ 40, 1 ≤ n → 1 ≤ cat n := by decide +kernel
def spn_way_at (Γ : Gm) (d : Nat) : Sp := fun vs H Q _ => ∃ (c : Addr) (n k m : Nat), vs = [.ref c, .int n, .int k] ∧ H c = some (.lst (catV m)) ∧ 1 ≤ n ∧ n ≤ d ∧ n ≤ m ∧ m ≤ 40 ∧ k < cat n ∧ ∀ x w H', Same H H' → Tp H' x (Wy.data w) → w.things = n → rankW w = k → Q x H'
def sp_way_at (Γ : Gm) : Sp := spn_way_at Γ 45
/-- way_at: counts, heap, k, first, rest -/
def t_way_at (Γ : Gm) (n : Nat) : TS := (tSeq (tIfS (tTest (tOp (rEqU Γ.K) (tVar 1) (tC (.int 1)))) (tRet (tC (.int 1))) tNext)
  (tSeq (tAsg (tC (.int 1)) (gName 3))
  (tSeq (tWhile (tTest (tOp rGe (tVar 2) (tOp (rMulU Γ.K) (tOp (rIx Γ.K) (tVar 0) (tVar 3)) (tOp (rIx Γ.K) (tVar 0) (tOp rSubI (tVar 1) (tVar 3)))))) (tSeq (tAug 2 (tOp (rMulU Γ.K) (tOp (rIx Γ.K) (tVar 0) (tVar 3)) (tOp (rIx Γ.K) (tVar 0) (tOp rSubI (tVar 1) (tVar 3)))) (ipI fun i j => i - j))
  (tAug 3 (tC (.int 1)) (ipI fun i j => i + j))))
  (tSeq (tAsg (tOp (rIx Γ.K) (tVar 0) (tOp rSubI (tVar 1) (tVar 3))) (gName 4))
  (tRet (tTup (tCons (tCal (spn_way_at Γ n) E0 (tCons (tVar 0) (tCons (tVar 3) (tCons (tOp rDivI (tVar 2) (tVar 4)) tNil)))) (tCons (tCal (spn_way_at Γ n) E0 (tCons (tVar 0) (tCons (tOp rSubI (tVar 1) (tVar 3)) (tCons (tOp rModI (tVar 2) (tVar 4)) tNil)))) tNil))))))))
theorem rd0_way_at (Γ : Gm) (vs : List V) (H : Hp) (Q : VK) (E : XK) (h : spn_way_at Γ 0 vs H Q E) : False := by
  obtain ⟨c, n, k, m, _, _, h1, h2, _⟩ := h
  omega
theorem rd_way_at (Γ : Gm) (d : Nat) (vs : List V) (H : Hp) (Q : VK) (E : XK) (h : spn_way_at Γ (d + 1) vs H Q E) : t_way_at Γ d ⟨fun _ H' => Q .non H', Q, fun _ _ => False, fun _ _ => False⟩ (startN 5 vs) H := by
  obtain ⟨c, n, k, m, rfl, hc, h1, hd, hm, m40, hk, q⟩ := h
  unfold t_way_at
  walk_at "ss"
  by_cases e : n = 1
  · subst e
    refine w_ifY rfl ?_
    walk_at "ss"
    have k0 : k = 0 := by
      have : cat 1 = 1 := rfl
      omega
    exact q _ .one H (Same.refl H) (.int 1) rfl k0.symm
  refine w_ifN (decide_eq_false (by omega)) ?_
  walk_at "ss"
  have ck := cat_step (n := n) (by omega)
  refine k_while (fun μ σ H' => ∃ a k' : Nat, σ = [some (.ref c), some (.int n), some (.int k'), some (.int (a + 1 : Nat)), none] ∧ H' = H ∧ a + 1 < n ∧ off n a + k' = k ∧ μ = n - a) n ⟨0, k, rfl, rfl, by omega, by unfold off; simp, rfl⟩ ?_
  rintro μ σ H' ⟨a, k', rfl, rfl, ha, ho, rfl⟩
  have z1 := catN_le (n := a + 1) (by omega)
  have z2 := catN_le (n := n - (a + 1)) (by omega)
  have os := off_succ n a
  walk_at "ss"
  refine w_ixL (SqL.of hc) (cat_ix (n := a + 1) (by omega) rfl) ?_
  walk_at "ss"
  refine w_ixL (SqL.of hc) (cat_ix (n := n - (a + 1)) (by omega) (by omega)) ?_
  refine w_mulI (cmul_of z1 z2) ?_
  walk_at "ss"
  by_cases hg : cat (a + 1) * cat (n - (a + 1)) ≤ k'
  · refine w_ifY (decide_eq_true (by rw [← Int.natCast_mul]; omega)) ?_
    refine whK.mk ?_
    walk_at "ss"
    refine w_ixL (SqL.of hc) (cat_ix (n := a + 1) (by omega) rfl) ?_
    walk_at "ss"
    refine w_ixL (SqL.of hc) (cat_ix (n := n - (a + 1)) (by omega) (by omega)) ?_
    refine w_mulI (cmul_of z1 z2) ?_
    walk_at "ss"
    have hlt : a + 1 + 1 < n := by
      by_cases z : a + 1 + 1 < n
      · exact z
      · have : a + 1 = n - 1 := by omega
        rw [ck, ← this, os] at hk
        omega
    refine ⟨n - (a + 1), by omega, a + 1, k' - cat (a + 1) * cat (n - (a + 1)), ?_, rfl, hlt, by omega, rfl⟩
    rw [← Int.natCast_mul, show ((k' : Int) - ((cat (a + 1) * cat (n - (a + 1)) : Nat) : Int)) = ((k' - cat (a + 1) * cat (n - (a + 1)) : Nat) : Int) by omega, show (((a + 1 : Nat)) : Int) + 1 = ((a + 1 + 1 : Nat) : Int) by omega]
    rfl
  · refine w_ifN (decide_eq_false (by rw [← Int.natCast_mul]; omega)) ?_
    have cp := cat_pos (n - (a + 1)) (by omega) (by omega)
    walk_at "ss"
    refine w_ixL (SqL.of hc) (cat_ix (n := n - (a + 1)) (by omega) (by omega)) ?_
    walk_at "ss"
    refine w_divI ⟨by omega, ?_⟩ ?_
    · have := log2_le (Nat.le_trans z2 (Nat.le_refl _))
      omega
    have hk2 : k' < cat (n - (a + 1)) * cat (a + 1) := by rw [Nat.mul_comm]; omega
    walk_at "ss"
    rw [show (k' : Int) / ((cat (n - (a + 1)) : Nat) : Int) = ((k' / cat (n - (a + 1)) : Nat) : Int) from (Int.natCast_ediv _ _).symm]
    refine ⟨c, a + 1, _, m, rfl, hc, by omega, by omega, by omega, m40, Nat.div_lt_of_lt_mul hk2, fun x1 w1 H1 e1 t1 th1 r1 => ?_⟩
    walk_at "ss"
    try refine w_modI (by omega) ?_
    walk_at "ss"
    rw [show (k' : Int) % ((cat (n - (a + 1)) : Nat) : Int) = ((k' % cat (n - (a + 1)) : Nat) : Int) from (Int.natCast_emod _ _).symm, show (n : Int) - ((a + 1 : Nat) : Int) = ((n - (a + 1) : Nat) : Int) by omega]
    refine ⟨c, n - (a + 1), _, m, rfl, e1 _ _ hc, by omega, by omega, by omega, m40, Nat.mod_lt _ (by omega), fun x2 w2 H2 e2 t2 th2 r2 => ?_⟩
    walk_at "ss"
    refine n_tup fun p H3 f3 e3 g3 => ?_
    refine q _ (.two w1 w2) H3 (e1.trans (e2.trans e3)) (.tup g3 (.cons (t1.mono (e2.trans e3).tups) (.cons (t2.mono e3.tups) .nil))) (by rw [things_two, th1, th2]; omega) ?_
    show off (w1.things + w2.things) (w1.things - 1) + rankW w1 * cat w2.things + rankW w2 = k
    rw [th1, th2, r1, r2, show a + 1 + (n - (a + 1)) = n by omega, Nat.add_sub_cancel]
    have := Nat.div_add_mod' k' (cat (n - (a + 1)))
    omega
def sp_how_many (Γ : Gm) : Sp := fun vs H Q E => ∃ x d, vs = [x] ∧ Dv H x d ∧ (inD 1 40 d = false → E (.ref Γ.cBadHeap) none H) ∧ ∀ n : Nat, d = .int n → 1 ≤ n → n ≤ 40 → ∀ H', Same H H' → Q (.int (cat n : Nat)) H'
/-- how_many: heap -/
def t_how_many (Γ : Gm) (E : XK) : TS := (tSeq (tIfS (tNot (tB (tCal (sp_is_from Γ) E0 (tCons (tVar 0) (tCons (tC (.int 1)) (tCons (tC (.int 40)) tNil)))))) (tRaise Γ.cBadHeap (fun cls d _ H => E cls d H)) tNext)
  (tRet (tOp (rIx Γ.K) (tCal (sp_counts_to Γ) E0 (tCons (tVar 0) tNil)) (tVar 0))))
theorem inD_nat {hi : Int} {d : PyData} (h : inD 1 hi d = true) : ∃ n : Nat, d = .int n ∧ 1 ≤ n ∧ (n : Int) ≤ hi := by
  obtain ⟨z, rfl, z1, z2⟩ := inD_int h
  exact ⟨z.toNat, by rw [Int.toNat_of_nonneg (by omega)], by omega, by omega⟩
theorem rd_how_many (Γ : Gm) (vs : List V) (H : Hp) (Q : VK) (E : XK) (h : sp_how_many Γ vs H Q E) : t_how_many Γ E ⟨fun _ H' => Q .non H', Q, fun _ _ => False, fun _ _ => False⟩ (startN 1 vs) H := by
  obtain ⟨x, d, rfl, hd, k1, k2⟩ := h
  unfold t_how_many
  walk_at "ss"
  refine ⟨x, 1, 40, rfl, hd.tag, ?_⟩
  rw [hd.inR]
  walk_at "ss"
  refine w_ite (fun e => ?_) (fun e => ?_)
  · walk_at "ss"
    exact k1 (by simpa using e)
  obtain ⟨n, rfl, n1, n40⟩ := inD_nat (by simpa using e : inD 1 40 d = true)
  have ex := dv_int hd
  subst ex
  walk_at "ss"
  refine ⟨n, rfl, n1, by omega, fun l H1 e1 f1 g1 => ?_⟩
  walk_at "ss"
  refine w_ixL (SqL.of g1) (cat_ix (n := n) (Nat.le_refl _) rfl) ?_
  exact k2 n rfl n1 (by omega) H1 e1
structure KthK (Γ : Gm) (d dk : PyData) (H : Hp) (Q : VK) (E : XK) : Prop where
  heap : inD 1 40 d = false → E (.ref Γ.cBadHeap) none H
  num : ∀ n : Nat, d = .int n → 1 ≤ n → n ≤ 40 → inD 0 ((cat n : Nat) - 1) dk = false → ∀ H', Same H H' → E (.ref Γ.cBadNumber) none H'
  good : ∀ n k : Nat, d = .int n → 1 ≤ n → n ≤ 40 → dk = .int k → k < cat n → ∀ x w H', Same H H' → Tp H' x (Wy.data w) → w.things = n → rankW w = k → Q x H'
def sp_kth (Γ : Gm) : Sp := fun vs H Q E => ∃ x y d dk, vs = [x, y] ∧ Dv H x d ∧ Dv H y dk ∧ KthK Γ d dk H Q E
/-- kth: heap, k, counts -/
def t_kth (Γ : Gm) (E : XK) : TS := (tSeq (tIfS (tNot (tB (tCal (sp_is_from Γ) E0 (tCons (tVar 0) (tCons (tC (.int 1)) (tCons (tC (.int 40)) tNil)))))) (tRaise Γ.cBadHeap (fun cls d _ H => E cls d H)) tNext)
  (tSeq (tAsg (tCal (sp_counts_to Γ) E0 (tCons (tVar 0) tNil)) (gName 2))
  (tSeq (tIfS (tNot (tB (tCal (sp_is_from Γ) E0 (tCons (tVar 1) (tCons (tC (.int 0)) (tCons (tOp rSubI (tOp (rIx Γ.K) (tVar 2) (tVar 0)) (tC (.int 1))) tNil)))))) (tRaise Γ.cBadNumber (fun cls d _ H => E cls d H)) tNext)
  (tRet (tCal (sp_way_at Γ) E0 (tCons (tVar 2) (tCons (tVar 0) (tCons (tVar 1) tNil))))))))
theorem rd_kth (Γ : Gm) (vs : List V) (H : Hp) (Q : VK) (E : XK) (h : sp_kth Γ vs H Q E) : t_kth Γ E ⟨fun _ H' => Q .non H', Q, fun _ _ => False, fun _ _ => False⟩ (startN 3 vs) H := by
  obtain ⟨x, y, d, dk, rfl, hd, hk, kk⟩ := h
  unfold t_kth
  walk_at "ss"
  refine ⟨x, 1, 40, rfl, hd.tag, ?_⟩
  rw [hd.inR]
  walk_at "ss"
  refine w_ite (fun e => ?_) (fun e => ?_)
  · walk_at "ss"
    exact kk.heap (by simpa using e)
  obtain ⟨n, rfl, n1, n40⟩ := inD_nat (by simpa using e : inD 1 40 d = true)
  have ex := dv_int hd
  subst ex
  walk_at "ss"
  refine ⟨n, rfl, n1, by omega, fun l H1 e1 f1 g1 => ?_⟩
  walk_at "ss"
  refine w_ixL (SqL.of g1) (cat_ix (n := n) (Nat.le_refl _) rfl) ?_
  walk_at "ss"
  have hk1 := hk.mono e1
  refine ⟨y, 0, _, rfl, hk1.tag, ?_⟩
  rw [hk1.inR]
  walk_at "ss"
  refine w_ite (fun e => ?_) (fun e => ?_)
  · walk_at "ss"
    exact kk.num n rfl n1 (by omega) (by simpa using e) H1 e1
  obtain ⟨z, rfl, z1, z2⟩ := inD_int (by simpa using e : inD 0 ((cat n : Nat) - 1) dk = true)
  obtain ⟨k, rfl⟩ : ∃ k : Nat, z = k := ⟨z.toNat, by omega⟩
  have ey := dv_int hk
  subst ey
  walk_at "ss"
  refine ⟨l, n, k, n, rfl, g1, n1, by omega, Nat.le_refl _, by omega, by omega, fun x w H2 e2 t2 th r2 => ?_⟩
  exact kk.good n k rfl n1 (by omega) rfl (by omega) x w H2 (e1.trans e2) t2 th r2
def spn_rank_by (Γ : Gm) (d : Nat) : Sp := fun vs H Q _ => ∃ (c : Addr) (x : V) (w : Wy) (m : Nat), vs = [.ref c, x] ∧ H c = some (.lst (catV m)) ∧ Tp H x w.data ∧ w.things ≤ d ∧ w.things ≤ m ∧ m ≤ 40 ∧ ∀ H', Same H H' → Q (.int (rankW w : Nat)) H'
def sp_rank_by (Γ : Gm) : Sp := spn_rank_by Γ 45
/-- rank_by: counts, way, first, second, ahead, one -/
def t_rank_by (Γ : Gm) (n : Nat) : TS := (tSeq (tIfS (tNot (tB (tCB (rIsi Γ.K) (tCons (tVar 1) (tCons (tC (.ty "tuple")) tNil))))) (tRet (tC (.int 0))) tNext)
  (tSeq (tAsg (tTup (tCons (tCal (sp_things_in Γ) E0 (tCons (tOp (rIx Γ.K) (tVar 1) (tC (.int 0))) tNil)) (tCons (tCal (sp_things_in Γ) E0 (tCons (tOp (rIx Γ.K) (tVar 1) (tC (.int 1))) tNil)) tNil))) (gTup Γ.K 2 (gCons (gName 2) (gCons (gName 3) gNil))))
  (tSeq (tAsg (tCB (rSum Γ.K) (tCons (tLc (iRng2 (tCons (tC (.int 1)) (tCons (tVar 2) tNil))) (gName 5) tYes (tOp (rMulU Γ.K) (tOp (rIx Γ.K) (tVar 0) (tVar 5)) (tOp (rIx Γ.K) (tVar 0) (tOp rSubI (tOp (rAddU Γ.K) (tVar 2) (tVar 3)) (tVar 5)))) [5]) tNil)) (gName 4))
  (tRet (tOp (rAddU Γ.K) (tOp (rAddU Γ.K) (tVar 4) (tOp (rMulU Γ.K) (tCal (spn_rank_by Γ n) E0 (tCons (tVar 0) (tCons (tOp (rIx Γ.K) (tVar 1) (tC (.int 0))) tNil))) (tOp (rIx Γ.K) (tVar 0) (tVar 3)))) (tCal (spn_rank_by Γ n) E0 (tCons (tVar 0) (tCons (tOp (rIx Γ.K) (tVar 1) (tC (.int 1))) tNil))))))))
theorem rd0_rank_by (Γ : Gm) (vs : List V) (H : Hp) (Q : VK) (E : XK) (h : spn_rank_by Γ 0 vs H Q E) : False := by
  obtain ⟨c, x, w, m, _, _, _, h1, _⟩ := h
  have := w.pos
  omega
theorem rd_rank_by (Γ : Gm) (n : Nat) (vs : List V) (H : Hp) (Q : VK) (E : XK) (h : spn_rank_by Γ (n + 1) vs H Q E) : t_rank_by Γ n ⟨fun _ H' => Q .non H', Q, fun _ _ => False, fun _ _ => False⟩ (startN 6 vs) H := by
  obtain ⟨c, x, w, m, rfl, hc, hx, hn, hm, m40, k⟩ := h
  unfold t_rank_by
  walk_at "ss"
  refine w_isi hx.tag (by decide) ?_
  rw [hx.dv.ty]
  cases w with
  | one =>
    rw [show tyTab (tyD (Wy.one).data) "tuple" = false from by simp [Wy.data, tyD, tyTab]]
    walk_at "ss"
    exact k H (Same.refl H)
  | two a b =>
    rw [show tyTab (tyD (Wy.two a b).data) "tuple" = true from by simp [Wy.data, tyD, tyTab]]
    rw [things_two] at hn hm
    have p1 := a.pos
    have p2 := b.pos
    obtain ⟨ad, xs, rfl, ha, ta⟩ := hx.inv
    obtain ⟨x1, g1, t1⟩ := ta.get (i := 0) rfl
    obtain ⟨x2, g2, t2⟩ := ta.get (i := 1) rfl
    walk_at "ss"
    refine w_ixT (SqT.of ha) (atI_of (by decide) g1) ?_
    walk_at "ss"
    refine ⟨x1, _, rfl, t1.dv, a.dN (by omega), ?_⟩
    rw [a.thN (by omega)]
    walk_at "ss"
    refine w_ixT (SqT.of ha) (atI_of (by decide) g2) ?_
    walk_at "ss"
    refine ⟨x2, _, rfl, t2.dv, b.dN (by omega), ?_⟩
    rw [b.thN (by omega)]
    walk_at "ss"
    refine n_tup fun tp H1 f1 e1 gp => ?_
    refine w_gTup (SqT.of gp) rfl ?_
    have hc1 := e1 _ _ hc
    walk_at "ss"
    refine k_rng2 (by omega) ?_
    rw [show ((a.things : Int) - 1).toNat = a.things - 1 by omega]
    refine k_lcRange (fun j acc _ => acc = (((List.range j).map fun q => cat (q + 1) * cat (a.things + b.things - (q + 1))).map fun n : Nat => V.int (n : Int))) (fun _ _ => rfl) ?_ ?_
    · rintro j D acc H3 hj hD e3 hacc rfl
      have gL := e3 _ _ hc1
      have c1' := catN_le (n := j + 1) (by omega)
      have c2' := catN_le (n := a.things + b.things - (j + 1)) (by omega)
      walk_at "ss"
      refine ⟨rfl, ?_⟩
      walk_at "ss"
      refine w_ixL (SqL.of gL) (cat_ix (n := j + 1) (by omega) (by omega)) ?_
      walk_at "ss"
      refine w_ixL (SqL.of gL) (cat_ix (n := a.things + b.things - (j + 1)) (by omega) (by omega)) ?_
      refine w_mulI (cmul_of c1' c2') ?_
      refine lcTurn.mk hD e3 hacc (by rw [List.length_map, List.length_map, List.length_range]; omega) ?_
      rw [List.range_succ, List.map_append, List.map_append]
      simp only [List.map_cons, List.map_nil]
      rw [Int.natCast_mul]
    · rintro D acc H3 hD e3 hacc rfl
      walk_at "ss"
      refine w_sum (ns := ((List.range (a.things - 1)).map fun q => cat (q + 1) * cat (a.things + b.things - (q + 1))).map fun n : Nat => (n : Int)) (SqL.of (by rw [hacc, List.map_map (f := fun n : Nat => (n : Int))]; rfl)) ?_
      rw [sum_nat]
      have e13 := e1.trans e3
      have eo : ((List.range (a.things - 1)).map fun q => cat (q + 1) * cat (a.things + b.things - (q + 1))).sum = off (a.things + b.things) (a.things - 1) := rfl
      rw [eo]
      walk_at "ss"
      refine w_ixT (SqT.of (e13 _ _ ha)) (atI_of (by decide) g1) ?_
      walk_at "ss"
      refine ⟨c, x1, a, m, rfl, e13 _ _ hc, t1.mono e13.tups, by omega, by omega, m40, fun H4 e4 => ?_⟩
      walk_at "ss"
      have e14 := e13.trans e4
      refine w_ixL (SqL.of (e14 _ _ hc)) (cat_ix (n := b.things) (by omega) rfl) ?_
      have ra := rank_lt a
      have ca := cat_le a.things (by omega)
      have ra' : (((rankW a : Nat)) : Int).natAbs ≤ 2 ^ 80 := by rw [Int.natAbs_natCast]; omega
      refine w_mulI (cmul_of ra' (catN_le (n := b.things) (by omega))) ?_
      walk_at "ss"
      refine w_ixT (SqT.of (e14 _ _ ha)) (atI_of (by decide) g2) ?_
      walk_at "ss"
      refine ⟨c, x2, b, m, rfl, e14 _ _ hc, t2.mono e14.tups, by omega, by omega, m40, fun H5 e5 => ?_⟩
      walk_at "ss"
      have := k H5 (e14.trans e5)
      have er : (((rankW (.two a b) : Nat)) : Int) = ((off (a.things + b.things) (a.things - 1) : Nat) : Int) + ((rankW a : Nat) : Int) * ((cat b.things : Nat) : Int) + ((rankW b : Nat) : Int) := by
        show (((off (a.things + b.things) (a.things - 1) + rankW a * cat b.things + rankW b : Nat)) : Int) = _
        rw [Int.natCast_add, Int.natCast_add, Int.natCast_mul]
      rw [er] at this
      exact this
def sp_rank (Γ : Gm) : Sp := fun vs H Q _ => ∃ x, ∃ w : Wy, vs = [x] ∧ Tp H x w.data ∧ w.things ≤ 40 ∧ ∀ H', Same H H' → Q (.int (rankW w : Nat)) H'
/-- rank: way -/
def t_rank (Γ : Gm) (E : XK) : TS := (tSeq (tDrop (tCal (sp_check_way Γ) E (tCons (tVar 0) tNil)))
  (tRet (tCal (sp_rank_by Γ) E0 (tCons (tCal (sp_counts_to Γ) E0 (tCons (tCal (sp_things_in Γ) E0 (tCons (tVar 0) tNil)) tNil)) (tCons (tVar 0) tNil)))))
theorem rd_rank (Γ : Gm) (vs : List V) (H : Hp) (Q : VK) (E : XK) (h : sp_rank Γ vs H Q E) : t_rank Γ E ⟨fun _ H' => Q .non H', Q, fun _ _ => False, fun _ _ => False⟩ (startN 1 vs) H := by
  obtain ⟨x, w, rfl, hx, h40, k⟩ := h
  have p := w.pos
  have wd := w.dN (n := 45) (by omega)
  have wb := w.wayB h40
  unfold t_rank
  walk_at "ss"
  refine ⟨x, _, rfl, hx.dv, wd, (fun z => by rw [wb] at z; cases z), fun _ => ?_⟩
  walk_at "ss"
  refine ⟨x, _, rfl, hx.dv, wd, ?_⟩
  rw [w.thN (by omega)]
  walk_at "ss"
  refine ⟨w.things, rfl, p, h40, fun l H1 e1 f1 g1 => ?_⟩
  walk_at "ss"
  exact ⟨l, x, w, w.things, rfl, g1, hx.mono e1.tups, by omega, Nat.le_refl _, h40, fun H2 e2 => k H2 (e1.trans e2)⟩

/-! ### dicts that are walked -/
theorem un1 {n m : Nat} (h : n + 64 < m) : n + 1 < m := by omega
/-- locked, or so already -/
def tLockM (t : TS) : TS := fun D σ H => tLock t D σ H ∨ t D σ H
theorem ps_lockM {X : Cx} {st : Stmt} {t : TS} (h : PS X st t) : PS X st (tLockM t) := by
  refine ⟨fun pins s σ H D I hw => ?_⟩
  rcases hw with hw | hw
  · exact (ps_lock h).run pins s σ H D I hw
  · exact h.run pins s σ H D I hw
theorem k_items {d : Addr} {o : Obj} {kvs : List (Key × V)} {σ : St} {H : Hp} {g : TG} {t : TS} {nx : St → Hp → Prop} {rt : VK} (Pv : Nat → St → Hp → Prop) (h0 : Pv 0 σ H) (hl : ∀ i σ H, i ≤ kvs.length → Pv i σ H → H d = some (.frz o (.dK kvs)))
    (hs : ∀ i k v σ H T, kvs[i]? = some (k, v) → Pv i σ H → H T = none → g (.ref T) σ (upd H T (.tup [kV k, v])) fun σ2 H2 => t ⟨Pv (i + 1), rt, nx, Pv (i + 1)⟩ σ2 H2) (hd : ∀ σ H, Pv kvs.length σ H → nx σ H) : forK (Iti d o kvs) g t nx rt σ H := by
  refine ⟨fun i m σ H => m = kvs.length - i ∧ i ≤ kvs.length ∧ Pv i σ H, ⟨kvs.length, rfl, Nat.zero_le _, h0⟩, ?_⟩
  rintro i m σ H ⟨rfl, hi, p⟩
  have q := hl i σ H hi p
  by_cases hlt : i < kvs.length
  · refine .inr ⟨⟨q, hlt⟩, Pv (i + 1), fun σ' H' p' => ⟨kvs.length - (i + 1), by omega, rfl, hlt, p'⟩, fun x H' y => ?_⟩
    obtain ⟨T, k, v, hkv, rfl, hT, rfl⟩ := y
    exact hs i k v σ H T hkv p hT
  · have e : i = kvs.length := by omega
    subst e
    exact .inl ⟨⟨q, Nat.le_refl _⟩, hd σ H p⟩
/-- all but what stands at g -/
def But (g : Addr) (H H' : Hp) : Prop := ∀ b o, b ≠ g → H b = some o → H' b = some o
theorem But.refl {g : Addr} (H : Hp) : But g H H := fun _ _ _ h => h
theorem _root_.L2.Same.butD {g : Addr} {H H' : Hp} (e : Same H H') : But g H H' := fun b o _ h => e b o h
theorem But.trans {g : Addr} {H H1 H2 : Hp} (a : But g H H1) (b : But g H1 H2) : But g H H2 := fun c o n h => b c o n (a c o n h)
theorem But.at {g : Addr} {H H' : Hp} {o : HO} (e : But g H H') : But g H (upd H' g o) := fun b u n h => by
  rw [upd_ne n]
  exact e b u n h
theorem But.same {g : Addr} {H H1 H2 : Hp} (n : H g = none) (a : Same H H1) (b : But g H1 H2) : Same H H2 := fun c o h => b c o (ne_of_none h n) (a c o h)
theorem But.tp {g : Addr} {H H' : Hp} {kvs : List (Key × V)} (e : But g H H') (h : H g = some (.dK kvs)) : Tups H H' := fun a xs q => e a _ (fun z => by subst z; rw [h] at q; cases q) q
theorem But.rule {Γ : Gm} {g : Addr} {H H' : Hp} {v : V} {r : R} {kvs : List (Key × V)} (e : But g H H') (h : H g = some (.dK kvs)) (k : RuleAt Γ H v r) : RuleAt Γ H' v r := by
  obtain ⟨p, dx, b, rfl, h2, h3, h4⟩ := k
  exact ⟨p, dx, b, rfl, e p _ (fun z => by subst z; rw [h] at h2; cases h2) h2, h3.mono (e.tp h), h4⟩
/-- the lock at d goes -/
theorem But.unlock {g d : Addr} {H H' : Hp} {od : Obj} {u : HO} (hd : H d = some u) (e : But g (upd H d (.frz od u)) H') (ne : d ≠ g) : But g H (upd H' d u) := fun b o n h => by
  by_cases hb : b = d
  · subst hb
    rw [upd_same]
    rw [hd] at h
    exact h
  · rw [upd_ne hb]
    exact e b o n (by rw [upd_ne hb]; exact h)
theorem But.locked {g d : Addr} {H H' : Hp} {od : Obj} {u : HO} (e : But g (upd H d (.frz od u)) H') (ne : d ≠ g) : H' d = some (.frz od u) := e d _ ne upd_same
theorem w_lockY {t : TS} {D : Ends} {σ : St} {H : Hp} (d : Addr) (u : HO) (hd : H d = some u) (mu : Mut (some u)) (h : ∀ od, t ⟨fun σ' H' => H' d = some (.frz od u) ∧ D.nx σ' (upd H' d u), fun v H' => H' d = some (.frz od u) ∧ D.rt v (upd H' d u), fun σ' H' => H' d = some (.frz od u) ∧ D.bk σ' (upd H' d u), fun σ' H' => H' d = some (.frz od u) ∧ D.ct σ' (upd H' d u)⟩ σ (upd H d (.frz od u))) : tLockM t D σ H := .inl ⟨d, u, hd, mu, h⟩
theorem w_lockN {t : TS} {D : Ends} {σ : St} {H : Hp} (h : t D σ H) : tLockM t D σ H := .inr h
section
variable {K : PySem.W.Frag} {σ : St} {H : Hp} {Q : VK} {nx bk ct : St → Hp → Prop} {rt : VK}
theorem w_items {td : TE} {R : It → Hp → Prop} (h : td σ H fun x H1 => ∃ d o kvs, x = .ref d ∧ H1 d = some (.frz o (.dK kvs)) ∧ R (Iti d o kvs) H1) : iItems td σ H R := h
theorem w_dget2 {td ty tx : TE} (h : td σ H fun x H1 => ∃ a, x = .ref a ∧ IsD H1 a ∧ ty σ H1 fun y H2 => tx σ H2 fun z H3 => ∃ o, DGet H3 a y o ∧ Q (o.getD z) H3) : tDGet2 td ty tx σ H Q := h
theorem w_dget {td ty : TE} (h : td σ H fun x H1 => ty σ H1 fun y H2 => ∃ a v, x = .ref a ∧ DGet H2 a y (some v) ∧ Q v H2) : tDGet td ty σ H Q := h
theorem w_setD {p : Addr} {kvs : List (Key × V)} {i : Int} {v : V} {k : Hp → Prop} (hp : H p = some (.dK kvs)) (hz : kvs.length ≤ 100000) (h : k (upd H p (.dK (putK kvs (.inl i) v)))) : rSetD (.ref p) (.int i) v H k := ⟨p, _, rfl, DPut.k (k := .inl i) hp (Nat.lt_of_le_of_lt hz (by decide)), h⟩
theorem w_disp1 {i j : Int} (h : ∀ p H', H p = none → Same H H' → H' p = some (.dK [((.inl i : Key), .int j)]) → Q (.ref p) H') : tDisp [(tC (.int i), tC (.int j))] σ H Q := fun p hp => ⟨upd_same, [(.inl i, .int j)], rfl, Nat.succ_le_succ (Nat.zero_le 14), by rw [upd_upd]; exact h p _ hp (Same.new hp) upd_same⟩
theorem w_dnew (h : ∀ p H', H p = none → Same H H' → H' p = some (.dK []) → Q (.ref p) H') : tDNewK σ H Q := fun p hp => h p _ hp (Same.new hp) upd_same
end
/-! ### dicts from numbers to how many -/
def kvD (D : List (Int × Nat)) : List (Key × V) := D.map fun p => ((.inl p.1 : Key), V.int (p.2 : Int))
def getN : List (Int × Nat) → Int → Nat
  | [], _ => 0
  | p :: r, x => if p.1 = x then p.2 else getN r x
def addR : List (Int × Nat) → Int → Nat → List (Int × Nat)
  | [], x, c => [(x, c)]
  | p :: r, x, c => if p.1 = x then (p.1, p.2 + c) :: r else p :: addR r x c
theorem keysD (D : List (Int × Nat)) : (kvD D).map (fun kv => kV kv.1) = (D.map (·.1)).map V.int := by
  unfold kvD
  rw [List.map_map, List.map_map]
  rfl
theorem getN_val (D : List (Int × Nat)) (x : Int) : (valV (kvD D) (.inl x)).getD (.int 0) = .int (getN D x : Nat) := by
  induction D with
  | nil => rfl
  | cons p r ih =>
    unfold getN
    by_cases e : p.1 = x
    · rw [if_pos e]
      show (valV ((.inl p.1, V.int (p.2 : Int)) :: kvD r) (.inl x)).getD _ = _
      rw [valV_pos (by rw [e])]
      rfl
    · rw [if_neg e]
      show (valV ((.inl p.1, V.int (p.2 : Int)) :: kvD r) (.inl x)).getD _ = _
      rw [valV_neg (fun z => e (by injection z))]
      exact ih
theorem valV_mem {D : List (Int × Nat)} (nd : (D.map (·.1)).Nodup) {x : Int} {m : Nat} (h : (x, m) ∈ D) : valV (kvD D) (.inl x) = some (.int (m : Nat)) := by
  induction D with
  | nil => cases h
  | cons p r ih =>
    rw [List.map_cons, List.nodup_cons] at nd
    show valV ((.inl p.1, V.int (p.2 : Int)) :: kvD r) (.inl x) = _
    rcases List.mem_cons.mp h with rfl | h
    · rw [valV_pos rfl]
    · rw [valV_neg (fun z => ?_)]
      · exact ih nd.2 h
      · have z' : p.1 = x := by injection z
        exact nd.1 (List.mem_map.mpr ⟨(x, m), h, z'.symm⟩)
theorem any_keys (D : List (Int × Nat)) (x : Int) : ((kvD D).any fun kv => decide (kv.1 = (.inl x : Key))) = decide (x ∈ D.map (·.1)) := by
  induction D with
  | nil => simp [kvD]
  | cons p r ih =>
    show (decide ((.inl p.1 : Key) = .inl x) || (kvD r).any _) = _
    rw [ih]
    by_cases e : p.1 = x
    · subst e; simp
    · have e1 : ¬ ((.inl p.1 : Key) = .inl x) := fun z => e (by injection z)
      have e2 : ¬ x = p.1 := fun z => e z.symm
      rw [decide_eq_false e1, List.map_cons, Bool.false_or]
      apply decide_eq_decide.mpr
      rw [List.mem_cons]
      exact ⟨.inr, fun h => h.resolve_left e2⟩
theorem map_id_key {r : List (Int × Nat)} {x : Int} {v : V} (h : x ∉ r.map (·.1)) : (kvD r).map (fun kv => if kv.1 = (.inl x : Key) then (kv.1, v) else kv) = kvD r := by
  induction r with
  | nil => rfl
  | cons p r ih =>
    rw [List.map_cons, List.mem_cons, not_or] at h
    show (if (.inl p.1 : Key) = .inl x then _ else _) :: (kvD r).map _ = _
    rw [ih h.2, if_neg (fun z => h.1 (by injection z with z; exact z.symm))]
    rfl
theorem put_addR {D : List (Int × Nat)} (nd : (D.map (·.1)).Nodup) (x : Int) (c : Nat) : putK (kvD D) (.inl x) (.int ((getN D x + c : Nat) : Int)) = kvD (addR D x c) := by
  unfold putK
  rw [any_keys]
  induction D with
  | nil =>
    rw [if_neg (by simp)]
    unfold getN addR
    rw [Nat.zero_add]
    rfl
  | cons p r ih =>
    rw [List.map_cons, List.nodup_cons] at nd
    have ih := ih nd.2
    unfold getN addR
    by_cases e : p.1 = x
    · have hx : x ∉ r.map (·.1) := by rw [← e]; exact nd.1
      rw [if_pos e, if_pos e, if_pos (decide_eq_true (by rw [List.map_cons, e]; exact List.mem_cons_self ..))]
      show (if (.inl p.1 : Key) = .inl x then _ else _) :: (kvD r).map _ = _
      rw [map_id_key hx, if_pos (by rw [e])]
      rfl
    · rw [if_neg e, if_neg e]
      have e1 : ¬ ((.inl p.1 : Key) = .inl x) := fun z => e (by injection z)
      by_cases hx : x ∈ r.map (·.1)
      · rw [if_pos (decide_eq_true (by rw [List.map_cons]; exact List.mem_cons_of_mem _ hx))]
        rw [if_pos (decide_eq_true hx)] at ih
        show (if (.inl p.1 : Key) = .inl x then _ else _) :: (kvD r).map _ = _
        rw [ih, if_neg e1]
        rfl
      · rw [if_neg (by rw [decide_eq_false (by rw [List.map_cons, List.mem_cons, not_or]; exact ⟨fun z => e z.symm, hx⟩)]; decide)]
        rw [if_neg (by rw [decide_eq_false hx]; decide)] at ih
        show (.inl p.1, V.int (p.2 : Int)) :: (kvD r ++ _) = _
        rw [ih]
        rfl
theorem addR_keys (D : List (Int × Nat)) (x : Int) (c : Nat) : (addR D x c).map (·.1) = if x ∈ D.map (·.1) then D.map (·.1) else D.map (·.1) ++ [x] := by
  induction D with
  | nil => rfl
  | cons p r ih =>
    unfold addR
    by_cases e : p.1 = x
    · rw [if_pos e, if_pos (by rw [List.map_cons, e]; exact List.mem_cons_self ..)]
      rfl
    · rw [if_neg e, List.map_cons, ih, List.map_cons]
      by_cases hx : x ∈ r.map (·.1)
      · rw [if_pos hx, if_pos (List.mem_cons_of_mem _ hx)]
      · rw [if_neg hx, if_neg (by rw [List.mem_cons, not_or]; exact ⟨fun z => e z.symm, hx⟩)]
        rfl
theorem addR_nodup {D : List (Int × Nat)} (nd : (D.map (·.1)).Nodup) (x : Int) (c : Nat) : ((addR D x c).map (·.1)).Nodup := by
  rw [addR_keys]
  split
  · exact nd
  · rename_i h
    rw [List.nodup_append]
    refine ⟨nd, by simp, fun a ha b hb => ?_⟩
    rw [List.mem_singleton] at hb
    subst hb
    exact fun z => h (z ▸ ha)
theorem addR_pos {D : List (Int × Nat)} (h : ∀ p ∈ D, 1 ≤ p.2) (x : Int) {c : Nat} (hc : 1 ≤ c) : ∀ p ∈ addR D x c, 1 ≤ p.2 := by
  induction D with
  | nil =>
    intro p hp
    rw [addR, List.mem_singleton] at hp
    subst hp
    exact hc
  | cons q r ih =>
    unfold addR
    intro p hp
    split at hp
    · rcases List.mem_cons.mp hp with rfl | hp
      · show 1 ≤ q.2 + c
        omega
      · exact h p (List.mem_cons_of_mem _ hp)
    · rcases List.mem_cons.mp hp with rfl | hp
      · exact h _ (List.mem_cons_self ..)
      · exact ih (fun z hz => h z (List.mem_cons_of_mem _ hz)) p hp
/-- all that D says, weighed -/
def wD (D : List (Int × Nat)) (f : Int → Nat) : Nat := (D.map fun p => p.2 * f p.1).sum
theorem wD_cons (p : Int × Nat) (r : List (Int × Nat)) (f : Int → Nat) : wD (p :: r) f = p.2 * f p.1 + wD r f := rfl
theorem wD_addR (D : List (Int × Nat)) (x : Int) (c : Nat) (f : Int → Nat) : wD (addR D x c) f = wD D f + c * f x := by
  induction D with
  | nil =>
    show c * f x + 0 = 0 + c * f x
    omega
  | cons p r ih =>
    unfold addR
    split
    · rename_i e
      rw [wD_cons, wD_cons]
      show (p.2 + c) * f p.1 + wD r f = _
      rw [Nat.add_mul, e]
      omega
    · rw [wD_cons, wD_cons, ih]
      omega
/-- a dict of how many: each key once, none of none -/
structure OkD (D : List (Int × Nat)) : Prop where
  nd : (D.map (·.1)).Nodup
  ps : ∀ p ∈ D, 1 ≤ p.2
theorem OkD.add {D : List (Int × Nat)} (h : OkD D) (x : Int) {c : Nat} (hc : 1 ≤ c) : OkD (addR D x c) := ⟨addR_nodup h.nd x c, addR_pos h.ps x hc⟩
theorem OkD.nil : OkD [] := ⟨List.nodup_nil, fun _ z => nomatch z⟩
theorem OkD.len {D : List (Int × Nat)} (h : OkD D) : D.length ≤ wD D fun _ => 1 := by
  have key : ∀ l : List (Int × Nat), (∀ p ∈ l, 1 ≤ p.2) → l.length ≤ wD l fun _ => 1 := by
    intro l
    induction l with
    | nil => intro _; exact Nat.zero_le _
    | cons p r ih =>
      intro hp
      have h1 := hp p (List.mem_cons_self ..)
      have h2 := ih fun q hq => hp q (List.mem_cons_of_mem _ hq)
      rw [wD_cons, List.length_cons]
      omega
  exact key D h.ps
theorem wD_mem {D : List (Int × Nat)} {p : Int × Nat} (h : p ∈ D) (f : Int → Nat) : p.2 * f p.1 ≤ wD D f := by
  induction D with
  | nil => cases h
  | cons q r ih =>
    rw [wD_cons]
    rcases List.mem_cons.mp h with rfl | h
    · omega
    · have := ih h
      omega
/-- D tells how often each number stands in L -/
structure Cnt2 (D : List (Int × Nat)) (L : List Int) : Prop extends OkD D where
  eq : ∀ f : Int → Nat, wD D f = (L.map f).sum
theorem sum_ones (L : List Int) : (L.map fun _ => 1).sum = L.length := by
  induction L with
  | nil => rfl
  | cons a L ih => rw [List.map_cons, List.sum_cons, ih, List.length_cons]; omega
theorem Cnt2.len {D : List (Int × Nat)} {L : List Int} (h : Cnt2 D L) : D.length ≤ L.length := by
  have := h.toOkD.len
  rw [h.eq, sum_ones] at this
  exact this
theorem Cnt2.le {D : List (Int × Nat)} {L : List Int} (h : Cnt2 D L) {p : Int × Nat} (hp : p ∈ D) : p.2 ≤ L.length := by
  have := wD_mem hp fun _ => 1
  rw [h.eq, sum_ones] at this
  simpa using this
theorem sum_ind (L : List Int) (x : Int) : (L.map fun y => if y = x then 1 else 0).sum = L.count x := by
  induction L with
  | nil => rfl
  | cons a L ih =>
    rw [List.map_cons, List.sum_cons, ih, List.count_cons]
    by_cases e : a = x
    · subst e; simp; omega
    · simp [e]
theorem wD_key {D : List (Int × Nat)} (nd : (D.map (·.1)).Nodup) {p : Int × Nat} (hp : p ∈ D) : wD D (fun y => if y = p.1 then 1 else 0) = p.2 := by
  have zero : ∀ (l : List (Int × Nat)) (x : Int), x ∉ l.map (·.1) → wD l (fun y => if y = x then 1 else 0) = 0 := by
    intro l x
    induction l with
    | nil => intro _; rfl
    | cons q r ih =>
      intro h
      rw [List.map_cons, List.mem_cons, not_or] at h
      rw [wD_cons, ih h.2, if_neg (fun z => h.1 z.symm)]
      omega
  induction D with
  | nil => cases hp
  | cons q r ih =>
    rw [List.map_cons, List.nodup_cons] at nd
    rw [wD_cons]
    rcases List.mem_cons.mp hp with rfl | hp
    · rw [zero r p.1 nd.1, if_pos rfl]
      omega
    · have ne : ¬ q.1 = p.1 := fun z => nd.1 (by rw [z]; exact List.mem_map.mpr ⟨p, hp, rfl⟩)
      rw [ih nd.2 hp, if_neg ne]
      omega
theorem Cnt2.count {D : List (Int × Nat)} {L : List Int} (h : Cnt2 D L) {p : Int × Nat} (hp : p ∈ D) : p.2 = L.count p.1 := by
  rw [← wD_key h.nd hp, h.eq, sum_ind]
theorem Cnt2.mem {D : List (Int × Nat)} {L : List Int} (h : Cnt2 D L) (x : Int) : x ∈ D.map (·.1) ↔ x ∈ L := by
  constructor
  · intro hx
    obtain ⟨p, hp, rfl⟩ := List.mem_map.mp hx
    have h1 := h.count hp
    have h2 := h.ps p hp
    exact List.count_pos_iff.mp (by omega)
  · intro hx
    have h1 := h.eq fun y => if y = x then 1 else 0
    rw [sum_ind] at h1
    have h2 := List.count_pos_iff.mpr hx
    have key : ∀ l : List (Int × Nat), 0 < wD l (fun y => if y = x then 1 else 0) → x ∈ l.map (·.1) := by
      intro l
      induction l with
      | nil => intro z; exact absurd z (Nat.lt_irrefl 0)
      | cons q r ih =>
        intro z
        rw [wD_cons] at z
        by_cases e : q.1 = x
        · rw [List.map_cons, e]; exact List.mem_cons_self ..
        · rw [if_neg e] at z
          rw [List.map_cons]
          exact List.mem_cons_of_mem _ (ih (by omega))
    exact key D (by omega)
/-- a dict with a number each time -/
theorem Cnt2.one : Cnt2 [(0, 1)] [0] := ⟨⟨by simp, fun p hp => by rw [List.mem_singleton] at hp; subst hp; decide⟩, fun f => by
  rw [wD_cons]
  show 1 * f 0 + 0 = f 0 + 0
  omega⟩

/-! ### sums of all ways -/
def sumsW (r : R) (n : Nat) : List Int := (waysN n).map r.sum
/-- the sums by the first c splits of n -/
def nextS (r : R) (n c : Nat) : List Int := (List.range c).flatMap fun j => (sumsW r (j + 1)).flatMap fun a => (sumsW r (n - (j + 1))).map fun b => a + b + r.pts ((j + 1 : Nat) : Int) ((n - (j + 1) : Nat) : Int)
theorem sumsW_step (r : R) {n : Nat} (h : 2 ≤ n) : sumsW r n = nextS r n (n - 1) := by
  unfold sumsW nextS
  rw [waysN_step h, List.map_flatMap]
  have cong : ∀ (l : List Nat) (f g : Nat → List Int), (∀ x ∈ l, f x = g x) → l.flatMap f = l.flatMap g := fun l f g hfg => by
    induction l with
    | nil => rfl
    | cons x l ih => rw [List.flatMap_cons, List.flatMap_cons, hfg x (List.mem_cons_self ..), ih fun y hy => hfg y (List.mem_cons_of_mem _ hy)]
  refine cong _ _ _ fun j hj => ?_
  have hj' := List.mem_range.mp hj
  unfold pairs sumsW
  rw [List.map_flatMap, List.flatMap_map]
  have cong2 : ∀ (l : List Wy) (f g : Wy → List Int), (∀ x ∈ l, f x = g x) → l.flatMap f = l.flatMap g := fun l f g hfg => by
    induction l with
    | nil => rfl
    | cons x l ih => rw [List.flatMap_cons, List.flatMap_cons, hfg x (List.mem_cons_self ..), ih fun y hy => hfg y (List.mem_cons_of_mem _ hy)]
  refine cong2 _ _ _ fun a ha => ?_
  rw [List.map_map, List.map_map]
  refine List.map_congr_left fun b hb => ?_
  have h1 := ways_things (j + 1) (by omega) a ha
  have h2 := ways_things (n - (j + 1)) (by omega) b hb
  show r.sum (.two a b) = r.sum a + r.sum b + _
  rw [R.sum_two, h1, h2]
  omega
theorem nextS_succ (r : R) (n c : Nat) : nextS r n (c + 1) = nextS r n c ++ (sumsW r (c + 1)).flatMap fun a => (sumsW r (n - (c + 1))).map fun b => a + b + r.pts ((c + 1 : Nat) : Int) ((n - (c + 1) : Nat) : Int) := by
  unfold nextS
  rw [List.range_succ, List.flatMap_append]
  simp
theorem nextS_le (r : R) (n : Nat) {c m : Nat} (h : c ≤ m) : (nextS r n c).length ≤ (nextS r n m).length := by
  induction m with
  | zero => rw [Nat.le_zero.mp h]; exact Nat.le_refl _
  | succ m ih =>
    by_cases e : c = m + 1
    · rw [e]; exact Nat.le_refl _
    · rw [nextS_succ, List.length_append]
      have := ih (by omega)
      omega
theorem flat_len {α β γ : Type} (A : List α) (B : List β) (f : α → β → γ) : (A.flatMap fun a => B.map (f a)).length = A.length * B.length := by
  induction A with
  | nil => simp
  | cons a A ih => rw [List.flatMap_cons, List.length_append, ih, List.length_map, List.length_cons, Nat.succ_mul]; omega
theorem sumsW_len (r : R) {n : Nat} (h : 1 ≤ n) : (sumsW r n).length = cat n := by
  unfold sumsW
  rw [List.length_map, ways_len n h]
theorem cat10 : ∀ n, n ≤ 10 → cat n ≤ 4862 := by decide +kernel
theorem flat_sum {α β : Type} (A : List α) (B : List β) (g : α → β → Int) (f : Int → Nat) : ((A.flatMap fun a => B.map (g a)).map f).sum = (A.map fun a => (B.map fun b => f (g a b)).sum).sum := by
  induction A with
  | nil => rfl
  | cons a A ih => rw [List.flatMap_cons, List.map_append, List.sum_append, ih, List.map_map, List.map_cons, List.sum_cons]; rfl
theorem wD_take {D : List (Int × Nat)} {i : Nat} {p : Int × Nat} (h : D[i]? = some p) (f : Int → Nat) : wD (D.take (i + 1)) f = wD (D.take i) f + p.2 * f p.1 := by
  unfold wD
  rw [take_succ h, List.map_append, List.sum_append]
  simp
theorem wD_all (D : List (Int × Nat)) (f : Int → Nat) : wD (D.take D.length) f = wD D f := by rw [List.take_length]
theorem wD_congr {D : List (Int × Nat)} {f g : Int → Nat} (h : ∀ x, f x = g x) : wD D f = wD D g := by rw [show f = g from funext h]
theorem wD_mul (D : List (Int × Nat)) (c : Nat) (f : Int → Nat) : c * wD D f = wD D fun x => c * f x := by
  induction D with
  | nil => rfl
  | cons p r ih => rw [wD_cons, wD_cons, Nat.mul_add, ih, Nat.mul_left_comm]
theorem kvD_get {D : List (Int × Nat)} {i : Nat} {k : Key} {v : V} (h : (kvD D)[i]? = some (k, v)) : ∃ p, D[i]? = some p ∧ k = .inl p.1 ∧ v = .int (p.2 : Int) := by
  unfold kvD at h
  rw [List.getElem?_map] at h
  obtain ⟨p, hp, e⟩ := Option.map_eq_some_iff.mp h
  cases e
  exact ⟨p, hp, rfl, rfl⟩
theorem kvD_len (D : List (Int × Nat)) : (kvD D).length = D.length := List.length_map ..
theorem addR_len (D : List (Int × Nat)) (x : Int) (c : Nat) : (addR D x c).length ≤ D.length + 1 := by
  induction D with
  | nil => exact Nat.le_refl _
  | cons p r ih =>
    unfold addR
    split
    · rw [List.length_cons, List.length_cons]; omega
    · rw [List.length_cons, List.length_cons]; omega
/-- the innermost loop -/
theorem sums_inner (Γ : Gm) {v fo : V} {n size first m one : Int} {many : Nat} {p d2 : Addr} {od : Obj} {D D2 : List (Int × Nat)} {x9 x10 x11 : Option V} {H6 : Hp} {nx : St → Hp → Prop} {rt : VK}
    (hp : H6 p = some (.dK (kvD D))) (hd : H6 d2 = some (.frz od (.dK (kvD D2)))) (o : OkD D) (o2 : OkD D2) (hm : 1 ≤ many) (hm2 : many ≤ 5000) (hc : ∀ q ∈ D2, q.2 ≤ 5000) (hz : D.length + D2.length ≤ 90000)
    (fin : ∀ x9 x10 x11 H' D', But p H6 H' → H' p = some (.dK (kvD D')) → OkD D' → D'.length ≤ D.length + D2.length → (∀ f : Int → Nat, wD D' f = wD D f + many * wD D2 fun b => f (one + b + m)) →
      nx [some v, some (.int n), some fo, some (.int size), some (.ref p), some (.int first), some (.int m), some (.int one), some (.int many), x9, x10, x11] H') :
    forK (Iti d2 od (kvD D2)) (gTup Γ.K 2 (gCons (gName 9) (gCons (gName 10) gNil))) (tSeq (tAsg (tOp (rAddU Γ.K) (tOp (rAddU Γ.K) (tVar 7) (tVar 9)) (tVar 6)) (gName 11))
  (tAsg (tOp (rAddU Γ.K) (tDGet2 (tVar 4) (tVar 11) (tC (.int 0))) (tOp (rMulU Γ.K) (tVar 8) (tVar 10))) (gSub (tVar 4) (tVar 11) rSetD))) nx rt
      [some v, some (.int n), some fo, some (.int size), some (.ref p), some (.int first), some (.int m), some (.int one), some (.int many), x9, x10, x11] H6 := by
  have ne : d2 ≠ p := fun z => by subst z; rw [hp] at hd; cases hd
  refine k_items (fun l σ H' => ∃ x9 x10 x11 D', σ = [some v, some (.int n), some fo, some (.int size), some (.ref p), some (.int first), some (.int m), some (.int one), some (.int many), x9, x10, x11] ∧ But p H6 H' ∧ H' p = some (.dK (kvD D')) ∧ OkD D' ∧ D'.length ≤ D.length + l ∧ l ≤ D2.length ∧
    ∀ f : Int → Nat, wD D' f = wD D f + many * wD (D2.take l) fun b => f (one + b + m)) ⟨x9, x10, x11, D, rfl, But.refl _, hp, o, Nat.le_refl _, Nat.zero_le _, fun f => by show _ = _ + many * 0; omega⟩ (fun l σ H' _ ⟨_, _, _, _, _, b, _⟩ => b _ _ ne hd) ?_ ?_
  · rintro l k u σ H7 T hkv ⟨x9', x10', x11', D', rfl, b7, g7, o7, l7, _, w7⟩ fT
    obtain ⟨q, hq, rfl, rfl⟩ := kvD_get hkv
    have lt : l < D2.length := (List.getElem?_eq_some_iff.mp hq).1
    have nT : p ≠ T := ne_of_none g7 fT
    have g8 : (upd H7 T (.tup [.int q.1, .int (q.2 : Int)])) p = some (.dK (kvD D')) := by rw [upd_ne nT]; exact g7
    have b8 : But p H6 (upd H7 T (.tup [.int q.1, .int (q.2 : Int)])) := b7.trans (Same.new fT).butD
    have hq1 := o2.ps q (List.mem_of_getElem? hq)
    have hq2 := hc q (List.mem_of_getElem? hq)
    show gTup Γ.K 2 _ (.ref T) _ (upd H7 T (.tup [.int q.1, .int (q.2 : Int)])) _
    refine w_gTup (SqT.of upd_same) rfl ?_
    generalize upd H7 T (.tup [.int q.1, .int (q.2 : Int)]) = H8 at g8 b8 ⊢
    walk_at "ss"
    show tDGet2 (tVar 4) (tVar 11) (tC (.int 0)) _ _ _
    refine w_dget2 ?_
    walk_at "ss"
    refine ⟨p, rfl, .inl ⟨_, .of g8⟩, ?_⟩
    walk_at "ss"
    refine ⟨_, DGet.k (k := .inl (one + q.1 + m)) g8, ?_⟩
    rw [getN_val]
    walk_at "ss"
    rw [show ((getN D' (one + q.1 + m) : Nat) : Int) + (many : Int) * (q.2 : Int) = ((getN D' (one + q.1 + m) + many * q.2 : Nat) : Int) by rw [Int.natCast_add, Int.natCast_mul]]
    refine w_setD g8 (by rw [kvD_len]; omega) ?_
    rw [put_addR o7.nd]
    have al := addR_len D' (one + q.1 + m) (many * q.2)
    refine ⟨_, _, _, addR D' (one + q.1 + m) (many * q.2), rfl, b8.at, upd_same, o7.add _ (Nat.mul_pos hm hq1), by omega, lt, fun f => ?_⟩
    rw [wD_addR, w7, wD_take hq, Nat.mul_add, Nat.mul_assoc]
    omega
  · rintro σ H7 ⟨x9', x10', x11', D', rfl, b7, g7, o7, l7, _, w7⟩
    rw [kvD_len] at l7 w7
    exact fin _ _ _ _ D' b7 g7 o7 l7 fun f => by rw [w7, wD_all]
structure SI (r : R) (H : Hp) (L : Addr) (refs : List Addr) (Ds : List (List (Int × Nat))) : Prop where
  l : H L = some (.lst (refs.map V.ref))
  len : refs.length = Ds.length
  ne : ∀ a ∈ refs, a ≠ L
  at_ : ∀ (j : Nat) (D : List (Int × Nat)), Ds[j]? = some D → ∃ a, refs[j]? = some a ∧ H a = some (.dK (kvD D))
  ok : ∀ (j : Nat) (D : List (Int × Nat)), 1 ≤ j → Ds[j]? = some D → Cnt2 D (sumsW r j)
def sp_sums_by (Γ : Gm) : Sp := fun vs H Q _ => ∃ v r, ∃ n : Nat, vs = [v, .int n] ∧ RuleAt Γ H v r ∧ 1 ≤ n ∧ n ≤ 10 ∧ (n : Int) ≤ r.top ∧ ∀ L refs Ds H', Same H H' → SI r H' L refs Ds → Ds.length = n + 1 → Q (.ref L) H'
/-- sums_by: rule, heap, found, size, own, first, more, one, many, other, times, told -/
def t_sums_by (Γ : Gm) : TS := (tSeq (tAsg (tLst (tCons tDNewK (tCons (tDisp [((tC (.int 0)), (tC (.int 1)))]) tNil))) (gName 2))
  (tSeq (tFor (iRng2 (tCons (tC (.int 2)) (tCons (tOp (rAddU Γ.K) (tVar 1) (tC (.int 1))) tNil))) (gName 3) (tSeq (tAsg tDNewK (gName 4))
  (tSeq (tFor (iRng2 (tCons (tC (.int 1)) (tCons (tVar 3) tNil))) (gName 5) (tSeq (tAsg (tCal (sp_points_by Γ) E0 (tCons (tVar 0) (tCons (tVar 5) (tCons (tOp rSubI (tVar 3) (tVar 5)) tNil)))) (gName 6))
  (tLockM (tFor (iItems (tOp (rIx Γ.K) (tVar 2) (tVar 5))) (gTup Γ.K 2 (gCons (gName 7) (gCons (gName 8) gNil))) (tLockM (tFor (iItems (tOp (rIx Γ.K) (tVar 2) (tOp rSubI (tVar 3) (tVar 5)))) (gTup Γ.K 2 (gCons (gName 9) (gCons (gName 10) gNil))) (tSeq (tAsg (tOp (rAddU Γ.K) (tOp (rAddU Γ.K) (tVar 7) (tVar 9)) (tVar 6)) (gName 11))
  (tAsg (tOp (rAddU Γ.K) (tDGet2 (tVar 4) (tVar 11) (tC (.int 0))) (tOp (rMulU Γ.K) (tVar 8) (tVar 10))) (gSub (tVar 4) (tVar 11) rSetD)))))))))
  (tDrop (tBM Γ.K "list" rAppend (tVar 2) (tCons (tVar 4) tNil))))))
  (tRet (tVar 2))))
theorem rd_sums_by (Γ : Gm) (vs : List V) (H : Hp) (Q : VK) (E : XK) (h : sp_sums_by Γ vs H Q E) : t_sums_by Γ ⟨fun _ H' => Q .non H', Q, fun _ _ => False, fun _ _ => False⟩ (startN 12 vs) H := by
  obtain ⟨v, r, n, rfl, hr, h1, h10, htop, k⟩ := h
  unfold t_sums_by
  walk_at "ss"
  refine w_dnew fun q0 H1 f1 e1 g1 => ?_
  walk_at "ss"
  refine w_disp1 fun q1 H2 fq1 e2 g2 => ?_
  walk_at "ss"
  refine n_lst fun L H3 f3 e3 g3 => ?_
  walk_at "ss"
  refine k_rng2 (by omega) ?_
  have nl0 : q0 ≠ L := ne_of_none (e2 _ _ g1) f3
  have nl1 : q1 ≠ L := ne_of_none g2 f3
  have e03 := e1.trans (e2.trans e3)
  have nLH : H L = none := by
    cases e : H L with
    | none => rfl
    | some o => rw [(e1.trans e2) _ _ e] at f3; cases f3
  refine k_range (fun i σ H' => ∃ refs Ds x3 x4 x5 x6 x7 x8 x9 x10 x11, σ = [some v, some (.int n), some (.ref L), x3, x4, x5, x6, x7, x8, x9, x10, x11] ∧ Same H H' ∧ SI r H' L refs Ds ∧ Ds.length = i + 2) ⟨[q0, q1], [[], [(0, 1)]], none, none, none, none, none, none, none, none, none, rfl, e03, ⟨g3, rfl, fun a ha => ?_, fun j D hj => ?_, fun j D j1 hj => ?_⟩, rfl⟩ ?_ ?_
  · simp only [List.mem_cons, List.not_mem_nil, or_false] at ha
    rcases ha with rfl | rfl
    · exact nl0
    · exact nl1
  · match j, hj with
    | 0, hj =>
      cases hj
      exact ⟨q0, rfl, (e2.trans e3) _ _ g1⟩
    | 1, hj =>
      cases hj
      exact ⟨q1, rfl, e3 _ _ g2⟩
  · match j, hj with
    | 1, hj =>
      cases hj
      exact Cnt2.one
  · rintro i σ H4 hi ⟨refs, Ds, x3, x4, x5, x6, x7, x8, x9, x10, x11, rfl, e4, I, hDl⟩
    have hi' : i + 2 ≤ n := by omega
    have r4 := hr.mono e4
    have getd : ∀ j, 1 ≤ j → j < i + 2 → ∃ a D, refs[j]? = some a ∧ H4 a = some (.dK (kvD D)) ∧ Cnt2 D (sumsW r j) := fun j j1 hj => by
      obtain ⟨a, h1, h2⟩ := I.at_ j _ (List.getElem?_eq_getElem (by omega))
      exact ⟨a, _, h1, h2, I.ok j _ j1 (List.getElem?_eq_getElem (by omega))⟩
    have catb : ∀ j, 1 ≤ j → j < i + 2 → (sumsW r j).length ≤ 4862 := fun j j1 hj => by rw [sumsW_len r j1]; exact cat10 j (by omega)
    have total : ∀ c, c ≤ i + 1 → (nextS r (i + 2) c).length ≤ 4862 := fun c hc => by
      have := nextS_le r (i + 2) hc
      rw [← show i + 2 - 1 = i + 1 by omega, ← sumsW_step r (by omega), sumsW_len r (by omega)] at this
      exact Nat.le_trans this (cat10 _ (by omega))
    walk_at "ss"
    refine w_dnew fun p H5 f5 e5 g5 => ?_
    walk_at "ss"
    refine k_rng2 (by omega) ?_
    have nLp : L ≠ p := ne_of_none I.l f5
    refine k_range (fun c σ H' => ∃ D x5 x6 x7 x8 x9 x10 x11, σ = [some v, some (.int n), some (.ref L), some (.int (2 + (i : Int))), some (.ref p), x5, x6, x7, x8, x9, x10, x11] ∧ But p H5 H' ∧ H' p = some (.dK (kvD D)) ∧ OkD D ∧ D.length ≤ (nextS r (i + 2) c).length ∧ ∀ f : Int → Nat, wD D f = ((nextS r (i + 2) c).map f).sum)
      ⟨[], _, _, _, _, _, _, _, rfl, But.refl _, g5, OkD.nil, Nat.zero_le _, fun f => rfl⟩ ?_ ?_
    · rintro c σ H6 hc ⟨D, x5', x6', x7', x8', x9', x10', x11', rfl, b6, g6, o6, l6, w6⟩
      have hc' : c < i + 1 := by omega
      obtain ⟨d1, D1, rd1, gd1, C1⟩ := getd (c + 1) (by omega) (by omega)
      obtain ⟨d2, D2, rd2, gd2, C2⟩ := getd (i + 2 - (c + 1)) (by omega) (by omega)
      have n1 : d1 ≠ p := ne_of_none gd1 f5
      have n2 : d2 ≠ p := ne_of_none gd2 f5
      have L1 := C1.len
      have L2' := C2.len
      have cb1 := catb (c + 1) (by omega) (by omega)
      have cb2 := catb (i + 2 - (c + 1)) (by omega) (by omega)
      have tot := total (c + 1) (by omega)
      rw [nextS_succ, List.length_append, flat_len] at tot
      have e46 : But p H4 H6 := e5.butD.trans b6
      have r6 : RuleAt Γ H6 v r := b6.rule g5 (r4.mono e5)
      walk_at "ss"
      refine ⟨v, r, _, _, rfl, r6, by omega, by omega, by omega, fun H7 e7 => ?_⟩
      have b7 := b6.trans e7.butD
      have g7 := e7 _ _ g6
      have gL7 : H7 L = some (.lst (refs.map V.ref)) := e7 _ _ (e46 _ _ nLp I.l)
      have gd17 : H7 d1 = some (.dK (kvD D1)) := e7 _ _ (e46 _ _ n1 gd1)
      have gd27 : H7 d2 = some (.dK (kvD D2)) := e7 _ _ (e46 _ _ n2 gd2)
      rw [show (1 + (c : Int)) = ((c + 1 : Nat) : Int) by omega, show (2 + (i : Int) - ((c + 1 : Nat) : Int)) = ((i + 2 - (c + 1) : Nat) : Int) by omega]
      walk_at "ss"
      refine w_lockY d1 _ gd17 True.intro fun od1 => ?_
      refine w_for ?_
      refine w_items ?_
      have bL : ∀ {H'}, But p (upd H7 d1 (.frz od1 (.dK (kvD D1)))) H' → H' L = some (.lst (refs.map V.ref)) := fun {H'} b => b _ _ nLp (by rw [upd_ne (ne_of gL7 gd17 (fun z => nomatch z))]; exact gL7)
      walk_at "ss"
      refine w_ixL (SqL.of (bL (But.refl _))) (atI_of (x := .ref d1) (by omega) (by rw [List.getElem?_map, show ((c + 1 : Nat) : Int).toNat = c + 1 by omega, rd1]; rfl)) ?_
      refine ⟨d1, od1, kvD D1, rfl, upd_same, ?_⟩
      refine k_items (fun q σ H' => ∃ D' x7 x8 x9 x10 x11, σ = [some v, some (.int n), some (.ref L), some (.int (2 + (i : Int))), some (.ref p), some (.int ((c + 1 : Nat) : Int)), some (.int (r.pts ((c + 1 : Nat) : Int) ((i + 2 - (c + 1) : Nat) : Int))), x7, x8, x9, x10, x11] ∧ But p (upd H7 d1 (.frz od1 (.dK (kvD D1)))) H' ∧ H' p = some (.dK (kvD D')) ∧ OkD D' ∧ q ≤ D1.length ∧ D'.length ≤ (nextS r (i + 2) c).length + q * (sumsW r (i + 2 - (c + 1))).length ∧
        ∀ f : Int → Nat, wD D' f = ((nextS r (i + 2) c).map f).sum + wD (D1.take q) fun a => ((sumsW r (i + 2 - (c + 1))).map fun b => f (a + b + r.pts ((c + 1 : Nat) : Int) ((i + 2 - (c + 1) : Nat) : Int))).sum)
        ⟨D, _, _, _, _, _, rfl, But.refl _, (by rw [upd_ne (Ne.symm n1)]; exact g7), o6, Nat.zero_le _, by omega, fun f => by rw [w6]; rfl⟩ (fun q σ H' _ ⟨_, _, _, _, _, _, _, b, _⟩ => b _ _ n1 upd_same) ?_ ?_
      · rintro q kk u σ H8 T hkv ⟨D', x7', x8', x9', x10', x11', rfl, b8, g8, o8, q8, l8, w8⟩ fT
        obtain ⟨pq, hpq, rfl, rfl⟩ := kvD_get hkv
        have lt : q < D1.length := (List.getElem?_eq_some_iff.mp hpq).1
        have m1 := C1.ps pq (List.mem_of_getElem? hpq)
        have m2 := C1.le (List.mem_of_getElem? hpq)
        have nT : p ≠ T := ne_of_none g8 fT
        have g9 : (upd H8 T (.tup [.int pq.1, .int (pq.2 : Int)])) p = some (.dK (kvD D')) := by rw [upd_ne nT]; exact g8
        have b9 : But p (upd H7 d1 (.frz od1 (.dK (kvD D1)))) (upd H8 T (.tup [.int pq.1, .int (pq.2 : Int)])) := b8.trans (Same.new fT).butD
        have mulb : (q + 1) * (sumsW r (i + 2 - (c + 1))).length ≤ (sumsW r (c + 1)).length * (sumsW r (i + 2 - (c + 1))).length := Nat.mul_le_mul_right _ (by omega)
        rw [Nat.succ_mul] at mulb
        show gTup Γ.K 2 _ (.ref T) _ (upd H8 T (.tup [.int pq.1, .int (pq.2 : Int)])) _
        refine w_gTup (SqT.of upd_same) rfl ?_
        generalize upd H8 T (.tup [.int pq.1, .int (pq.2 : Int)]) = H9 at g9 b9 ⊢
        walk_at "ss"
        have step : ∀ {x9 x10 x11 H' D''}, But p H9 H' → H' p = some (.dK (kvD D'')) → OkD D'' → D''.length ≤ D'.length + D2.length → (∀ f : Int → Nat, wD D'' f = wD D' f + pq.2 * wD D2 fun b => f (pq.1 + b + r.pts ((c + 1 : Nat) : Int) ((i + 2 - (c + 1) : Nat) : Int))) →
            ∃ D' x7 x8 y9 y10 y11, [some v, some (.int n), some (.ref L), some (.int (2 + (i : Int))), some (.ref p), some (.int ((c + 1 : Nat) : Int)), some (.int (r.pts ((c + 1 : Nat) : Int) ((i + 2 - (c + 1) : Nat) : Int))), some (.int pq.1), some (.int (pq.2 : Int)), x9, x10, x11] = [some v, some (.int n), some (.ref L), some (.int (2 + (i : Int))), some (.ref p), some (.int ((c + 1 : Nat) : Int)), some (.int (r.pts ((c + 1 : Nat) : Int) ((i + 2 - (c + 1) : Nat) : Int))), x7, x8, y9, y10, y11] ∧ But p (upd H7 d1 (.frz od1 (.dK (kvD D1)))) H' ∧ H' p = some (.dK (kvD D')) ∧ OkD D' ∧ q + 1 ≤ D1.length ∧ D'.length ≤ (nextS r (i + 2) c).length + (q + 1) * (sumsW r (i + 2 - (c + 1))).length ∧
              ∀ f : Int → Nat, wD D' f = ((nextS r (i + 2) c).map f).sum + wD (D1.take (q + 1)) fun a => ((sumsW r (i + 2 - (c + 1))).map fun b => f (a + b + r.pts ((c + 1 : Nat) : Int) ((i + 2 - (c + 1) : Nat) : Int))).sum := by
          intro x9 x10 x11 H' D'' bb gg oo ll ww
          refine ⟨D'', _, _, _, _, _, rfl, b9.trans bb, gg, oo, lt, by rw [Nat.succ_mul]; omega, fun f => ?_⟩
          rw [ww, w8, wD_take hpq, C2.eq]
          omega
        have zb : D'.length + D2.length ≤ 90000 := by omega
        have cq : ∀ x ∈ D2, x.2 ≤ 5000 := fun x hx => by have := C2.le hx; omega
        have gL9 := bL b9
        by_cases e12 : d1 = d2
        · have gd29 : H9 d2 = some (.frz od1 (.dK (kvD D2))) := by
            rw [← e12]
            have ee : kvD D1 = kvD D2 := by
              rw [e12, gd27] at gd17
              have := Option.some.inj gd17
              injection this with this
              exact this.symm
            rw [← ee]
            exact b9 _ _ n1 upd_same
          refine w_lockN ?_
          refine w_for ?_
          refine w_items ?_
          walk_at "ss"
          refine w_ixL (SqL.of gL9) (atI_of (x := .ref d2) (by omega) (by rw [List.getElem?_map, show (2 + (i : Int) - ((c + 1 : Nat) : Int)).toNat = i + 2 - (c + 1) by omega, rd2]; rfl)) ?_
          refine ⟨d2, od1, kvD D2, rfl, gd29, ?_⟩
          refine sums_inner Γ g9 gd29 o8 C2.toOkD m1 (by omega) cq zb fun y9 y10 y11 H' D'' bb gg oo ll ww => ?_
          exact step bb gg oo ll ww
        · have gd29 : H9 d2 = some (.dK (kvD D2)) := b9 _ _ n2 (by rw [upd_ne (Ne.symm e12)]; exact gd27)
          refine w_lockY d2 _ gd29 True.intro fun od2 => ?_
          refine w_for ?_
          refine w_items ?_
          walk_at "ss"
          refine w_ixL (SqL.of (xs := refs.map V.ref) (by rw [upd_ne (ne_of gL9 gd29 (fun z => nomatch z))]; exact gL9)) (atI_of (x := .ref d2) (by omega) (by rw [List.getElem?_map, show (2 + (i : Int) - ((c + 1 : Nat) : Int)).toNat = i + 2 - (c + 1) by omega, rd2]; rfl)) ?_
          refine ⟨d2, od2, kvD D2, rfl, upd_same, ?_⟩
          refine sums_inner Γ (by rw [upd_ne (Ne.symm n2)]; exact g9) upd_same o8 C2.toOkD m1 (by omega) cq zb fun y9 y10 y11 H' D'' bb gg oo ll ww => ?_
          exact ⟨bb.locked n2, step (bb.unlock gd29 n2) (by rw [upd_ne (Ne.symm n2)]; exact gg) oo ll ww⟩
      · rintro σ H8 ⟨D', x7', x8', x9', x10', x11', rfl, b8, g8, o8, q8, l8, w8⟩
        rw [kvD_len] at l8 w8
        refine ⟨b8.locked n1, ?_⟩
        refine ⟨D', _, _, _, _, _, _, _, rfl, b7.trans (b8.unlock gd17 n1), (by rw [upd_ne (Ne.symm n1)]; exact g8), o8, ?_, fun f => ?_⟩
        · rw [nextS_succ, List.length_append, flat_len]
          have := Nat.mul_le_mul_right (sumsW r (i + 2 - (c + 1))).length L1
          omega
        · rw [w8, wD_all, C1.eq, nextS_succ, List.map_append, List.sum_append, flat_sum]
    · rintro σ H6 ⟨D, x5', x6', x7', x8', x9', x10', x11', rfl, b6, g6, o6, l6, w6⟩
      have ei : (2 + (i : Int) - 1).toNat = i + 1 := by omega
      rw [ei] at l6 w6
      have e46 : Same H4 H6 := But.same f5 e5 b6
      have gL6 := e46 _ _ I.l
      walk_at "ss"
      refine w_tyL gL6 ?_
      walk_at "ss"
      refine w_app gL6 (by rw [List.length_map, I.len]; omega) ?_
      have C : Cnt2 D (sumsW r (i + 2)) := ⟨o6, fun f => by rw [w6, sumsW_step r (by omega)]; rfl⟩
      refine ⟨refs ++ [p], Ds ++ [D], _, _, _, _, _, _, _, _, _, rfl, Same.mut (e4.trans e46) nLH, ⟨?_, ?_, fun a ha => ?_, fun j D' hj => ?_, fun j D' j1 hj => ?_⟩, by rw [List.length_append, hDl]; rfl⟩
      · rw [upd_same, List.map_append]
        rfl
      · rw [List.length_append, List.length_append, I.len]
        rfl
      · rcases List.mem_append.mp ha with ha | ha
        · exact I.ne a ha
        · rw [List.mem_singleton] at ha
          rw [ha]
          exact Ne.symm nLp
      · by_cases hj' : j < Ds.length
        · rw [List.getElem?_append_left hj'] at hj
          obtain ⟨a, h1, h2⟩ := I.at_ j D' hj
          have ha := I.ne a (List.mem_of_getElem? h1)
          refine ⟨a, by rw [List.getElem?_append_left (by rw [I.len]; exact hj')]; exact h1, ?_⟩
          rw [upd_ne ha]
          exact e46 _ _ h2
        · have lt := (List.getElem?_eq_some_iff.mp hj).1
          rw [List.length_append] at lt
          have ej : j = Ds.length := by simp only [List.length_cons, List.length_nil] at lt; omega
          subst ej
          rw [List.getElem?_append_right (Nat.le_refl _), Nat.sub_self] at hj
          cases hj
          refine ⟨p, by rw [List.getElem?_append_right (by rw [I.len]; exact Nat.le_refl _), I.len, Nat.sub_self]; rfl, ?_⟩
          rw [upd_ne (Ne.symm nLp)]
          exact g6
      · by_cases hj' : j < Ds.length
        · rw [List.getElem?_append_left hj'] at hj
          exact I.ok j D' j1 hj
        · have lt := (List.getElem?_eq_some_iff.mp hj).1
          rw [List.length_append] at lt
          have ej : j = Ds.length := by simp only [List.length_cons, List.length_nil] at lt; omega
          subst ej
          rw [List.getElem?_append_right (Nat.le_refl _), Nat.sub_self] at hj
          cases hj
          rw [hDl]
          exact C
  · rintro σ H4 ⟨refs, Ds, x3, x4, x5, x6, x7, x8, x9, x10, x11, rfl, e4, I, hDl⟩
    walk_at "ss"
    exact k L refs Ds H4 e4 I (by omega)

/-! ### all_sums -/
def setOf (L ms : List Int) : Prop := ms.Pairwise (· < ·) ∧ ∀ k, k ∈ ms ↔ k ∈ L
def cntD (L ms : List Int) : List PyData := ms.map fun x => .tuple [.int x, .int (L.count x : Nat)]
def sp_all_sums (Γ : Gm) : Sp := fun vs H Q E => ∃ v r, ∃ n : Nat, vs = [v, .int n] ∧ RuleAt Γ H v r ∧ 1 ≤ n ∧ n ≤ 40 ∧ (n : Int) ≤ r.top ∧ (10 < n → E (.ref Γ.cTooGreat) none H) ∧
  (n ≤ 10 → ∀ l xs ms H', Same H H' → H l = none → H' l = some (.lst xs) → setOf (sumsW r n) ms → TpAll H' xs (cntD (sumsW r n) ms) → Q (.ref l) H')
/-- all_sums: rule, heap, found, told -/
def t_all_sums (Γ : Gm) (E : XK) : TS := (tSeq (tDrop (tCal (sp_check_heap Γ) E (tCons (tVar 0) (tCons (tVar 1) (tCons (tC (.int 40)) tNil)))))
  (tSeq (tIfS (tTest (tOp rGt (tVar 1) (tC (.int 10)))) (tRaise Γ.cTooGreat (fun cls d _ H => E cls d H)) tNext)
  (tSeq (tAsg (tOp (rIx Γ.K) (tCal (sp_sums_by Γ) E0 (tCons (tVar 0) (tCons (tVar 1) tNil))) (tVar 1)) (gName 2))
  (tRet (tLc (iSeq Γ.K (tCB (rSortedI Γ.K) (tCons (tCB rListD (tCons (tVar 2) tNil)) tNil))) (gName 3) tYes (tTup (tCons (tVar 3) (tCons (tDGet (tVar 2) (tVar 3)) tNil))) [3])))))
theorem rd_all_sums (Γ : Gm) (vs : List V) (H : Hp) (Q : VK) (E : XK) (h : sp_all_sums Γ vs H Q E) : t_all_sums Γ E ⟨fun _ H' => Q .non H', Q, fun _ _ => False, fun _ _ => False⟩ (startN 4 vs) H := by
  obtain ⟨v, r, n, rfl, hr, h1, h40, ht, k1, k2⟩ := h
  unfold t_all_sums
  walk_at "ss"
  refine w_heap hr (by omega) (by omega) ht ?_
  walk_at "ss"
  by_cases h10 : 10 < n
  · rw [decide_eq_true (by omega)]
    walk_at "ss"
    exact k1 h10
  · rw [decide_eq_false (by omega)]
    walk_at "ss"
    refine ⟨v, r, n, rfl, hr, h1, by omega, ht, fun L refs Ds H1 e1 I hD => ?_⟩
    obtain ⟨d, rd, gd⟩ := I.at_ n _ (List.getElem?_eq_getElem (by omega))
    have C := I.ok n _ h1 (List.getElem?_eq_getElem (by omega))
    generalize Ds[n] = D at gd C
    walk_at "ss"
    refine w_ixL (SqL.of I.l) (atI_of (x := .ref d) (by omega) (by rw [List.getElem?_map, show ((n : Int)).toNat = n by omega, rd]; rfl)) ?_
    walk_at "ss"
    refine ⟨d, kvD D, rfl, gd, fun q fq => ?_⟩
    have e2 := Same.new (o := .lst ((kvD D).map fun kv => kV kv.1)) fq
    have g2 : (upd H1 q (.lst ((kvD D).map fun kv => kV kv.1))) q = some (.lst ((D.map (·.1)).map V.int)) := by rw [upd_same, keysD]
    generalize upd H1 q (.lst ((kvD D).map fun kv => kV kv.1)) = H2 at e2 g2 ⊢
    walk_at "ss"
    refine ⟨q, D.map (·.1), rfl, SqL.of g2, fun ms p pm srt fp => ?_⟩
    have e3 := Same.new (o := .lst (ms.map V.int)) fp
    have g3 : (upd H2 p (.lst (ms.map V.int))) p = some (.lst (ms.map V.int)) := upd_same
    generalize upd H2 p (.lst (ms.map V.int)) = H3 at e3 g3 ⊢
    have so : setOf (sumsW r n) ms := ⟨L2.lt_of_le_nodup _ srt (pm.nodup_iff.mpr C.nd), fun x => by rw [pm.mem_iff, C.mem]⟩
    have gd3 := (e2.trans e3) _ _ gd
    refine k_seqL (SqL.of g3) ?_
    refine k_lcList (fun i acc H' => TpAll H' acc (cntD (sumsW r n) (ms.take i))) (SqL.of g3) (fun _ _ => .nil) ?_ ?_
    · rintro i x B acc H4 hx hB e4 hacc tacc
      rw [List.getElem?_map] at hx
      obtain ⟨m, hm, rfl⟩ := Option.map_eq_some_iff.mp hx
      have hmem : m ∈ D.map (·.1) := pm.mem_iff.mp (List.mem_of_getElem? hm)
      obtain ⟨pr, hpr, rfl⟩ := List.mem_map.mp hmem
      have al := tacc.length
      have dl := C.len
      rw [sumsW_len r h1] at dl
      have := cat10 n (by omega)
      have ml : ms.length = D.length := by rw [pm.length_eq, List.length_map]
      unfold cntD at al
      rw [List.length_map, List.length_take] at al
      walk_at "ss"
      refine ⟨rfl, ?_⟩
      walk_at "ss"
      refine w_dget ?_
      walk_at "ss"
      refine ⟨d, .int (pr.2 : Nat), rfl, ?_, ?_⟩
      · have gg := DGet.k (k := .inl pr.1) (e4 _ _ gd3)
        rw [valV_mem C.nd hpr] at gg
        exact gg
      walk_at "ss"
      refine n_tup fun u H5 f5 e5 g5 => ?_
      have d5 := e5 _ _ hacc
      have u5 : Tups H5 (upd H5 B (.lst (acc ++ [.ref u]))) := (Same.refl H5).tups.upd (fun xs z => by rw [d5] at z; cases z)
      refine lcTurn.mk hB (e4.trans e5) d5 (by omega) ?_
      rw [take_succ hm]
      unfold cntD
      rw [List.map_append]
      refine (tacc.mono (e5.tups.trans u5)).append (.cons (.tup (u5 _ _ g5) (.cons (.int _) (.cons ?_ .nil))) .nil)
      rw [← C.count hpr]
      exact .int _
    · rintro B acc H4 hB e4 hacc tacc
      rw [List.length_map, List.take_length] at tacc
      have e14 := e1.trans (e2.trans (e3.trans e4))
      refine k2 (by omega) B acc ms H4 e14 ?_ hacc so tacc
      cases hh : H B with
      | none => rfl
      | some o => rw [(e1.trans (e2.trans e3)) _ _ hh] at hB; cases hB

/-! ### k26: known rules, the plain part -/
def rP : R := .trm [(1, 1, 1)]
def rF : R := .trm [(1, 1, 0)]
def rT : R := .tab [[1, 3], [3]]
def rV : R := .tab [[1, 3], [2]]
theorem rP_ok : rP.ok := ⟨by decide, fun t ht => by rw [List.mem_singleton] at ht; subst ht; exact ⟨by decide, by decide, by decide, by decide⟩⟩
theorem rF_ok : rF.ok := ⟨by decide, fun t ht => by rw [List.mem_singleton] at ht; subst ht; exact ⟨by decide, by decide, by decide, by decide⟩⟩
theorem tab2_ok (x : Int) (h : -1000000 ≤ x ∧ x ≤ 1000000) : (R.tab [[1, 3], [x]]).ok := by
  refine ⟨by show 1 ≤ 2; decide, by show 2 < 40; decide, fun i r hr => ?_⟩
  match i, hr with
  | 0, hr =>
    cases hr
    refine ⟨rfl, fun n hn => ?_⟩
    simp only [List.mem_cons, List.not_mem_nil, or_false] at hn
    omega
  | 1, hr =>
    cases hr
    refine ⟨rfl, fun n hn => ?_⟩
    simp only [List.mem_cons, List.not_mem_nil, or_false] at hn
    omega
theorem rP_clash : rP.clash = none := by decide +kernel
theorem rF_clash : rF.clash = some (1, 1, 1) := by decide +kernel
theorem rT_clash : rT.clash = none := by decide +kernel
theorem rP_lin : ∀ k, 2 * linS rP false k = (k : Int) * (k + 1)
  | 0 => rfl
  | k + 1 => by
    have e : linS rP false (k + 1) = linS rP false k + rP.pts ((k + 1 : Nat) : Int) 1 := rfl
    have p : ∀ x : Int, rP.pts x 1 = x := fun x => by
      show (List.map (fun t : Int × Nat × Nat => t.1 * x ^ t.2.1 * 1 ^ t.2.2) [(1, 1, 1)]).sum = x
      simp [Int.pow_succ]
    rw [e, Int.mul_add, rP_lin k, p]
    have : ((k + 1 : Nat) : Int) = (k : Int) + 1 := by omega
    rw [this]
    grind
theorem rF_lin : ∀ k, 2 * linS rF false k = (k : Int) * (k + 1)
  | 0 => rfl
  | k + 1 => by
    have e : linS rF false (k + 1) = linS rF false k + rF.pts ((k + 1 : Nat) : Int) 1 := rfl
    have p : ∀ x : Int, rF.pts x 1 = x := fun x => by
      show (List.map (fun t : Int × Nat × Nat => t.1 * x ^ t.2.1 * 1 ^ t.2.2) [(1, 1, 0)]).sum = x
      simp [Int.pow_succ]
    rw [e, Int.mul_add, rF_lin k, p]
    have : ((k + 1 : Nat) : Int) = (k : Int) + 1 := by omega
    rw [this]
    grind
/-! equal data -/
theorem ne_same {K : PySem.W.Frag} {H : Hp} {Q : VK} {x y : V} {d : PyData} (hx : Dv H x d) (hy : Dv H y d) (fd : flatN 45 d = true) (pd : pureD d = true) (q : Q (.bl false) H) : rNeU K x y H Q := by
  have dec : Decidable (d = d) := Classical.propDecidable _
  exact w_neD (dec := dec) hx hy fd fd pd pd (by rw [@decide_eq_true _ dec rfl]; exact q)
theorem eq_same {K : PySem.W.Frag} {H : Hp} {Q : VK} {x y : V} {d : PyData} (hx : Dv H x d) (hy : Dv H y d) (fd : flatN 45 d = true) (pd : pureD d = true) (q : Q (.bl true) H) : rEqU K x y H Q := by
  have dec : Decidable (d = d) := Classical.propDecidable _
  exact w_eqD (dec := dec) hx hy fd fd pd pd (by rw [@decide_eq_true _ dec rfl]; exact q)
theorem ne_int {K : PySem.W.Frag} {H : Hp} {Q : VK} {i j : Int} (e : i = j) (q : Q (.bl false) H) : rNeU K (.int i) (.int j) H Q := w_neI (by rw [decide_eq_true e]; exact q)
theorem eq_int {K : PySem.W.Frag} {H : Hp} {Q : VK} {i j : Int} (e : i = j) (q : Q (.bl true) H) : rEqU K (.int i) (.int j) H Q := w_eqI (by rw [decide_eq_true e]; exact q)
/-! tables that are known -/
def tabB (r : R) (s : Int) (gs : List Int) : Bool := decide (fAt gs 1 = 0) && (List.range (gs.length + 1)).all fun n => decide (n < 2) || ((List.range n).all (fun i => decide (i = 0) || decide (fAt gs n ≤ cand r s gs n i)) && (List.range n).any fun i => decide (1 ≤ i) && decide (fAt gs n = cand r s gs n i))
theorem tab_of {r : R} {s : Int} {gs : List Int} (h : tabB r s gs = true) : Tab r s gs := by
  unfold tabB at h
  obtain ⟨h1, h2⟩ := Bool.and_eq_true_iff.mp h
  have key : ∀ n, 2 ≤ n → n ≤ gs.length → ((List.range n).all (fun i => decide (i = 0) || decide (fAt gs n ≤ cand r s gs n i)) = true ∧ ((List.range n).any fun i => decide (1 ≤ i) && decide (fAt gs n = cand r s gs n i)) = true) := fun n n2 hn => by
    have := List.all_eq_true.mp h2 n (List.mem_range.mpr (by omega))
    rw [decide_eq_false (by omega), Bool.false_or] at this
    exact Bool.and_eq_true_iff.mp this
  refine ⟨of_decide_eq_true h1, fun n n2 hn i i1 i2 => ?_, fun n n2 hn => ?_⟩
  · have := List.all_eq_true.mp (key n n2 hn).1 i (List.mem_range.mpr i2)
    rw [decide_eq_false (by omega), Bool.false_or] at this
    exact of_decide_eq_true this
  · obtain ⟨i, hi, e⟩ := List.any_eq_true.mp (key n n2 hn).2
    obtain ⟨e1, e2⟩ := Bool.and_eq_true_iff.mp e
    exact ⟨i, of_decide_eq_true e1, List.mem_range.mp hi, of_decide_eq_true e2⟩
theorem tab_is {r : R} {s : Int} {gs gs' : List Int} (T : Tab r s gs) (T' : Tab r s gs') (hl : gs.length = gs'.length) : gs = gs' := by
  apply List.ext_getElem hl
  intro i h1 h2
  have e := tab_uniq T T' (n := i + 1) (by omega) (by omega) (by omega)
  unfold fAt at e
  rw [List.getD_eq_getElem?_getD, List.getD_eq_getElem?_getD, show i + 1 - 1 = i by omega, List.getElem?_eq_getElem h1, List.getElem?_eq_getElem h2] at e
  exact e
theorem tF4 : Tab rF 1 [0, 1, 2, 3] := tab_of (by decide +kernel)
theorem tG4 : Tab rF (-1) [0, -1, -3, -6] := tab_of (by decide +kernel)
theorem tG10 : Tab rF (-1) [0, -1, -3, -6, -10, -15, -21, -28, -36, -45] := tab_of (by decide +kernel)
theorem fwF4 : fwN rF 1 [0, 1, 2, 3] 45 4 = .two .one (.two .one (.two .one .one)) := by kernel_rfl
theorem fwG4 : fwN rF (-1) [0, -1, -3, -6] 45 4 = .two (.two (.two .one .one) .one) .one := by kernel_rfl
theorem toldF4 : toldW rF 4 [2, 1, 1] = [.two (.two .one .one) (.two .one .one)] := by kernel_rfl
theorem toldF3 : toldW rF 3 [5] = [] := by kernel_rfl
theorem turnF : (pathOf (.tuple [.int 0])).bind (turnAt (.two (.two .one .one) .one)) = some (.two .one (.two .one .one)) := by kernel_rfl
theorem data_one {w : Wy} (h : Wy.one.data = w.data) : w = .one := by
  cases w with
  | one => rfl
  | two a b => cases h
theorem data_eq : ∀ {v w : Wy}, v.data = w.data → w = v
  | .one, w, h => data_one h
  | .two a b, .one, h => by cases h
  | .two a b, .two c d, h => by
    have h' : PyData.tuple [a.data, b.data] = .tuple [c.data, d.data] := h
    injection h' with h'
    injection h' with h1 h2
    injection h2 with h2 _
    rw [data_eq h1, data_eq h2]
/-! even splits -/
theorem ev1 : evn rF 1 = 0 := evn_one _ (by decide)
theorem ev2 : evn rF 2 = 1 := by rw [evn_more _ (by decide), show 2 - 2 / 2 = 1 by decide, show 2 / 2 = 1 by decide, ev1]; decide +kernel
theorem ev3 : evn rF 3 = 3 := by rw [evn_more _ (by decide), show 3 - 3 / 2 = 2 by decide, show 3 / 2 = 1 by decide, ev1, ev2]; decide +kernel
theorem ev4 : evn rF 4 = 4 := by rw [evn_more _ (by decide), show 4 - 4 / 2 = 2 by decide, show 4 / 2 = 2 by decide, ev2]; decide +kernel
theorem ev5 : evn rF 5 = 7 := by rw [evn_more _ (by decide), show 5 - 5 / 2 = 3 by decide, show 5 / 2 = 2 by decide, ev2, ev3]; decide +kernel
theorem bet_last : betR rF "last" [0, -1, -3, -6, -10, -15, -21, -28, -36, -45] 10 = none := by
  unfold betR
  rw [List.find?_eq_none]
  intro h hh
  have b : ∀ h, 1 ≤ h → h ≤ 10 → ¬ linS rF false (h - 1) < 0 - fAt [0, -1, -3, -6, -10, -15, -21, -28, -36, -45] h := by
    have : ∀ h < 11, 1 ≤ h → ¬ linS rF false (h - 1) < 0 - fAt [0, -1, -3, -6, -10, -15, -21, -28, -36, -45] h := by decide +kernel
    exact fun h h1 h2 => this h (by omega) h1
  obtain ⟨z, hz, rfl⟩ := List.mem_map.mp hh
  have := List.mem_range.mp hz
  unfold betB sty
  rw [if_neg (by decide +kernel), show decide (("last" : Str) = "first") = false from by decide +kernel]
  exact fun q => b (z + 1) (by omega) (by omega) (of_decide_eq_true q)
theorem bet_even : betR rF "even" [0, -1, -3, -6, -10, -15, -21, -28, -36, -45] 10 = some 4 := by
  have l : (List.range 10).map (· + 1) = [1, 2, 3, 4, 5, 6, 7, 8, 9, 10] := by decide
  have s : ∀ n, sty rF "even" n = evn rF n := fun n => by unfold sty; rw [if_pos rfl]
  unfold betR
  rw [l]
  have b1 : betB rF "even" [0, -1, -3, -6, -10, -15, -21, -28, -36, -45] 1 = false := by unfold betB; rw [s, ev1]; decide +kernel
  have b2 : betB rF "even" [0, -1, -3, -6, -10, -15, -21, -28, -36, -45] 2 = false := by unfold betB; rw [s, ev2]; decide +kernel
  have b3 : betB rF "even" [0, -1, -3, -6, -10, -15, -21, -28, -36, -45] 3 = false := by unfold betB; rw [s, ev3]; decide +kernel
  have b4 : betB rF "even" [0, -1, -3, -6, -10, -15, -21, -28, -36, -45] 4 = true := by unfold betB; rw [s, ev4]; decide +kernel
  rw [List.find?_cons, b1, List.find?_cons, b2, List.find?_cons, b3, List.find?_cons, b4]
/-! the formula -/
theorem lineP : lineR rP false = [0, -1 / 2, 1 / 2, 0, 0, 0, 0] := by decide +kernel
theorem trimP {Rs : List Rat} (t : Trim (lineR rP false) Rs) : Rs = [0, -1 / 2, 1 / 2] := by
  obtain ⟨⟨k, e⟩, ne⟩ := t
  rw [lineP] at e
  have hl := congrArg List.length e
  simp only [List.length_append, List.length_replicate, List.length_cons, List.length_nil] at hl
  have at_ : ∀ i, i < 7 → ([0, -1 / 2, 1 / 2, 0, 0, 0, 0] : List Rat)[i]? = (Rs ++ List.replicate k 0)[i]? := fun i _ => by rw [e]
  have k4 : k ≤ 4 := by
    apply Classical.byContradiction
    intro h
    have := at_ 2 (by omega)
    rw [List.getElem?_append_right (by omega), List.getElem?_replicate, if_pos (by omega)] at this
    have z : (1 / 2 : Rat) = 0 := Option.some.inj this
    exact absurd z (by decide +kernel)
  have k4' : 4 ≤ k := by
    apply Classical.byContradiction
    intro h
    have lp : 0 < Rs.length := by omega
    have e1 : Rs = Rs.dropLast ++ [Rs.getLast (List.ne_nil_of_length_pos lp)] := (List.dropLast_concat_getLast _).symm
    refine ne _ _ e1 ?_
    have := at_ (Rs.length - 1) (by omega)
    have e2 : Rs[Rs.length - 1]? = some (Rs.getLast (List.ne_nil_of_length_pos lp)) := by rw [List.getElem?_eq_getElem (by omega), List.getLast_eq_getElem]
    rw [List.getElem?_append_left (by omega), e2] at this
    have z : Rs.length = 4 ∨ Rs.length = 5 ∨ Rs.length = 6 ∨ Rs.length = 7 := by omega
    rcases z with z | z | z | z <;> (rw [z] at this; exact (Option.some.inj (show some (0 : Rat) = some _ from this)).symm)
  have k5 : k = 4 := by omega
  subst k5
  have h3 : (Rs ++ List.replicate 4 0).take 3 = Rs := by rw [List.take_append_of_le_length (by omega), List.take_of_length_le (by omega)]
  rw [← h3, ← e]
  rfl
theorem ratP : ([0, -1 / 2, 1 / 2] : List Rat).map ratD = [.tuple [.int 0, .int 1], .tuple [.int (-1), .int 2], .tuple [.int 1, .int 2]] := by kernel_rfl
theorem allF4 : setOf (sumsW rF 4) [3, 4, 5, 6] := by
  refine ⟨by decide, fun k => ?_⟩
  have e : sumsW rF 4 = [3, 4, 4, 5, 6] ∨ ∃ l, sumsW rF 4 = l ∧ l.Perm [3, 4, 4, 5, 6] := .inr ⟨_, rfl, by decide +kernel⟩
  rcases e with e | ⟨l, e, p⟩
  · rw [e]; simp
  · rw [e, p.mem_iff]; simp
theorem cntF4 : cntD (sumsW rF 4) [3, 4, 5, 6] = [.tuple [.int 3, .int 1], .tuple [.int 4, .int 2], .tuple [.int 5, .int 1], .tuple [.int 6, .int 1]] := by
  have e : ∀ x ∈ [(3 : Int), 4, 5, 6], (sumsW rF 4).count x = ([3, 4, 4, 5, 6] : List Int).count x := by decide +kernel
  unfold cntD
  simp only [List.map_cons, List.map_nil]
  rw [e 3 (by simp), e 4 (by simp), e 5 (by simp), e 6 (by simp)]
  rfl
theorem cnt_least4 {cs : List Int} (hl : cs.length = 5) (C : Cnt rF 1 [0, 1, 2, 3] cs) : cs.getD 4 0 = 1 := by
  rw [← count_ways tF4 C 4 (by decide) (by decide) (by omega)]
  decide +kernel

/-! ### k26: known rules -/
theorem body_trm (a b c : Int) {H : Hp} {p q : Addr} {i j : Nat} (hb : b = i) (hc : c = j) (hp : H p = some (.tup [.int a, .int b, .int c])) (hq : H q = some (.tup [.ref p])) : Tp H (.ref q) (R.trm [(a, i, j)]).body := by
  subst hb hc
  exact .tup hq (.cons (.tup hp (.cons (.int _) (.cons (.int _) (.cons (.int _) .nil)))) .nil)
theorem body_tab {x : Int} {H : Hp} {p q t : Addr} (hp : H p = some (.tup [.int 1, .int 3])) (hq : H q = some (.tup [.int x])) (ht : H t = some (.tup [.ref p, .ref q])) : Tp H (.ref t) (R.tab [[1, 3], [x]]).body :=
  .tup ht (.cons (.tup hp (.cons (.int _) (.cons (.int _) .nil))) (.cons (.tup hq (.cons (.int _) .nil)) .nil))
theorem top_trm (ts : List (Int × Nat × Nat)) {n : Nat} (h : n ≤ 10000000000) : (n : Int) ≤ (R.trm ts).top := by
  show (n : Int) ≤ 1000000000000000000000000000000
  omega
def sp__law_sure_told (Γ : Gm) : Sp := fun vs H Q _ => vs = [] ∧ ∀ H', Same H H' → Q (.bl true) H'
/-- law_sure_told: _law_product, _law_first -/
def t__law_sure_told (Γ : Gm) : TS := (tSeq (tPar 0 1 (tCons (tMak Γ.cRule (sp_RuleU_initU Γ) E0 (tCons (tC (.str "terms")) (tCons (tTup (tCons (tTup (tCons (tC (.int 1)) (tCons (tC (.int 1)) (tCons (tC (.int 1)) tNil)))) tNil)) tNil))) (tCons (tMak Γ.cRule (sp_RuleU_initU Γ) E0 (tCons (tC (.str "terms")) (tCons (tTup (tCons (tTup (tCons (tC (.int 1)) (tCons (tC (.int 1)) (tCons (tC (.int 0)) tNil)))) tNil)) tNil))) tNil)))
  (tSeq (tIfS (tOr (tTest (tOp (rNeU Γ.K) (tCal (sp_points Γ) E0 (tCons (tVar 0) (tCons (tC (.int 3)) (tCons (tC (.int 4)) tNil)))) (tC (.int 12)))) (tOr (tTest (tOp rNotIsU (tCal (sp_clash Γ) E0 (tCons (tVar 0) tNil)) (tC .non))) (tTest (tOp (rNeU Γ.K) (tCal (sp_sure_sum Γ) E0 (tCons (tVar 0) (tCons (tC (.int 10)) tNil))) (tC (.int 45)))))) (tRet (tC (.bl false))) tNext)
  (tSeq (tIfS (tOr (tTest (tOp (rNeU Γ.K) (tCal (sp_formula Γ) E0 (tCons (tVar 0) tNil)) (tTup (tCons (tTup (tCons (tC (.int 0)) (tCons (tC (.int 1)) tNil))) (tCons (tTup (tCons (tUn (rU fun i => .int (-i)) (tC (.int 1))) (tCons (tC (.int 2)) tNil))) (tCons (tTup (tCons (tC (.int 1)) (tCons (tC (.int 2)) tNil))) tNil)))))) (tTest (tOp (rNeU Γ.K) (tCal (sp_sure_sum Γ) E0 (tCons (tVar 0) (tCons (tOp rPowI (tC (.int 10)) (tC (.int 10))) tNil))) (tC (.int 49999999995000000000))))) (tRet (tC (.bl false))) tNext)
  (tSeq (tIfS (tOr (tB (tCal (sp_is_sure Γ) E0 (tCons (tVar 1) tNil))) (tOr (tTest (tOp (rNeU Γ.K) (tCal (sp_clash Γ) E0 (tCons (tVar 1) tNil)) (tTup (tCons (tC (.int 3)) (tCons (tC (.int 1)) (tCons (tC (.int 1)) (tCons (tC (.int 1)) tNil))))))) (tOr (tTest (tOp rNotIsU (tCal (sp_formula Γ) E0 (tCons (tVar 1) tNil)) (tC .non))) (tTest (tOp (rNeU Γ.K) (tCal (sp_sure_sum Γ) E0 (tCons (tVar 1) (tCons (tC (.int 2)) tNil))) (tC (.int 1))))))) (tRet (tC (.bl false))) tNext)
  (tRet (tAndV (tOp rIsU (tCal (sp_clash Γ) E0 (tCons (tMak Γ.cRule (sp_RuleU_initU Γ) E0 (tCons (tC (.str "table")) (tCons (tTup (tCons (tTup (tCons (tC (.int 1)) (tCons (tC (.int 3)) tNil))) (tCons (tTup (tCons (tC (.int 3)) tNil)) tNil))) tNil))) tNil)) (tC .non)) (tOp (rEqU Γ.K) (tCal (sp_sure_sum Γ) E0 (tCons (tMak Γ.cRule (sp_RuleU_initU Γ) E0 (tCons (tC (.str "table")) (tCons (tTup (tCons (tTup (tCons (tC (.int 1)) (tCons (tC (.int 3)) tNil))) (tCons (tTup (tCons (tC (.int 3)) tNil)) tNil))) tNil))) (tCons (tC (.int 3)) tNil))) (tC (.int 4)))))))))
theorem rd__law_sure_told (Γ : Gm) (vs : List V) (H : Hp) (Q : VK) (E : XK) (h : sp__law_sure_told Γ vs H Q E) : t__law_sure_told Γ ⟨fun _ H' => Q .non H', Q, fun _ _ => False, fun _ _ => False⟩ (startN 2 vs) H := by
  obtain ⟨rfl, k⟩ := h
  unfold t__law_sure_told
  walk_at "ss"
  refine n_tup fun p1 H1 f1 e1 g1 => ?_
  walk_at "ss"
  refine n_tup fun q1 H2 f2 e2 g2 => ?_
  walk_at "ss"
  refine w_mkRule rP (body_trm 1 1 1 (i := 1) (j := 1) rfl rfl (e2 _ _ g1) g2) rP_ok (ruleOf_body rP_ok) fun pP H3 e3 rP3 => ?_
  walk_at "ss"
  refine n_tup fun p4 H4 f4 e4 g4 => ?_
  walk_at "ss"
  refine n_tup fun q5 H5 f5 e5 g5 => ?_
  walk_at "ss"
  refine w_mkRule rF (body_trm 1 1 0 (i := 1) (j := 0) rfl rfl (e5 _ _ g4) g5) rF_ok (ruleOf_body rF_ok) fun pF H6 e6 rF6 => ?_
  have rP6 := rP3.mono (e4.trans (e5.trans e6))
  have e06 := e1.trans (e2.trans (e3.trans (e4.trans (e5.trans e6))))
  walk_at "ss"
  refine ⟨.ref pP, rP, .int 3, .int 4, .int 3, .int 4, rfl, rP6, .int _, .int _, (fun z => absurd z (by decide +kernel)), fun _ H7 e7 => ?_⟩
  rw [show rP.pts (intD (.int 3)) (intD (.int 4)) = 12 from by decide +kernel]
  walk_at "ss"
  rw [decide_eq_true rfl]
  walk_at "ss"
  have rP7 := rP6.mono e7
  refine ⟨.ref pP, rP, rfl, rP7, fun x H8 e8 tx => ?_⟩
  walk_at "ss"
  rw [clash_isN tx, rP_clash, show (none : Option T3).isNone = true from rfl]
  walk_at "ss"
  have rP8 := rP7.mono e8
  refine ⟨.ref pP, rP, 10, rfl, rP8, by decide, top_trm _ (by decide), (fun t z => by rw [rP_clash] at z; cases z), fun H9 e9 => ?_⟩
  rw [show linS rP false (10 - 1) = 45 from by decide +kernel]
  walk_at "ss"
  rw [decide_eq_true rfl]
  walk_at "ss"
  have rP9 := rP8.mono e9
  refine ⟨.ref pP, rP, rfl, rP9, ⟨(fun ⟨_, z⟩ => by cases z), (fun ts _ z => absurd rP_clash z), fun ts _ _ pr xs Rs HA eA gA tA tr => ?_⟩⟩
  have eR := trimP tr
  subst eR
  walk_at "ss"
  refine n_tup fun u1 HB fB eB gB => ?_
  walk_at "ss"
  refine n_tup fun u2 HC fC eC gC => ?_
  walk_at "ss"
  refine n_tup fun u3 HD fD eD gD => ?_
  walk_at "ss"
  refine n_tup fun u4 HE fE eE gE => ?_
  have eAE := eB.trans (eC.trans (eD.trans eE))
  refine ne_same (d := .tuple [.tuple [.int 0, .int 1], .tuple [.int (-1), .int 2], .tuple [.int 1, .int 2]]) ?_ ?_ rfl rfl ?_
  · have t' : TpAll HE xs [.tuple [.int 0, .int 1], .tuple [.int (-1), .int 2], .tuple [.int 1, .int 2]] := by rw [← ratP]; exact tA.mono eAE.tups
    exact (Tp.tup (eAE _ _ gA) t').dv
  · exact (Tp.tup gE (.cons (.tup ((eC.trans (eD.trans eE)) _ _ gB) (.cons (.int _) (.cons (.int _) .nil))) (.cons (.tup ((eD.trans eE) _ _ gC) (.cons (.int _) (.cons (.int _) .nil))) (.cons (.tup (eE _ _ gD) (.cons (.int _) (.cons (.int _) .nil))) .nil)))).dv
  walk_at "ss"
  refine w_powI ⟨by decide, by decide, by decide⟩ ?_
  walk_at "ss"
  have rPE := rP9.mono (eA.trans eAE)
  refine ⟨.ref pP, rP, 10000000000, rfl, rPE, by decide, top_trm _ (by decide), (fun t z => by rw [rP_clash] at z; cases z), fun HF eF => ?_⟩
  rw [show linS rP false (10000000000 - 1) = 49999999995000000000 from by have := rP_lin (10000000000 - 1); rw [show ((10000000000 - 1 : Nat) : Int) = 9999999999 from rfl] at this; omega]
  walk_at "ss"
  rw [decide_eq_true rfl]
  walk_at "ss"
  have e6F := e7.trans (e8.trans (e9.trans (eA.trans (eAE.trans eF))))
  have rFF := rF6.mono e6F
  refine ⟨.ref pF, rF, rfl, rFF, fun HG eG => ?_⟩
  rw [rF_clash, show (some ((1, 1, 1) : T3)).isNone = false from rfl]
  walk_at "ss"
  refine ⟨.ref pF, rF, rfl, rFF.mono eG, fun y HH eH ty => ?_⟩
  rw [rF_clash] at ty
  walk_at "ss"
  refine n_tup fun v1 HI fI eI gI => ?_
  refine ne_same (d := .tuple [.int 3, .int 1, .int 1, .int 1]) ((show Tp HH y (.tuple [.int 3, .int 1, .int 1, .int 1]) from ty).mono eI.tups).dv (Tp.tup gI (.cons (.int _) (.cons (.int _) (.cons (.int _) (.cons (.int _) .nil))))).dv rfl rfl ?_
  walk_at "ss"
  have rFI := rFF.mono (eG.trans (eH.trans eI))
  refine ⟨.ref pF, rF, rfl, rFI, ⟨(fun ⟨_, z⟩ => by cases z), (fun ts _ _ HJ eJ => ?_), fun ts _ z => by rw [rF_clash] at z; cases z⟩⟩
  walk_at "ss"
  rw [decide_eq_true rfl]
  walk_at "ss"
  refine ⟨.ref pF, rF, 2, rfl, rFI.mono eJ, by decide, top_trm _ (by decide), (fun t z => by rw [rF_clash] at z; cases z; decide), fun HK eK => ?_⟩
  rw [show linS rF false (2 - 1) = 1 from by decide +kernel]
  walk_at "ss"
  rw [decide_eq_true rfl]
  walk_at "ss"
  refine n_tup fun a1 HL fL eL gL => ?_
  walk_at "ss"
  refine n_tup fun a2 HM fM eM gM => ?_
  walk_at "ss"
  refine n_tup fun a3 HN fN eN gN => ?_
  walk_at "ss"
  have ok3 := tab2_ok 3 (by decide)
  refine w_mkRule (R.tab [[1, 3], [3]]) (body_tab ((eM.trans eN) _ _ gL) (eN _ _ gM) gN) ok3 (ruleOf_body ok3) fun pT HO eO rTO => ?_
  walk_at "ss"
  refine ⟨.ref pT, rT, rfl, rTO, fun z HP eP tz => ?_⟩
  rw [rT_clash] at tz
  walk_at "ss"
  rw [clash_isN (c := none) tz, show (none : Option T3).isNone = true from rfl]
  walk_at "ss"
  refine n_tup fun b1 HQ fQ eQ gQ => ?_
  walk_at "ss"
  refine n_tup fun b2 HR fR eR gR => ?_
  walk_at "ss"
  refine n_tup fun b3 HS fS eS gS => ?_
  walk_at "ss"
  refine w_mkRule (R.tab [[1, 3], [3]]) (body_tab ((eR.trans eS) _ _ gQ) (eS _ _ gR) gS) ok3 (ruleOf_body ok3) fun pU HT eT rTT => ?_
  walk_at "ss"
  refine ⟨.ref pU, rT, 3, rfl, rTT, by decide, by decide +kernel, (fun t z => by rw [rT_clash] at z; cases z), fun HU eU => ?_⟩
  rw [show linS rT false (3 - 1) = 4 from by decide +kernel]
  walk_at "ss"
  rw [decide_eq_true rfl]
  exact k HU (e06.trans (e6F.trans (eG.trans (eH.trans (eI.trans (eJ.trans (eK.trans (eL.trans (eM.trans (eN.trans (eO.trans (eP.trans (eQ.trans (eR.trans (eS.trans (eT.trans eU))))))))))))))))
theorem way_tp {H : Hp} : ∀ {w : Wy}, ∀ {v : V}, Tp H v w.data → Tp H v w.data := fun h => h
theorem two_tp {H : Hp} {p : Addr} {x y : V} {a b : Wy} (h : H p = some (.tup [x, y])) (hx : Tp H x a.data) (hy : Tp H y b.data) : Tp H (.ref p) (Wy.two a b).data := .tup h (.cons hx (.cons hy .nil))
theorem one_tp {H : Hp} : Tp H (.int 1) Wy.one.data := .int 1
theorem ways_is {ds : List PyData} {H : Hp} {x : V} (h : Tp H x (.tuple ds)) : Dv H x (.tuple ds) := h.dv
def sp__law_extremes_told (Γ : Gm) : Sp := fun vs H Q _ => vs = [] ∧ ∀ H', Same H H' → Q (.bl true) H'
/-- law_extremes_told: _law_first -/
def t__law_extremes_told (Γ : Gm) : TS := (tSeq (tAsg (tMak Γ.cRule (sp_RuleU_initU Γ) E0 (tCons (tC (.str "terms")) (tCons (tTup (tCons (tTup (tCons (tC (.int 1)) (tCons (tC (.int 1)) (tCons (tC (.int 0)) tNil)))) tNil)) tNil))) (gName 0))
  (tSeq (tIfS (tOr (tTest (tOp (rNeU Γ.K) (tCal (sp_least Γ) E0 (tCons (tVar 0) (tCons (tC (.int 4)) tNil))) (tC (.int 3)))) (tOr (tTest (tOp (rNeU Γ.K) (tCal (sp_greatest Γ) E0 (tCons (tVar 0) (tCons (tC (.int 4)) tNil))) (tC (.int 6)))) (tTest (tOp (rNeU Γ.K) (tCal (sp_least_way Γ) E0 (tCons (tVar 0) (tCons (tC (.int 4)) tNil))) (tTup (tCons (tC (.int 1)) (tCons (tTup (tCons (tC (.int 1)) (tCons (tTup (tCons (tC (.int 1)) (tCons (tC (.int 1)) tNil))) tNil))) tNil))))))) (tRet (tC (.bl false))) tNext)
  (tSeq (tIfS (tOr (tTest (tOp (rNeU Γ.K) (tCal (sp_greatest_way Γ) E0 (tCons (tVar 0) (tCons (tC (.int 4)) tNil))) (tTup (tCons (tTup (tCons (tTup (tCons (tC (.int 1)) (tCons (tC (.int 1)) tNil))) (tCons (tC (.int 1)) tNil))) (tCons (tC (.int 1)) tNil))))) (tTest (tOp (rNeU Γ.K) (tCal (sp_count_least Γ) E0 (tCons (tVar 0) (tCons (tC (.int 4)) tNil))) (tC (.int 1))))) (tRet (tC (.bl false))) tNext)
  (tRet (tOp (rEqU Γ.K) (tCal (sp_all_sums Γ) E0 (tCons (tVar 0) (tCons (tC (.int 4)) tNil))) (tLst (tCons (tTup (tCons (tC (.int 3)) (tCons (tC (.int 1)) tNil))) (tCons (tTup (tCons (tC (.int 4)) (tCons (tC (.int 2)) tNil))) (tCons (tTup (tCons (tC (.int 5)) (tCons (tC (.int 1)) tNil))) (tCons (tTup (tCons (tC (.int 6)) (tCons (tC (.int 1)) tNil))) tNil))))))))))
theorem rd__law_extremes_told (Γ : Gm) (vs : List V) (H : Hp) (Q : VK) (E : XK) (h : sp__law_extremes_told Γ vs H Q E) : t__law_extremes_told Γ ⟨fun _ H' => Q .non H', Q, fun _ _ => False, fun _ _ => False⟩ (startN 1 vs) H := by
  obtain ⟨rfl, k⟩ := h
  unfold t__law_extremes_told
  walk_at "ss"
  refine n_tup fun p4 H4 f4 e4 g4 => ?_
  walk_at "ss"
  refine n_tup fun q5 H5 f5 e5 g5 => ?_
  walk_at "ss"
  refine w_mkRule rF (body_trm 1 1 0 (i := 1) (j := 0) rfl rfl (e5 _ _ g4) g5) rF_ok (ruleOf_body rF_ok) fun pF H6 e6 rF6 => ?_
  walk_at "ss"
  refine ⟨.ref pF, rF, 4, rfl, rF6, by decide, by decide, top_trm _ (by decide), fun gs H7 e7 hg T => ?_⟩
  have eg := tab_is T tF4 hg
  subst eg
  rw [show fAt [0, 1, 2, 3] 4 = 3 from rfl]
  walk_at "ss"
  rw [decide_eq_true rfl]
  walk_at "ss"
  have rF7 := rF6.mono e7
  refine ⟨.ref pF, rF, 4, rfl, rF7, by decide, by decide, top_trm _ (by decide), fun gs H8 e8 hg T => ?_⟩
  have eg := tab_is T tG4 hg
  subst eg
  rw [show 0 - fAt [0, -1, -3, -6] 4 = 6 from rfl]
  walk_at "ss"
  rw [decide_eq_true rfl]
  walk_at "ss"
  have rF8 := rF7.mono e8
  refine ⟨.ref pF, rF, 4, rfl, rF8, by decide, by decide, top_trm _ (by decide), fun gs y H9 e9 hg T ty => ?_⟩
  have eg := tab_is T tF4 hg
  subst eg
  rw [fwF4] at ty
  walk_at "ss"
  refine n_tup fun a1 HA fA eA gA => ?_
  walk_at "ss"
  refine n_tup fun a2 HB fB eB gB => ?_
  walk_at "ss"
  refine n_tup fun a3 HC fC eC gC => ?_
  refine ne_same (d := (Wy.two .one (.two .one (.two .one .one))).data) (ty.mono (eA.trans (eB.trans eC)).tups).dv (two_tp gC one_tp (two_tp (eC _ _ gB) one_tp (two_tp ((eB.trans eC) _ _ gA) one_tp one_tp))).dv rfl rfl ?_
  walk_at "ss"
  have rFC := rF8.mono (e9.trans (eA.trans (eB.trans eC)))
  refine ⟨.ref pF, rF, 4, rfl, rFC, by decide, by decide, top_trm _ (by decide), fun gs y HD eD hg T ty => ?_⟩
  have eg := tab_is T tG4 hg
  subst eg
  rw [fwG4] at ty
  walk_at "ss"
  refine n_tup fun b1 HE fE eE gE => ?_
  walk_at "ss"
  refine n_tup fun b2 HF fF eF gF => ?_
  walk_at "ss"
  refine n_tup fun b3 HG fG eG gG => ?_
  refine ne_same (d := (Wy.two (.two (.two .one .one) .one) .one).data) (ty.mono (eE.trans (eF.trans eG)).tups).dv (two_tp gG (two_tp (eG _ _ gF) (two_tp ((eF.trans eG) _ _ gE) one_tp one_tp) one_tp) one_tp).dv rfl rfl ?_
  walk_at "ss"
  have rFG := rFC.mono (eD.trans (eE.trans (eF.trans eG)))
  refine ⟨.ref pF, rF, 4, rfl, rFG, by decide, by decide, top_trm _ (by decide), fun gs cs HH eH hg T hc C => ?_⟩
  have eg := tab_is T tF4 hg
  subst eg
  rw [cnt_least4 hc C]
  walk_at "ss"
  rw [decide_eq_true rfl]
  walk_at "ss"
  have rFH := rFG.mono eH
  refine ⟨.ref pF, rF, 4, rfl, rFH, by decide, by decide, top_trm _ (by decide), (fun z => absurd z (by decide)), fun _ lI xI mI HI eI fI gI sI tI => ?_⟩
  have em : mI = [3, 4, 5, 6] := by
    have uq : ∀ {ms ns : List Int}, ms.Pairwise (· < ·) → ns.Pairwise (· < ·) → (∀ k, k ∈ ms ↔ k ∈ ns) → ms = ns := fun {ms ns} h1 h2 h => by
      have n1 : ms.Nodup := h1.imp fun a => by omega
      have n2 : ns.Nodup := h2.imp fun a => by omega
      have pm : ms.Perm ns := (List.perm_ext_iff_of_nodup n1 n2).mpr h
      exact pm.eq_of_pairwise (fun a b _ _ x y => by omega) h1 h2
    exact uq sI.1 allF4.1 fun x => by rw [sI.2, allF4.2]
  subst em
  rw [cntF4] at tI
  walk_at "ss"
  refine n_tup fun c1 HJ fJ eJ gJ => ?_
  walk_at "ss"
  refine n_tup fun c2 HK fK eK gK => ?_
  walk_at "ss"
  refine n_tup fun c3 HL fL eL gL => ?_
  walk_at "ss"
  refine n_tup fun c4 HM fM eM gM => ?_
  walk_at "ss"
  refine n_lst fun c5 HN fN eN gN => ?_
  have eIN := eJ.trans (eK.trans (eL.trans (eM.trans eN)))
  refine eq_same (d := .list [.tuple [.int 3, .int 1], .tuple [.int 4, .int 2], .tuple [.int 5, .int 1], .tuple [.int 6, .int 1]]) (.lst (eIN _ _ gI) (tI.mono eIN.tups).dv) (.lst gN ?_) rfl rfl ?_
  · exact (TpAll.cons (.tup ((eK.trans (eL.trans (eM.trans eN))) _ _ gJ) (.cons (.int _) (.cons (.int _) .nil))) (.cons (.tup ((eL.trans (eM.trans eN)) _ _ gK) (.cons (.int _) (.cons (.int _) .nil))) (.cons (.tup ((eM.trans eN) _ _ gL) (.cons (.int _) (.cons (.int _) .nil))) (.cons (.tup (eN _ _ gM) (.cons (.int _) (.cons (.int _) .nil))) .nil)))).dv
  exact k HN (e4.trans (e5.trans (e6.trans (e7.trans (e8.trans (e9.trans (eA.trans (eB.trans (eC.trans (eD.trans (eE.trans (eF.trans (eG.trans (eH.trans (eI.trans eIN)))))))))))))))
def sp__law_ways_told (Γ : Gm) : Sp := fun vs H Q _ => vs = [] ∧ ∀ H', Same H H' → Q (.bl true) H'
/-- law_ways_told: _law_first -/
def t__law_ways_told (Γ : Gm) : TS := (tSeq (tAsg (tMak Γ.cRule (sp_RuleU_initU Γ) E0 (tCons (tC (.str "terms")) (tCons (tTup (tCons (tTup (tCons (tC (.int 1)) (tCons (tC (.int 1)) (tCons (tC (.int 0)) tNil)))) tNil)) tNil))) (gName 0))
  (tSeq (tIfS (tOr (tTest (tOp (rNeU Γ.K) (tCal (sp_row_of Γ) E0 (tCons (tVar 0) (tCons (tTup (tCons (tTup (tCons (tC (.int 1)) (tCons (tC (.int 1)) tNil))) (tCons (tC (.int 1)) tNil))) tNil))) (tLst (tCons (tC (.int 2)) (tCons (tC (.int 1)) tNil))))) (tOr (tTest (tOp (rNeU Γ.K) (tCal (sp_how_many Γ) E0 (tCons (tC (.int 5)) tNil)) (tC (.int 14)))) (tTest (tOp (rNeU Γ.K) (tCal (sp_rank Γ) E0 (tCons (tTup (tCons (tTup (tCons (tC (.int 1)) (tCons (tC (.int 1)) tNil))) (tCons (tTup (tCons (tC (.int 1)) (tCons (tC (.int 1)) tNil))) tNil))) tNil)) (tC (.int 2)))))) (tRet (tC (.bl false))) tNext)
  (tSeq (tIfS (tOr (tTest (tOp (rNeU Γ.K) (tCal (sp_kth Γ) E0 (tCons (tC (.int 4)) (tCons (tC (.int 0)) tNil))) (tTup (tCons (tC (.int 1)) (tCons (tTup (tCons (tC (.int 1)) (tCons (tTup (tCons (tC (.int 1)) (tCons (tC (.int 1)) tNil))) tNil))) tNil))))) (tOr (tTest (tOp (rNeU Γ.K) (tCal (sp_kth Γ) E0 (tCons (tC (.int 4)) (tCons (tC (.int 4)) tNil))) (tTup (tCons (tTup (tCons (tTup (tCons (tC (.int 1)) (tCons (tC (.int 1)) tNil))) (tCons (tC (.int 1)) tNil))) (tCons (tC (.int 1)) tNil))))) (tTest (tOp (rNeU Γ.K) (tCal (sp_turned Γ) E0 (tCons (tTup (tCons (tTup (tCons (tC (.int 1)) (tCons (tC (.int 1)) tNil))) (tCons (tC (.int 1)) tNil))) (tCons (tTup (tCons (tC (.int 0)) tNil)) tNil))) (tTup (tCons (tC (.int 1)) (tCons (tTup (tCons (tC (.int 1)) (tCons (tC (.int 1)) tNil))) tNil))))))) (tRet (tC (.bl false))) tNext)
  (tRet (tAndV (tOp (rEqU Γ.K) (tCal (sp_told_ways Γ) E0 (tCons (tVar 0) (tCons (tC (.int 4)) (tCons (tLst (tCons (tC (.int 2)) (tCons (tC (.int 1)) (tCons (tC (.int 1)) tNil)))) tNil)))) (tLst (tCons (tTup (tCons (tTup (tCons (tC (.int 1)) (tCons (tC (.int 1)) tNil))) (tCons (tTup (tCons (tC (.int 1)) (tCons (tC (.int 1)) tNil))) tNil))) tNil))) (tOp (rEqU Γ.K) (tCal (sp_told_ways Γ) E0 (tCons (tVar 0) (tCons (tC (.int 3)) (tCons (tLst (tCons (tC (.int 5)) tNil)) tNil)))) (tLst tNil)))))))
theorem rd__law_ways_told (Γ : Gm) (vs : List V) (H : Hp) (Q : VK) (E : XK) (h : sp__law_ways_told Γ vs H Q E) : t__law_ways_told Γ ⟨fun _ H' => Q .non H', Q, fun _ _ => False, fun _ _ => False⟩ (startN 1 vs) H := by
  obtain ⟨rfl, k⟩ := h
  unfold t__law_ways_told
  walk_at "ss"
  refine n_tup fun p4 H4 f4 e4 g4 => ?_
  walk_at "ss"
  refine n_tup fun q5 H5 f5 e5 g5 => ?_
  walk_at "ss"
  refine w_mkRule rF (body_trm 1 1 0 (i := 1) (j := 0) rfl rfl (e5 _ _ g4) g5) rF_ok (ruleOf_body rF_ok) fun pF H6 e6 rF6 => ?_
  walk_at "ss"
  refine n_tup fun a1 H7 f7 e7 g7 => ?_
  walk_at "ss"
  refine n_tup fun a2 H8 f8 e8 g8 => ?_
  walk_at "ss"
  have rF8 := rF6.mono (e7.trans e8)
  have t8 : Tp H8 (.ref a2) (Wy.two (.two .one .one) .one).data := two_tp g8 (two_tp (e8 _ _ g7) one_tp one_tp) one_tp
  refine ⟨.ref pF, rF, .ref a2, (Wy.two (.two .one .one) .one).data, rfl, rF8, t8.dv, rfl, ⟨(fun z => absurd z (by decide +kernel)), fun _ z => absurd z (by decide +kernel)⟩, fun w hw _ _ l H9 e9 f9 g9 => ?_⟩
  have ew := data_eq hw
  subst ew
  rw [show rF.row (.two (.two .one .one) .one) = [2, 1] from by decide +kernel] at g9
  walk_at "ss"
  refine n_lst fun l2 HA fA eA gA => ?_
  refine w_neLI (ns := [2, 1]) (ms := [2, 1]) (eA _ _ g9) gA (by decide) (by decide) ?_
  rw [decide_eq_true rfl]
  walk_at "ss"
  refine ⟨.int 5, .int 5, rfl, .int 5, (fun z => absurd z (by decide +kernel)), fun n hn _ _ HB eB => ?_⟩
  have en : n = 5 := by injection hn with hn; omega
  subst en
  rw [show ((cat 5 : Nat) : Int) = 14 from by decide +kernel]
  walk_at "ss"
  rw [decide_eq_true rfl]
  walk_at "ss"
  refine n_tup fun b1 HC fC eC gC => ?_
  walk_at "ss"
  refine n_tup fun b2 HD fD eD gD => ?_
  walk_at "ss"
  refine n_tup fun b3 HE fE eE gE => ?_
  walk_at "ss"
  refine ⟨.ref b3, .two (.two .one .one) (.two .one .one), rfl, two_tp gE (two_tp ((eD.trans eE) _ _ gC) one_tp one_tp) (two_tp (eE _ _ gD) one_tp one_tp), by decide, fun HF eF => ?_⟩
  rw [show ((rankW (.two (.two .one .one) (.two .one .one)) : Nat) : Int) = 2 from by decide +kernel]
  walk_at "ss"
  rw [decide_eq_true rfl]
  walk_at "ss"
  have kth : ∀ (k : Nat) (w0 : Wy), k < 5 → w0.things = 4 → rankW w0 = k → ∀ (H0 : Hp) (Q0 : VK) (E0 : XK), (∀ x H', Same H0 H' → Tp H' x w0.data → Q0 x H') → sp_kth Γ [.int 4, .int k] H0 Q0 E0 := fun k w0 hk hw0 hr0 H0 Q0 E0 q => by
    refine ⟨.int 4, .int k, .int 4, .int k, rfl, .int _, .int _, ⟨(fun z => absurd z (by decide +kernel)), fun n hn _ _ z => ?_, fun n k' hn _ _ hk' _ x w H' e t ht hr => ?_⟩⟩
    · have en : n = 4 := by injection hn with hn; omega
      subst en
      exfalso
      rw [show ((cat 4 : Nat) : Int) - 1 = 4 from by decide +kernel] at z
      rw [inD_yes (by omega) (by omega)] at z
      cases z
    · have en : n = 4 := by injection hn with hn; omega
      have ek : k' = k := by injection hk' with hk'; omega
      subst en ek
      have ew := rank_inj w w0 (by rw [ht, hw0]) (by rw [hr, hr0])
      subst ew
      exact q x H' e t
  refine kth 0 (.two .one (.two .one (.two .one .one))) (by decide) rfl (by decide +kernel) _ _ _ fun x HG eG tx => ?_
  walk_at "ss"
  refine n_tup fun c1 HH fH eH gH => ?_
  walk_at "ss"
  refine n_tup fun c2 HI fI eI gI => ?_
  walk_at "ss"
  refine n_tup fun c3 HJ fJ eJ gJ => ?_
  refine ne_same (d := (Wy.two .one (.two .one (.two .one .one))).data) (tx.mono (eH.trans (eI.trans eJ)).tups).dv (two_tp gJ one_tp (two_tp (eJ _ _ gI) one_tp (two_tp ((eI.trans eJ) _ _ gH) one_tp one_tp))).dv rfl rfl ?_
  walk_at "ss"
  refine kth 4 (.two (.two (.two .one .one) .one) .one) (by decide) rfl (by decide +kernel) _ _ _ fun y HK eK ty => ?_
  walk_at "ss"
  refine n_tup fun d1 HL fL eL gL => ?_
  walk_at "ss"
  refine n_tup fun d2 HM fM eM gM => ?_
  walk_at "ss"
  refine n_tup fun d3 HN fN eN gN => ?_
  refine ne_same (d := (Wy.two (.two (.two .one .one) .one) .one).data) (ty.mono (eL.trans (eM.trans eN)).tups).dv (two_tp gN (two_tp (eN _ _ gM) (two_tp ((eM.trans eN) _ _ gL) one_tp one_tp) one_tp) one_tp).dv rfl rfl ?_
  walk_at "ss"
  refine n_tup fun h1 HO fO eO gO => ?_
  walk_at "ss"
  refine n_tup fun h2 HP fP eP gP => ?_
  walk_at "ss"
  refine n_tup fun h3 HQ fQ eQ gQ => ?_
  walk_at "ss"
  refine ⟨.ref h2, .ref h3, .two (.two .one .one) .one, .tuple [.int 0], rfl, two_tp (eQ _ _ gP) (two_tp ((eP.trans eQ) _ _ gO) one_tp one_tp) one_tp, by decide, .tup gQ (.cons (.int _) .nil), (show 1 ≤ 1000 from by decide), (fun H' _ z => by rw [turnF] at z; cases z), fun w' u HR eR hw tu => ?_⟩
  rw [turnF] at hw
  cases hw
  walk_at "ss"
  refine n_tup fun i1 HS fS eS gS => ?_
  walk_at "ss"
  refine n_tup fun i2 HT fT eT gT => ?_
  refine ne_same (d := (Wy.two .one (.two .one .one)).data) (tu.mono (eS.trans eT).tups).dv (two_tp gT one_tp (two_tp (eT _ _ gS) one_tp one_tp)).dv rfl rfl ?_
  walk_at "ss"
  have rFT := rF8.mono (e9.trans (eA.trans (eB.trans (eC.trans (eD.trans (eE.trans (eF.trans (eG.trans (eH.trans (eI.trans (eJ.trans (eK.trans (eL.trans (eM.trans (eN.trans (eO.trans (eP.trans (eQ.trans (eR.trans (eS.trans eT))))))))))))))))))))
  refine n_lst fun j1 HU fU eU gU => ?_
  walk_at "ss"
  have rowK : ∀ (ns row : List Int), PyData.list (ns.map PyData.int) = .list (row.map PyData.int) ∨ PyData.list (ns.map PyData.int) = .tuple (row.map PyData.int) → row = ns := fun ns row h => by
    rcases h with h | h
    · injection h with h
      exact (map_int_inj h).symm
    · cases h
  refine ⟨.ref pF, rF, 4, .ref j1, .list [.int 2, .int 1, .int 1], rfl, rFT.mono eU, by decide, by decide, by decide +kernel, .lst gU (.cons (.int _) (.cons (.int _) (.cons (.int _) .nil))), (show 3 ≤ 100000 from by decide), ⟨(fun z => absurd z (by decide)), (fun _ z => absurd z (by decide +kernel)), fun _ row hrow => ?_⟩⟩
  have er := rowK [2, 1, 1] row hrow
  subst er
  refine ⟨by decide, by decide, fun l xs HV eV gV tV => ?_⟩
  rw [show (4 : Int).toNat = 4 from rfl, toldF4] at tV
  walk_at "ss"
  refine n_tup fun m1 HW fW eW gW => ?_
  walk_at "ss"
  refine n_tup fun m2 HX fX eX gX => ?_
  walk_at "ss"
  refine n_tup fun m3 HY fY eY gY => ?_
  walk_at "ss"
  refine n_lst fun m4 HZ fZ eZ gZ => ?_
  have eVZ := eW.trans (eX.trans (eY.trans eZ))
  refine eq_same (d := .list [(Wy.two (.two .one .one) (.two .one .one)).data]) (.lst (eVZ _ _ gV) (tV.mono eVZ.tups).dv) (.lst gZ (.cons (two_tp (eZ _ _ gY) (two_tp ((eX.trans (eY.trans eZ)) _ _ gW) one_tp one_tp) (two_tp ((eY.trans eZ) _ _ gX) one_tp one_tp)).dv .nil)) rfl rfl ?_
  walk_at "ss"
  refine n_lst fun n1 Ha fa ea ga => ?_
  walk_at "ss"
  have rFa := rFT.mono (eU.trans (eV.trans (eVZ.trans ea)))
  refine ⟨.ref pF, rF, 3, .ref n1, .list [.int 5], rfl, rFa, by decide, by decide, by decide +kernel, .lst ga (.cons (.int _) .nil), (show 1 ≤ 100000 from by decide), ⟨(fun z => absurd z (by decide)), (fun _ z => absurd z (by decide +kernel)), fun _ row hrow => ?_⟩⟩
  have er := rowK [5] row hrow
  subst er
  refine ⟨by decide, by decide, fun l xs Hb eb gb tb => ?_⟩
  rw [show (3 : Int).toNat = 3 from rfl, toldF3] at tb
  walk_at "ss"
  refine n_lst fun n2 Hc fc ec gc => ?_
  refine eq_same (d := .list []) (.lst (ec _ _ gb) (tb.mono ec.tups).dv) (.lst gc .nil) rfl rfl ?_
  exact k Hc (e4.trans (e5.trans (e6.trans (e7.trans (e8.trans (e9.trans (eA.trans (eB.trans (eC.trans (eD.trans (eE.trans (eF.trans (eG.trans (eH.trans (eI.trans (eJ.trans (eK.trans (eL.trans (eM.trans (eN.trans (eO.trans (eP.trans (eQ.trans (eR.trans (eS.trans (eT.trans (eU.trans (eV.trans (eVZ.trans (ea.trans (eb.trans ec)))))))))))))))))))))))))))))))
theorem surF : surR [1, 4] = [[1, 3], [3]] := by decide +kernel
theorem unlF : outN (unP [[1, 3], [2]] [1, 4]) 2 2 = [(1, 0)] := by decide +kernel
def sp__law_styles_told (Γ : Gm) : Sp := fun vs H Q _ => vs = [] ∧ ∀ H', Same H H' → Q (.bl true) H'
/-- law_styles_told: _law_first -/
def t__law_styles_told (Γ : Gm) : TS := (tSeq (tAsg (tMak Γ.cRule (sp_RuleU_initU Γ) E0 (tCons (tC (.str "terms")) (tCons (tTup (tCons (tTup (tCons (tC (.int 1)) (tCons (tC (.int 1)) (tCons (tC (.int 0)) tNil)))) tNil)) tNil))) (gName 0))
  (tSeq (tIfS (tTest (tOp (rNeU Γ.K) (tLst (tCons (tCal (sp_evenly Γ) E0 (tCons (tVar 0) (tCons (tC (.int 4)) tNil))) (tCons (tCal (sp_evenly Γ) E0 (tCons (tVar 0) (tCons (tC (.int 5)) tNil))) (tCons (tCal (sp_one_off Γ) E0 (tCons (tVar 0) (tCons (tC (.int 4)) tNil))) (tCons (tCal (sp_last_off Γ) E0 (tCons (tVar 0) (tCons (tC (.int 4)) tNil))) tNil))))) (tLst (tCons (tC (.int 4)) (tCons (tC (.int 7)) (tCons (tC (.int 3)) (tCons (tC (.int 6)) tNil))))))) (tRet (tC (.bl false))) tNext)
  (tSeq (tIfS (tOr (tTest (tOp (rNeU Γ.K) (tCal (sp_last_off Γ) E0 (tCons (tVar 0) (tCons (tOp rPowI (tC (.int 10)) (tC (.int 9))) tNil))) (tC (.int 499999999500000000)))) (tTest (tOp rNotIsU (tCal (sp_first_better Γ) E0 (tCons (tVar 0) (tCons (tC (.str "last")) (tCons (tC (.int 10)) tNil)))) (tC .non)))) (tRet (tC (.bl false))) tNext)
  (tSeq (tIfS (tOr (tTest (tOp (rNeU Γ.K) (tCal (sp_first_better Γ) E0 (tCons (tVar 0) (tCons (tC (.str "even")) (tCons (tC (.int 10)) tNil)))) (tC (.int 4)))) (tTest (tOp (rNeU Γ.K) (tPrp Γ.cRule "body" (tCal (sp_sure_table Γ) E0 (tCons (tTup (tCons (tC (.int 1)) (tCons (tC (.int 4)) tNil))) tNil))) (tTup (tCons (tTup (tCons (tC (.int 1)) (tCons (tC (.int 3)) tNil))) (tCons (tTup (tCons (tC (.int 3)) tNil)) tNil)))))) (tRet (tC (.bl false))) tNext)
  (tRet (tOp (rEqU Γ.K) (tCal (sp_unlike_places Γ) E0 (tCons (tMak Γ.cRule (sp_RuleU_initU Γ) E0 (tCons (tC (.str "table")) (tCons (tTup (tCons (tTup (tCons (tC (.int 1)) (tCons (tC (.int 3)) tNil))) (tCons (tTup (tCons (tC (.int 2)) tNil)) tNil))) tNil))) (tCons (tTup (tCons (tC (.int 1)) (tCons (tC (.int 4)) tNil))) tNil))) (tLst (tCons (tTup (tCons (tC (.int 2)) (tCons (tC (.int 1)) tNil))) tNil))))))))
theorem rd__law_styles_told (Γ : Gm) (vs : List V) (H : Hp) (Q : VK) (E : XK) (h : sp__law_styles_told Γ vs H Q E) : t__law_styles_told Γ ⟨fun _ H' => Q .non H', Q, fun _ _ => False, fun _ _ => False⟩ (startN 1 vs) H := by
  obtain ⟨rfl, k⟩ := h
  unfold t__law_styles_told
  walk_at "ss"
  refine n_tup fun p4 H4 f4 e4 g4 => ?_
  walk_at "ss"
  refine n_tup fun q5 H5 f5 e5 g5 => ?_
  walk_at "ss"
  refine w_mkRule rF (body_trm 1 1 0 (i := 1) (j := 0) rfl rfl (e5 _ _ g4) g5) rF_ok (ruleOf_body rF_ok) fun pF H6 e6 rF6 => ?_
  walk_at "ss"
  refine ⟨.ref pF, rF, 4, rfl, rF6, by decide, top_trm _ (by decide), fun H7 e7 => ?_⟩
  rw [ev4]
  walk_at "ss"
  refine ⟨.ref pF, rF, 5, rfl, rF6.mono e7, by decide, top_trm _ (by decide), fun H8 e8 => ?_⟩
  rw [ev5]
  walk_at "ss"
  refine ⟨.ref pF, rF, 4, rfl, rF6.mono (e7.trans e8), by decide, top_trm _ (by decide), fun H9 e9 => ?_⟩
  rw [show linS rF true (4 - 1) = 3 from by decide +kernel]
  walk_at "ss"
  have e69 := e7.trans (e8.trans e9)
  refine ⟨.ref pF, rF, 4, rfl, rF6.mono e69, by decide, top_trm _ (by decide), fun HA eA => ?_⟩
  rw [show linS rF false (4 - 1) = 6 from by decide +kernel]
  walk_at "ss"
  refine n_lst fun l1 HB fB eB gB => ?_
  walk_at "ss"
  refine n_lst fun l2 HC fC eC gC => ?_
  refine w_neLI (ns := [4, 7, 3, 6]) (ms := [4, 7, 3, 6]) (eC _ _ gB) gC (by decide) (by decide) ?_
  rw [decide_eq_true rfl]
  walk_at "ss"
  refine w_powI ⟨by decide, by decide, by decide⟩ ?_
  walk_at "ss"
  have rFC := rF6.mono (e69.trans (eA.trans (eB.trans eC)))
  refine ⟨.ref pF, rF, 1000000000, rfl, rFC, by decide, top_trm _ (by decide), fun HD eD => ?_⟩
  rw [show linS rF false (1000000000 - 1) = 499999999500000000 from by have := rF_lin (1000000000 - 1); rw [show ((1000000000 - 1 : Nat) : Int) = 999999999 from rfl] at this; omega]
  walk_at "ss"
  rw [decide_eq_true rfl]
  walk_at "ss"
  have rFD := rFC.mono eD
  have bk : ∀ (s : Str) (o : Option Nat), styOk (.str s) = true → betR rF s [0, -1, -3, -6, -10, -15, -21, -28, -36, -45] 10 = o → ∀ (H0 : Hp) (Q0 : VK) (E0 : XK), (∀ H', Same H0 H' → Q0 (optI o) H') → BetK Γ rF (.str s) (.int 10) H0 Q0 E0 := fun s o hs ho H0 Q0 E0 q => by
    refine ⟨(fun z => by rw [hs] at z; cases z), (fun _ z => absurd z (by decide +kernel)), fun s' m es _ em _ _ _ gs H' e hg T => ?_⟩
    cases es
    have em' : m = 10 := by injection em with em; omega
    subst em'
    have eg := tab_is T tG10 hg
    subst eg
    rw [ho]
    exact q H' e
  refine ⟨.ref pF, rF, .str "last", .int 10, .str "last", .int 10, rfl, rFD, .str _, .int _, bk "last" none (by decide +kernel) bet_last _ _ _ fun HE eE => ?_⟩
  show rNotIsU .non _ _ _
  walk_at "ss"
  rw [decide_eq_true rfl]
  walk_at "ss"
  have rFE := rFD.mono eE
  refine ⟨.ref pF, rF, .str "even", .int 10, .str "even", .int 10, rfl, rFE, .str _, .int _, bk "even" (some 4) (by decide +kernel) bet_even _ _ _ fun HF eF => ?_⟩
  show rNeU _ (.int 4) _ _ _
  walk_at "ss"
  rw [decide_eq_true rfl]
  walk_at "ss"
  refine n_tup fun t1 HG fG eG gG => ?_
  walk_at "ss"
  refine ⟨.ref t1, .tuple [.int 1, .int 4], rfl, .tup gG (.cons (.int _) (.cons (.int _) .nil)), (fun z => absurd z (by decide +kernel)), fun ss hss _ p HH eH rS => ?_⟩
  have es : ss = [1, 4] := by
    injection hss with hss
    exact (map_int_inj (ns := [1, 4]) hss).symm
  subst es
  rw [surF] at rS
  walk_at "ss"
  refine k_parts rS fun b xb gb tb => ?_
  walk_at "ss"
  refine n_tup fun t2 HI fI eI gI => ?_
  walk_at "ss"
  refine n_tup fun t3 HJ fJ eJ gJ => ?_
  walk_at "ss"
  refine n_tup fun t4 HK fK eK gK => ?_
  refine ne_same (d := (R.tab [[1, 3], [3]]).body) (tb.mono (eI.trans (eJ.trans eK)).tups).dv (body_tab ((eJ.trans eK) _ _ gI) (eK _ _ gJ) gK).dv rfl rfl ?_
  walk_at "ss"
  refine n_tup fun u1 HL fL eL gL => ?_
  walk_at "ss"
  refine n_tup fun u2 HM fM eM gM => ?_
  walk_at "ss"
  refine n_tup fun u3 HN fN eN gN => ?_
  walk_at "ss"
  have ok2 := tab2_ok 2 (by decide)
  refine w_mkRule (R.tab [[1, 3], [2]]) (body_tab ((eM.trans eN) _ _ gL) (eN _ _ gM) gN) ok2 (ruleOf_body ok2) fun pT HO eO rTO => ?_
  walk_at "ss"
  refine n_tup fun u4 HP fP eP gP => ?_
  walk_at "ss"
  refine ⟨.ref pT, .ref u4, R.tab [[1, 3], [2]], .tuple [.int 1, .int 4], rfl, rTO.mono eP, .tup gP (.cons (.int _) (.cons (.int _) .nil)), ⟨(fun ⟨_, z⟩ => by cases z), (fun rows hr z => absurd z (by decide +kernel)), (fun rows ss hr hss _ hne => ?_), fun rows ss hr hss _ hl l xs HQ eQ gQ tQ => ?_⟩⟩
  · cases hr
    injection hss with hss
    have es := (map_int_inj (ns := [1, 4]) hss).symm
    subst es
    exact absurd rfl hne
  · cases hr
    injection hss with hss
    have es := (map_int_inj (ns := [1, 4]) hss).symm
    subst es
    rw [show ([1, 4] : List Int).length = 2 from rfl, unlF] at tQ
    walk_at "ss"
    refine n_tup fun v1 HR fR eR gR => ?_
    walk_at "ss"
    refine n_lst fun v2 HS fS eS gS => ?_
    refine eq_same (d := .list [.tuple [.int 2, .int 1]]) (.lst ((eR.trans eS) _ _ gQ) ?_) (.lst gS (.cons (Dv.tup (eS _ _ gR) (.cons (.int _) (.cons (.int _) .nil))) .nil)) rfl rfl ?_
    · exact (show TpAll HQ xs [.tuple [.int 2, .int 1]] from tQ).mono (eR.trans eS).tups |>.dv
    exact k HS (e4.trans (e5.trans (e6.trans (e69.trans (eA.trans (eB.trans (eC.trans (eD.trans (eE.trans (eF.trans (eG.trans (eH.trans (eI.trans (eJ.trans (eK.trans (eL.trans (eM.trans (eN.trans (eO.trans (eP.trans (eQ.trans (eR.trans eS))))))))))))))))))))))
/-- law: _law_script, _law_d, _law_known -/
def t_law_k26 (Γ : Gm) : TS := (tSeq (tAsg (tCal (sp__law_random Γ) E0 (tCons (tVar 0) (tCons (tC (.int 2826)) tNil))) (gName 1))
  (tSeq (tAsg (tCal (sp__law_below Γ) E0 (tCons (tVar 1) (tCons (tC (.int 4)) tNil))) (gName 2))
  (tSeq (tIfS (tTest (tOp (rEqU Γ.K) (tVar 2) (tC (.int 0)))) (tRet (tCal (sp__law_sure_told Γ) E0 tNil)) tNext)
  (tSeq (tIfS (tTest (tOp (rEqU Γ.K) (tVar 2) (tC (.int 1)))) (tRet (tCal (sp__law_ways_told Γ) E0 tNil)) tNext)
  (tRet (tIf (tTest (tOp (rEqU Γ.K) (tVar 2) (tC (.int 2)))) (tCal (sp__law_extremes_told Γ) E0 tNil) (tCal (sp__law_styles_told Γ) E0 tNil)))))))
theorem rd_law_k26 (Γ : Gm) (vs : List V) (H : Hp) (Q : VK) (E : XK) (h : spLaw Γ.K vs H Q E) : t_law_k26 Γ ⟨fun _ H' => Q .non H', Q, fun _ _ => False, fun _ _ => False⟩ (startN 3 vs) H := by
  obtain ⟨a, ns, rfl, hS, hl, k⟩ := h
  unfold t_law_k26
  walk_at "ss"
  refine ⟨a, ns, 2826, rfl, hS, hl, by decide, by decide, fun d H1 hd0 e1 hd => ?_⟩
  walk_at "ss"
  refine w_below hd (by decide) (by decide) fun r r0 r1 => ?_
  walk_at "ss"
  refine w_ite (fun _ => ?_) (fun _ => ?_)
  · walk_at "ss"
    exact ⟨rfl, fun H' _ => k H'⟩
  · walk_at "ss"
    refine w_ite (fun _ => ?_) (fun _ => ?_)
    · walk_at "ss"
      exact ⟨rfl, fun H' _ => k H'⟩
    · walk_at "ss"
      refine w_ite (fun _ => ?_) (fun _ => ?_)
      · walk_at "ss"
        exact ⟨rfl, fun H' _ => k H'⟩
      · walk_at "ss"
        exact ⟨rfl, fun H' _ => k H'⟩


/-- a def of the top -/
def DefAt (K : PySem.W.Frag) (mg : Str → Option Value) (x qual : Str) (st : Stmt) : Prop := ∃ (f : Addr) (fd : FuncData), mg x = some (.ref f) ∧ Fun K x qual st f fd
def FunAt (K : PySem.W.Frag) (x qual : Str) (st : Stmt) (f : Addr) : Prop := ∃ fd : FuncData, Fun K x qual st f fd
theorem def_mk {K : PySem.W.Frag} {h : Heap} {mg : Str → Option Value} {x qual : Str} {st : Stmt} {f : Addr} {oc : Value} {od an : Option Addr} {osl : Array (Option Value)} {kV doc pm cdv ct : Value} (X : K.In h) (G : h.Ns mainGlobals mg)
    (a : PySem.W.nsIn K mainGlobals x = some (some (.ref f))) (l : K.lookup f = some ⟨oc, od, .func (PySem.W.fnOf x qual (defArgs st) (defBody st) (defScope st) .none kV doc pm an cdv ct), osl⟩)
    (c : PySem.W.codeIn K cdv qual = true) (k : PySem.W.keepIn K (.ref f) = true) : DefAt K mg x qual st := ⟨f, _, PySem.W.mg_of X G a, fun_mk l c k⟩
/-- is an error of the class at C one that «except S» names -/
theorem exm_of {K : PySem.W.Frag} {C S : Addr} {b : Bool} (h1 : PySem.W.subIn K (.ref S) (.type "BaseException") = some true) (h2 : PySem.W.isClsIn K S = true) (h3 : PySem.W.typeIn K (.ref S) = some (.type "type")) (h4 : PySem.W.subIn K (.ref C) (.ref S) = some b) :
    PySem.W.exmOne K (.ref C) (.ref S) = some b := by
  have e1 : (PySem.W.subIn K (.ref S) (.type "BaseException") == some true) = true := by rw [h1] <;> rfl
  have e2 : ((PySem.W.clsIn K S).isSome && PySem.W.typeIn K (.ref S) == some (.type "type")) = true := by
    have h2' : (PySem.W.clsIn K S).isSome = true := h2
    rw [h2', h3] <;> rfl
  show (if (PySem.W.subIn K (.ref S) (.type "BaseException") == some true) = true then (if ((PySem.W.clsIn K S).isSome && PySem.W.typeIn K (.ref S) == some (.type "type")) = true then PySem.W.subIn K (.ref C) (.ref S) else none) else none) = some b
  rw [if_pos e1, if_pos e2]
  exact h4
theorem funat_mk {K : PySem.W.Frag} {x qual : Str} {st : Stmt} {f : Addr} {oc : Value} {od an : Option Addr} {osl : Array (Option Value)} {kV doc pm cdv ct : Value}
    (l : K.lookup f = some ⟨oc, od, .func (PySem.W.fnOf x qual (defArgs st) (defBody st) (defScope st) .none kV doc pm an cdv ct), osl⟩)
    (c : PySem.W.codeIn K cdv qual = true) (k : PySem.W.keepIn K (.ref f) = true) : FunAt K x qual st f := ⟨_, fun_mk l c k⟩
/-! ### the text by places -/
def top (i : Nat) : Stmt := PySem.Challenge.pw_splitpoints_k26_known_rules.main.body.getD i (.Pass ⟨0, 0, 0, 0⟩)
abbrev s_is_integer : Stmt := top 20
abbrev N_is_integer : List Str := ["value"]
theorem sc_is_integer : FnScope N_is_integer ["value"] (defScope s_is_integer) := ⟨rfl, rfl, rfl, by decide +kernel, rfl, by decide +kernel, by decide +kernel⟩
theorem b_is_integer {K : PySem.W.Frag} {f : Addr} {fd : FuncData} (F : Fun K "is_integer" "is_integer" s_is_integer f fd) : Binds K fd ["value"] [] := F.binds (ps := ["value"]) fun _ _ _ _ _ _ us hl => match us, hl with | [_], _ => rfl
abbrev s_is_from : Stmt := top 21
abbrev N_is_from : List Str := ["value", "low", "high"]
theorem sc_is_from : FnScope N_is_from ["value", "low", "high"] (defScope s_is_from) := ⟨rfl, rfl, rfl, by decide +kernel, rfl, by decide +kernel, by decide +kernel⟩
theorem b_is_from {K : PySem.W.Frag} {f : Addr} {fd : FuncData} (F : Fun K "is_from" "is_from" s_is_from f fd) : Binds K fd ["value", "low", "high"] [] := F.binds (ps := ["value", "low", "high"]) fun _ _ _ _ _ _ us hl => match us, hl with | [_, _, _], _ => rfl
abbrev s_are_rows : Stmt := top 22
abbrev N_are_rows : List Str := ["value", "index", "row", "number"]
theorem sc_are_rows : FnScope N_are_rows ["value"] (defScope s_are_rows) := ⟨rfl, rfl, rfl, by decide +kernel, rfl, by decide +kernel, by decide +kernel⟩
theorem b_are_rows {K : PySem.W.Frag} {f : Addr} {fd : FuncData} (F : Fun K "are_rows" "are_rows" s_are_rows f fd) : Binds K fd ["value"] [] := F.binds (ps := ["value"]) fun _ _ _ _ _ _ us hl => match us, hl with | [_], _ => rfl
abbrev s_is_term : Stmt := top 23
abbrev N_is_term : List Str := ["value"]
theorem sc_is_term : FnScope N_is_term ["value"] (defScope s_is_term) := ⟨rfl, rfl, rfl, by decide +kernel, rfl, by decide +kernel, by decide +kernel⟩
theorem b_is_term {K : PySem.W.Frag} {f : Addr} {fd : FuncData} (F : Fun K "is_term" "is_term" s_is_term f fd) : Binds K fd ["value"] [] := F.binds (ps := ["value"]) fun _ _ _ _ _ _ us hl => match us, hl with | [_], _ => rfl
abbrev s_are_terms : Stmt := top 24
abbrev N_are_terms : List Str := ["value", "term"]
theorem sc_are_terms : FnScope N_are_terms ["value"] (defScope s_are_terms) := ⟨rfl, rfl, rfl, by decide +kernel, rfl, by decide +kernel, by decide +kernel⟩
theorem b_are_terms {K : PySem.W.Frag} {f : Addr} {fd : FuncData} (F : Fun K "are_terms" "are_terms" s_are_terms f fd) : Binds K fd ["value"] [] := F.binds (ps := ["value"]) fun _ _ _ _ _ _ us hl => match us, hl with | [_], _ => rfl
abbrev s_RuleU_initU : Stmt := inClass (top 25) 0
abbrev N_RuleU_initU : List Str := ["self", "kind", "parts"]
theorem sc_RuleU_initU : FnScope N_RuleU_initU ["self", "kind", "parts"] (defScope s_RuleU_initU) := ⟨rfl, rfl, rfl, by decide +kernel, rfl, by decide +kernel, by decide +kernel⟩
theorem b_RuleU_initU {K : PySem.W.Frag} {f : Addr} {fd : FuncData} (F : Fun K "__init__" "Rule.__init__" s_RuleU_initU f fd) : Binds K fd ["self", "kind", "parts"] [] := F.binds (ps := ["self", "kind", "parts"]) fun _ _ _ _ _ _ us hl => match us, hl with | [_, _, _], _ => rfl
abbrev s_most_of : Stmt := top 26
abbrev N_most_of : List Str := ["rule"]
theorem sc_most_of : FnScope N_most_of ["rule"] (defScope s_most_of) := ⟨rfl, rfl, rfl, by decide +kernel, rfl, by decide +kernel, by decide +kernel⟩
theorem b_most_of {K : PySem.W.Frag} {f : Addr} {fd : FuncData} (F : Fun K "most_of" "most_of" s_most_of f fd) : Binds K fd ["rule"] [] := F.binds (ps := ["rule"]) fun _ _ _ _ _ _ us hl => match us, hl with | [_], _ => rfl
abbrev s_raised : Stmt := top 27
abbrev N_raised : List Str := ["base", "exponent", "found", "lap"]
theorem sc_raised : FnScope N_raised ["base", "exponent"] (defScope s_raised) := ⟨rfl, rfl, rfl, by decide +kernel, rfl, by decide +kernel, by decide +kernel⟩
theorem b_raised {K : PySem.W.Frag} {f : Addr} {fd : FuncData} (F : Fun K "raised" "raised" s_raised f fd) : Binds K fd ["base", "exponent"] [] := F.binds (ps := ["base", "exponent"]) fun _ _ _ _ _ _ us hl => match us, hl with | [_, _], _ => rfl
abbrev s_points_by : Stmt := top 28
abbrev N_points_by : List Str := ["rule", "first", "second", "number", "one", "other"]
theorem sc_points_by : FnScope N_points_by ["rule", "first", "second"] (defScope s_points_by) := ⟨rfl, rfl, rfl, by decide +kernel, rfl, by decide +kernel, by decide +kernel⟩
theorem b_points_by {K : PySem.W.Frag} {f : Addr} {fd : FuncData} (F : Fun K "points_by" "points_by" s_points_by f fd) : Binds K fd ["rule", "first", "second"] [] := F.binds (ps := ["rule", "first", "second"]) fun _ _ _ _ _ _ us hl => match us, hl with | [_, _, _], _ => rfl
abbrev s_check_heap : Stmt := top 29
abbrev N_check_heap : List Str := ["rule", "heap", "most"]
theorem sc_check_heap : FnScope N_check_heap ["rule", "heap", "most"] (defScope s_check_heap) := ⟨rfl, rfl, rfl, by decide +kernel, rfl, by decide +kernel, by decide +kernel⟩
theorem b_check_heap {K : PySem.W.Frag} {f : Addr} {fd : FuncData} (F : Fun K "check_heap" "check_heap" s_check_heap f fd) : Binds K fd ["rule", "heap", "most"] [] := F.binds (ps := ["rule", "heap", "most"]) fun _ _ _ _ _ _ us hl => match us, hl with | [_, _, _], _ => rfl
abbrev s_points : Stmt := top 30
abbrev N_points : List Str := ["rule", "first", "second", "top"]
theorem sc_points : FnScope N_points ["rule", "first", "second"] (defScope s_points) := ⟨rfl, rfl, rfl, by decide +kernel, rfl, by decide +kernel, by decide +kernel⟩
theorem b_points {K : PySem.W.Frag} {f : Addr} {fd : FuncData} (F : Fun K "points" "points" s_points f fd) : Binds K fd ["rule", "first", "second"] [] := F.binds (ps := ["rule", "first", "second"]) fun _ _ _ _ _ _ us hl => match us, hl with | [_, _, _], _ => rfl
abbrev s_things_in : Stmt := top 33
abbrev N_things_in : List Str := ["value", "first", "second"]
theorem sc_things_in : FnScope N_things_in ["value"] (defScope s_things_in) := ⟨rfl, rfl, rfl, by decide +kernel, rfl, by decide +kernel, by decide +kernel⟩
theorem b_things_in {K : PySem.W.Frag} {f : Addr} {fd : FuncData} (F : Fun K "things_in" "things_in" s_things_in f fd) : Binds K fd ["value"] [] := F.binds (ps := ["value"]) fun _ _ _ _ _ _ us hl => match us, hl with | [_], _ => rfl
abbrev s_is_way : Stmt := top 34
abbrev N_is_way : List Str := ["value"]
theorem sc_is_way : FnScope N_is_way ["value"] (defScope s_is_way) := ⟨rfl, rfl, rfl, by decide +kernel, rfl, by decide +kernel, by decide +kernel⟩
theorem b_is_way {K : PySem.W.Frag} {f : Addr} {fd : FuncData} (F : Fun K "is_way" "is_way" s_is_way f fd) : Binds K fd ["value"] [] := F.binds (ps := ["value"]) fun _ _ _ _ _ _ us hl => match us, hl with | [_], _ => rfl
abbrev s_check_way : Stmt := top 35
abbrev N_check_way : List Str := ["way"]
theorem sc_check_way : FnScope N_check_way ["way"] (defScope s_check_way) := ⟨rfl, rfl, rfl, by decide +kernel, rfl, by decide +kernel, by decide +kernel⟩
theorem b_check_way {K : PySem.W.Frag} {f : Addr} {fd : FuncData} (F : Fun K "check_way" "check_way" s_check_way f fd) : Binds K fd ["way"] [] := F.binds (ps := ["way"]) fun _ _ _ _ _ _ us hl => match us, hl with | [_], _ => rfl
abbrev s_splits_of : Stmt := top 36
abbrev N_splits_of : List Str := ["way"]
theorem sc_splits_of : FnScope N_splits_of ["way"] (defScope s_splits_of) := ⟨rfl, rfl, rfl, by decide +kernel, rfl, by decide +kernel, by decide +kernel⟩
theorem b_splits_of {K : PySem.W.Frag} {f : Addr} {fd : FuncData} (F : Fun K "splits_of" "splits_of" s_splits_of f fd) : Binds K fd ["way"] [] := F.binds (ps := ["way"]) fun _ _ _ _ _ _ us hl => match us, hl with | [_], _ => rfl
abbrev s_row_by : Stmt := top 37
abbrev N_row_by : List Str := ["rule", "way", "first", "second"]
theorem sc_row_by : FnScope N_row_by ["rule", "way"] (defScope s_row_by) := ⟨rfl, rfl, rfl, by decide +kernel, rfl, by decide +kernel, by decide +kernel⟩
theorem b_row_by {K : PySem.W.Frag} {f : Addr} {fd : FuncData} (F : Fun K "row_by" "row_by" s_row_by f fd) : Binds K fd ["rule", "way"] [] := F.binds (ps := ["rule", "way"]) fun _ _ _ _ _ _ us hl => match us, hl with | [_, _], _ => rfl
abbrev s_check_way_of : Stmt := top 38
abbrev N_check_way_of : List Str := ["rule", "way"]
theorem sc_check_way_of : FnScope N_check_way_of ["rule", "way"] (defScope s_check_way_of) := ⟨rfl, rfl, rfl, by decide +kernel, rfl, by decide +kernel, by decide +kernel⟩
theorem b_check_way_of {K : PySem.W.Frag} {f : Addr} {fd : FuncData} (F : Fun K "check_way_of" "check_way_of" s_check_way_of f fd) : Binds K fd ["rule", "way"] [] := F.binds (ps := ["rule", "way"]) fun _ _ _ _ _ _ us hl => match us, hl with | [_, _], _ => rfl
abbrev s_row_of : Stmt := top 39
abbrev N_row_of : List Str := ["rule", "way"]
theorem sc_row_of : FnScope N_row_of ["rule", "way"] (defScope s_row_of) := ⟨rfl, rfl, rfl, by decide +kernel, rfl, by decide +kernel, by decide +kernel⟩
theorem b_row_of {K : PySem.W.Frag} {f : Addr} {fd : FuncData} (F : Fun K "row_of" "row_of" s_row_of f fd) : Binds K fd ["rule", "way"] [] := F.binds (ps := ["rule", "way"]) fun _ _ _ _ _ _ us hl => match us, hl with | [_, _], _ => rfl
abbrev s_counts_to : Stmt := top 40
abbrev N_counts_to : List Str := ["heap", "found", "size", "first"]
theorem sc_counts_to : FnScope N_counts_to ["heap"] (defScope s_counts_to) := ⟨rfl, rfl, rfl, by decide +kernel, rfl, by decide +kernel, by decide +kernel⟩
theorem b_counts_to {K : PySem.W.Frag} {f : Addr} {fd : FuncData} (F : Fun K "counts_to" "counts_to" s_counts_to f fd) : Binds K fd ["heap"] [] := F.binds (ps := ["heap"]) fun _ _ _ _ _ _ us hl => match us, hl with | [_], _ => rfl
abbrev s_how_many : Stmt := top 41
abbrev N_how_many : List Str := ["heap"]
theorem sc_how_many : FnScope N_how_many ["heap"] (defScope s_how_many) := ⟨rfl, rfl, rfl, by decide +kernel, rfl, by decide +kernel, by decide +kernel⟩
theorem b_how_many {K : PySem.W.Frag} {f : Addr} {fd : FuncData} (F : Fun K "how_many" "how_many" s_how_many f fd) : Binds K fd ["heap"] [] := F.binds (ps := ["heap"]) fun _ _ _ _ _ _ us hl => match us, hl with | [_], _ => rfl
abbrev s_way_at : Stmt := top 42
abbrev N_way_at : List Str := ["counts", "heap", "k", "first", "rest"]
theorem sc_way_at : FnScope N_way_at ["counts", "heap", "k"] (defScope s_way_at) := ⟨rfl, rfl, rfl, by decide +kernel, rfl, by decide +kernel, by decide +kernel⟩
theorem b_way_at {K : PySem.W.Frag} {f : Addr} {fd : FuncData} (F : Fun K "way_at" "way_at" s_way_at f fd) : Binds K fd ["counts", "heap", "k"] [] := F.binds (ps := ["counts", "heap", "k"]) fun _ _ _ _ _ _ us hl => match us, hl with | [_, _, _], _ => rfl
abbrev s_kth : Stmt := top 43
abbrev N_kth : List Str := ["heap", "k", "counts"]
theorem sc_kth : FnScope N_kth ["heap", "k"] (defScope s_kth) := ⟨rfl, rfl, rfl, by decide +kernel, rfl, by decide +kernel, by decide +kernel⟩
theorem b_kth {K : PySem.W.Frag} {f : Addr} {fd : FuncData} (F : Fun K "kth" "kth" s_kth f fd) : Binds K fd ["heap", "k"] [] := F.binds (ps := ["heap", "k"]) fun _ _ _ _ _ _ us hl => match us, hl with | [_, _], _ => rfl
abbrev s_rank_by : Stmt := top 44
abbrev N_rank_by : List Str := ["counts", "way", "first", "second", "ahead", "one"]
theorem sc_rank_by : FnScope N_rank_by ["counts", "way"] (defScope s_rank_by) := ⟨rfl, rfl, rfl, by decide +kernel, rfl, by decide +kernel, by decide +kernel⟩
theorem b_rank_by {K : PySem.W.Frag} {f : Addr} {fd : FuncData} (F : Fun K "rank_by" "rank_by" s_rank_by f fd) : Binds K fd ["counts", "way"] [] := F.binds (ps := ["counts", "way"]) fun _ _ _ _ _ _ us hl => match us, hl with | [_, _], _ => rfl
abbrev s_rank : Stmt := top 45
abbrev N_rank : List Str := ["way"]
theorem sc_rank : FnScope N_rank ["way"] (defScope s_rank) := ⟨rfl, rfl, rfl, by decide +kernel, rfl, by decide +kernel, by decide +kernel⟩
theorem b_rank {K : PySem.W.Frag} {f : Addr} {fd : FuncData} (F : Fun K "rank" "rank" s_rank f fd) : Binds K fd ["way"] [] := F.binds (ps := ["way"]) fun _ _ _ _ _ _ us hl => match us, hl with | [_], _ => rfl
abbrev s_turned_at : Stmt := top 47
abbrev N_turned_at : List Str := ["way", "path", "inner"]
theorem sc_turned_at : FnScope N_turned_at ["way", "path"] (defScope s_turned_at) := ⟨rfl, rfl, rfl, by decide +kernel, rfl, by decide +kernel, by decide +kernel⟩
theorem b_turned_at {K : PySem.W.Frag} {f : Addr} {fd : FuncData} (F : Fun K "turned_at" "turned_at" s_turned_at f fd) : Binds K fd ["way", "path"] [] := F.binds (ps := ["way", "path"]) fun _ _ _ _ _ _ us hl => match us, hl with | [_, _], _ => rfl
abbrev s_turned : Stmt := top 46
abbrev N_turned : List Str := ["way", "path", "found", "one"]
theorem sc_turned : FnScope N_turned ["way", "path"] (defScope s_turned) := ⟨rfl, rfl, rfl, by decide +kernel, rfl, by decide +kernel, by decide +kernel⟩
theorem b_turned {K : PySem.W.Frag} {f : Addr} {fd : FuncData} (F : Fun K "turned" "turned" s_turned f fd) : Binds K fd ["way", "path"] [] := F.binds (ps := ["way", "path"]) fun _ _ _ _ _ _ us hl => match us, hl with | [_, _], _ => rfl
abbrev s_table_of : Stmt := top 50
abbrev N_table_of : List Str := ["rule", "heap", "sign", "found", "size", "some", "first"]
theorem sc_table_of : FnScope N_table_of ["rule", "heap", "sign"] (defScope s_table_of) := ⟨rfl, rfl, rfl, by decide +kernel, rfl, by decide +kernel, by decide +kernel⟩
theorem b_table_of {K : PySem.W.Frag} {f : Addr} {fd : FuncData} (F : Fun K "table_of" "table_of" s_table_of f fd) : Binds K fd ["rule", "heap", "sign"] [] := F.binds (ps := ["rule", "heap", "sign"]) fun _ _ _ _ _ _ us hl => match us, hl with | [_, _, _], _ => rfl
abbrev s_least : Stmt := top 51
abbrev N_least : List Str := ["rule", "heap"]
theorem sc_least : FnScope N_least ["rule", "heap"] (defScope s_least) := ⟨rfl, rfl, rfl, by decide +kernel, rfl, by decide +kernel, by decide +kernel⟩
theorem b_least {K : PySem.W.Frag} {f : Addr} {fd : FuncData} (F : Fun K "least" "least" s_least f fd) : Binds K fd ["rule", "heap"] [] := F.binds (ps := ["rule", "heap"]) fun _ _ _ _ _ _ us hl => match us, hl with | [_, _], _ => rfl
abbrev s_greatest : Stmt := top 52
abbrev N_greatest : List Str := ["rule", "heap"]
theorem sc_greatest : FnScope N_greatest ["rule", "heap"] (defScope s_greatest) := ⟨rfl, rfl, rfl, by decide +kernel, rfl, by decide +kernel, by decide +kernel⟩
theorem b_greatest {K : PySem.W.Frag} {f : Addr} {fd : FuncData} (F : Fun K "greatest" "greatest" s_greatest f fd) : Binds K fd ["rule", "heap"] [] := F.binds (ps := ["rule", "heap"]) fun _ _ _ _ _ _ us hl => match us, hl with | [_, _], _ => rfl
abbrev s_firsts_of : Stmt := top 53
abbrev N_firsts_of : List Str := ["rule", "table", "heap", "sign", "found", "first"]
theorem sc_firsts_of : FnScope N_firsts_of ["rule", "table", "heap", "sign"] (defScope s_firsts_of) := ⟨rfl, rfl, rfl, by decide +kernel, rfl, by decide +kernel, by decide +kernel⟩
theorem b_firsts_of {K : PySem.W.Frag} {f : Addr} {fd : FuncData} (F : Fun K "firsts_of" "firsts_of" s_firsts_of f fd) : Binds K fd ["rule", "table", "heap", "sign"] [] := F.binds (ps := ["rule", "table", "heap", "sign"]) fun _ _ _ _ _ _ us hl => match us, hl with | [_, _, _, _], _ => rfl
abbrev s_first_way : Stmt := top 54
abbrev N_first_way : List Str := ["rule", "table", "heap", "sign", "first"]
theorem sc_first_way : FnScope N_first_way ["rule", "table", "heap", "sign"] (defScope s_first_way) := ⟨rfl, rfl, rfl, by decide +kernel, rfl, by decide +kernel, by decide +kernel⟩
theorem b_first_way {K : PySem.W.Frag} {f : Addr} {fd : FuncData} (F : Fun K "first_way" "first_way" s_first_way f fd) : Binds K fd ["rule", "table", "heap", "sign"] [] := F.binds (ps := ["rule", "table", "heap", "sign"]) fun _ _ _ _ _ _ us hl => match us, hl with | [_, _, _, _], _ => rfl
abbrev s_least_way : Stmt := top 55
abbrev N_least_way : List Str := ["rule", "heap"]
theorem sc_least_way : FnScope N_least_way ["rule", "heap"] (defScope s_least_way) := ⟨rfl, rfl, rfl, by decide +kernel, rfl, by decide +kernel, by decide +kernel⟩
theorem b_least_way {K : PySem.W.Frag} {f : Addr} {fd : FuncData} (F : Fun K "least_way" "least_way" s_least_way f fd) : Binds K fd ["rule", "heap"] [] := F.binds (ps := ["rule", "heap"]) fun _ _ _ _ _ _ us hl => match us, hl with | [_, _], _ => rfl
abbrev s_greatest_way : Stmt := top 56
abbrev N_greatest_way : List Str := ["rule", "heap"]
theorem sc_greatest_way : FnScope N_greatest_way ["rule", "heap"] (defScope s_greatest_way) := ⟨rfl, rfl, rfl, by decide +kernel, rfl, by decide +kernel, by decide +kernel⟩
theorem b_greatest_way {K : PySem.W.Frag} {f : Addr} {fd : FuncData} (F : Fun K "greatest_way" "greatest_way" s_greatest_way f fd) : Binds K fd ["rule", "heap"] [] := F.binds (ps := ["rule", "heap"]) fun _ _ _ _ _ _ us hl => match us, hl with | [_, _], _ => rfl
abbrev s_counted : Stmt := top 57
abbrev N_counted : List Str := ["rule", "heap", "sign", "table", "found", "size", "some", "first"]
theorem sc_counted : FnScope N_counted ["rule", "heap", "sign"] (defScope s_counted) := ⟨rfl, rfl, rfl, by decide +kernel, rfl, by decide +kernel, by decide +kernel⟩
theorem b_counted {K : PySem.W.Frag} {f : Addr} {fd : FuncData} (F : Fun K "counted" "counted" s_counted f fd) : Binds K fd ["rule", "heap", "sign"] [] := F.binds (ps := ["rule", "heap", "sign"]) fun _ _ _ _ _ _ us hl => match us, hl with | [_, _, _], _ => rfl
abbrev s_count_least : Stmt := top 58
abbrev N_count_least : List Str := ["rule", "heap"]
theorem sc_count_least : FnScope N_count_least ["rule", "heap"] (defScope s_count_least) := ⟨rfl, rfl, rfl, by decide +kernel, rfl, by decide +kernel, by decide +kernel⟩
theorem b_count_least {K : PySem.W.Frag} {f : Addr} {fd : FuncData} (F : Fun K "count_least" "count_least" s_count_least f fd) : Binds K fd ["rule", "heap"] [] := F.binds (ps := ["rule", "heap"]) fun _ _ _ _ _ _ us hl => match us, hl with | [_, _], _ => rfl
abbrev s_sums_by : Stmt := top 59
abbrev N_sums_by : List Str := ["rule", "heap", "found", "size", "own", "first", "more", "one", "many", "other", "times", "told"]
theorem sc_sums_by : FnScope N_sums_by ["rule", "heap"] (defScope s_sums_by) := ⟨rfl, rfl, rfl, by decide +kernel, rfl, by decide +kernel, by decide +kernel⟩
theorem b_sums_by {K : PySem.W.Frag} {f : Addr} {fd : FuncData} (F : Fun K "sums_by" "sums_by" s_sums_by f fd) : Binds K fd ["rule", "heap"] [] := F.binds (ps := ["rule", "heap"]) fun _ _ _ _ _ _ us hl => match us, hl with | [_, _], _ => rfl
abbrev s_all_sums : Stmt := top 60
abbrev N_all_sums : List Str := ["rule", "heap", "found", "told"]
theorem sc_all_sums : FnScope N_all_sums ["rule", "heap"] (defScope s_all_sums) := ⟨rfl, rfl, rfl, by decide +kernel, rfl, by decide +kernel, by decide +kernel⟩
theorem b_all_sums {K : PySem.W.Frag} {f : Addr} {fd : FuncData} (F : Fun K "all_sums" "all_sums" s_all_sums f fd) : Binds K fd ["rule", "heap"] [] := F.binds (ps := ["rule", "heap"]) fun _ _ _ _ _ _ us hl => match us, hl with | [_, _], _ => rfl
abbrev s_triples_of : Stmt := top 62
abbrev N_triples_of : List Str := ["rule", "most", "found", "heap", "first", "second"]
theorem sc_triples_of : FnScope N_triples_of ["rule"] (defScope s_triples_of) := ⟨rfl, rfl, rfl, by decide +kernel, rfl, by decide +kernel, by decide +kernel⟩
theorem b_triples_of {K : PySem.W.Frag} {f : Addr} {fd : FuncData} (F : Fun K "triples_of" "triples_of" s_triples_of f fd) : Binds K fd ["rule"] [] := F.binds (ps := ["rule"]) fun _ _ _ _ _ _ us hl => match us, hl with | [_], _ => rfl
abbrev s_is_even : Stmt := top 63
abbrev N_is_even : List Str := ["rule", "first", "second", "third", "left"]
theorem sc_is_even : FnScope N_is_even ["rule", "first", "second", "third"] (defScope s_is_even) := ⟨rfl, rfl, rfl, by decide +kernel, rfl, by decide +kernel, by decide +kernel⟩
theorem b_is_even {K : PySem.W.Frag} {f : Addr} {fd : FuncData} (F : Fun K "is_even" "is_even" s_is_even f fd) : Binds K fd ["rule", "first", "second", "third"] [] := F.binds (ps := ["rule", "first", "second", "third"]) fun _ _ _ _ _ _ us hl => match us, hl with | [_, _, _, _], _ => rfl
abbrev s_clash : Stmt := top 64
abbrev N_clash : List Str := ["rule", "first", "second", "third"]
theorem sc_clash : FnScope N_clash ["rule"] (defScope s_clash) := ⟨rfl, rfl, rfl, by decide +kernel, rfl, by decide +kernel, by decide +kernel⟩
theorem b_clash {K : PySem.W.Frag} {f : Addr} {fd : FuncData} (F : Fun K "clash" "clash" s_clash f fd) : Binds K fd ["rule"] [] := F.binds (ps := ["rule"]) fun _ _ _ _ _ _ us hl => match us, hl with | [_], _ => rfl
abbrev s_is_sure : Stmt := top 65
abbrev N_is_sure : List Str := ["rule"]
theorem sc_is_sure : FnScope N_is_sure ["rule"] (defScope s_is_sure) := ⟨rfl, rfl, rfl, by decide +kernel, rfl, by decide +kernel, by decide +kernel⟩
theorem b_is_sure {K : PySem.W.Frag} {f : Addr} {fd : FuncData} (F : Fun K "is_sure" "is_sure" s_is_sure f fd) : Binds K fd ["rule"] [] := F.binds (ps := ["rule"]) fun _ _ _ _ _ _ us hl => match us, hl with | [_], _ => rfl
abbrev s_lowest : Stmt := top 67
abbrev N_lowest : List Str := ["over", "under", "great", "less"]
theorem sc_lowest : FnScope N_lowest ["over", "under"] (defScope s_lowest) := ⟨rfl, rfl, rfl, by decide +kernel, rfl, by decide +kernel, by decide +kernel⟩
theorem b_lowest {K : PySem.W.Frag} {f : Addr} {fd : FuncData} (F : Fun K "lowest" "lowest" s_lowest f fd) : Binds K fd ["over", "under"] [] := F.binds (ps := ["over", "under"]) fun _ _ _ _ _ _ us hl => match us, hl with | [_, _], _ => rfl
abbrev s_plus : Stmt := top 66
abbrev N_plus : List Str := ["one", "other"]
theorem sc_plus : FnScope N_plus ["one", "other"] (defScope s_plus) := ⟨rfl, rfl, rfl, by decide +kernel, rfl, by decide +kernel, by decide +kernel⟩
theorem b_plus {K : PySem.W.Frag} {f : Addr} {fd : FuncData} (F : Fun K "plus" "plus" s_plus f fd) : Binds K fd ["one", "other"] [] := F.binds (ps := ["one", "other"]) fun _ _ _ _ _ _ us hl => match us, hl with | [_, _], _ => rfl
abbrev s_times_root : Stmt := top 68
abbrev N_times_root : List Str := ["row", "root", "found", "at", "one"]
theorem sc_times_root : FnScope N_times_root ["row", "root"] (defScope s_times_root) := ⟨rfl, rfl, rfl, by decide +kernel, rfl, by decide +kernel, by decide +kernel⟩
theorem b_times_root {K : PySem.W.Frag} {f : Addr} {fd : FuncData} (F : Fun K "times_root" "times_root" s_times_root f fd) : Binds K fd ["row", "root"] [] := F.binds (ps := ["row", "root"]) fun _ _ _ _ _ _ us hl => match us, hl with | [_, _], _ => rfl
abbrev s_through : Stmt := top 69
abbrev N_through : List Str := ["values", "found", "row", "steps", "whole", "at", "place", "one", "now", "later"]
theorem sc_through : FnScope N_through ["values"] (defScope s_through) := ⟨rfl, rfl, rfl, by decide +kernel, rfl, by decide +kernel, by decide +kernel⟩
theorem b_through {K : PySem.W.Frag} {f : Addr} {fd : FuncData} (F : Fun K "through" "through" s_through f fd) : Binds K fd ["values"] [] := F.binds (ps := ["values"]) fun _ _ _ _ _ _ us hl => match us, hl with | [_], _ => rfl
abbrev s_value_at : Stmt := top 70
abbrev N_value_at : List Str := ["row", "number", "found", "one"]
theorem sc_value_at : FnScope N_value_at ["row", "number"] (defScope s_value_at) := ⟨rfl, rfl, rfl, by decide +kernel, rfl, by decide +kernel, by decide +kernel⟩
theorem b_value_at {K : PySem.W.Frag} {f : Addr} {fd : FuncData} (F : Fun K "value_at" "value_at" s_value_at f fd) : Binds K fd ["row", "number"] [] := F.binds (ps := ["row", "number"]) fun _ _ _ _ _ _ us hl => match us, hl with | [_, _], _ => rfl
abbrev s_sums_to : Stmt := top 71
abbrev N_sums_to : List Str := ["rule", "most", "is_first", "found", "heap"]
theorem sc_sums_to : FnScope N_sums_to ["rule", "most", "is_first"] (defScope s_sums_to) := ⟨rfl, rfl, rfl, by decide +kernel, rfl, by decide +kernel, by decide +kernel⟩
theorem b_sums_to {K : PySem.W.Frag} {f : Addr} {fd : FuncData} (F : Fun K "sums_to" "sums_to" s_sums_to f fd) : Binds K fd ["rule", "most", "is_first"] [] := F.binds (ps := ["rule", "most", "is_first"]) fun _ _ _ _ _ _ us hl => match us, hl with | [_, _, _], _ => rfl
abbrev s_line_of : Stmt := top 72
abbrev N_line_of : List Str := ["rule", "is_first"]
theorem sc_line_of : FnScope N_line_of ["rule", "is_first"] (defScope s_line_of) := ⟨rfl, rfl, rfl, by decide +kernel, rfl, by decide +kernel, by decide +kernel⟩
theorem b_line_of {K : PySem.W.Frag} {f : Addr} {fd : FuncData} (F : Fun K "line_of" "line_of" s_line_of f fd) : Binds K fd ["rule", "is_first"] [] := F.binds (ps := ["rule", "is_first"]) fun _ _ _ _ _ _ us hl => match us, hl with | [_, _], _ => rfl
abbrev s_one_by_one : Stmt := top 74
abbrev N_one_by_one : List Str := ["rule", "heap", "is_first"]
theorem sc_one_by_one : FnScope N_one_by_one ["rule", "heap", "is_first"] (defScope s_one_by_one) := ⟨rfl, rfl, rfl, by decide +kernel, rfl, by decide +kernel, by decide +kernel⟩
theorem b_one_by_one {K : PySem.W.Frag} {f : Addr} {fd : FuncData} (F : Fun K "one_by_one" "one_by_one" s_one_by_one f fd) : Binds K fd ["rule", "heap", "is_first"] [] := F.binds (ps := ["rule", "heap", "is_first"]) fun _ _ _ _ _ _ us hl => match us, hl with | [_, _, _], _ => rfl
abbrev s_formula : Stmt := top 73
abbrev N_formula : List Str := ["rule", "row"]
theorem sc_formula : FnScope N_formula ["rule"] (defScope s_formula) := ⟨rfl, rfl, rfl, by decide +kernel, rfl, by decide +kernel, by decide +kernel⟩
theorem b_formula {K : PySem.W.Frag} {f : Addr} {fd : FuncData} (F : Fun K "formula" "formula" s_formula f fd) : Binds K fd ["rule"] [] := F.binds (ps := ["rule"]) fun _ _ _ _ _ _ us hl => match us, hl with | [_], _ => rfl
abbrev s_sure_sum : Stmt := top 75
abbrev N_sure_sum : List Str := ["rule", "heap", "told"]
theorem sc_sure_sum : FnScope N_sure_sum ["rule", "heap"] (defScope s_sure_sum) := ⟨rfl, rfl, rfl, by decide +kernel, rfl, by decide +kernel, by decide +kernel⟩
theorem b_sure_sum {K : PySem.W.Frag} {f : Addr} {fd : FuncData} (F : Fun K "sure_sum" "sure_sum" s_sure_sum f fd) : Binds K fd ["rule", "heap"] [] := F.binds (ps := ["rule", "heap"]) fun _ _ _ _ _ _ us hl => match us, hl with | [_, _], _ => rfl
abbrev s_even_by : Stmt := top 79
abbrev N_even_by : List Str := ["rule", "heap", "half", "small", "great", "own"]
theorem sc_even_by : FnScope N_even_by ["rule", "heap"] (defScope s_even_by) := ⟨rfl, rfl, rfl, by decide +kernel, rfl, by decide +kernel, by decide +kernel⟩
theorem b_even_by {K : PySem.W.Frag} {f : Addr} {fd : FuncData} (F : Fun K "even_by" "even_by" s_even_by f fd) : Binds K fd ["rule", "heap"] [] := F.binds (ps := ["rule", "heap"]) fun _ _ _ _ _ _ us hl => match us, hl with | [_, _], _ => rfl
abbrev s_evenly : Stmt := top 80
abbrev N_evenly : List Str := ["rule", "heap"]
theorem sc_evenly : FnScope N_evenly ["rule", "heap"] (defScope s_evenly) := ⟨rfl, rfl, rfl, by decide +kernel, rfl, by decide +kernel, by decide +kernel⟩
theorem b_evenly {K : PySem.W.Frag} {f : Addr} {fd : FuncData} (F : Fun K "evenly" "evenly" s_evenly f fd) : Binds K fd ["rule", "heap"] [] := F.binds (ps := ["rule", "heap"]) fun _ _ _ _ _ _ us hl => match us, hl with | [_, _], _ => rfl
abbrev s_one_off : Stmt := top 81
abbrev N_one_off : List Str := ["rule", "heap"]
theorem sc_one_off : FnScope N_one_off ["rule", "heap"] (defScope s_one_off) := ⟨rfl, rfl, rfl, by decide +kernel, rfl, by decide +kernel, by decide +kernel⟩
theorem b_one_off {K : PySem.W.Frag} {f : Addr} {fd : FuncData} (F : Fun K "one_off" "one_off" s_one_off f fd) : Binds K fd ["rule", "heap"] [] := F.binds (ps := ["rule", "heap"]) fun _ _ _ _ _ _ us hl => match us, hl with | [_, _], _ => rfl
abbrev s_last_off : Stmt := top 82
abbrev N_last_off : List Str := ["rule", "heap"]
theorem sc_last_off : FnScope N_last_off ["rule", "heap"] (defScope s_last_off) := ⟨rfl, rfl, rfl, by decide +kernel, rfl, by decide +kernel, by decide +kernel⟩
theorem b_last_off {K : PySem.W.Frag} {f : Addr} {fd : FuncData} (F : Fun K "last_off" "last_off" s_last_off f fd) : Binds K fd ["rule", "heap"] [] := F.binds (ps := ["rule", "heap"]) fun _ _ _ _ _ _ us hl => match us, hl with | [_, _], _ => rfl
abbrev s_styled : Stmt := top 83
abbrev N_styled : List Str := ["rule", "style", "heap"]
theorem sc_styled : FnScope N_styled ["rule", "style", "heap"] (defScope s_styled) := ⟨rfl, rfl, rfl, by decide +kernel, rfl, by decide +kernel, by decide +kernel⟩
theorem b_styled {K : PySem.W.Frag} {f : Addr} {fd : FuncData} (F : Fun K "styled" "styled" s_styled f fd) : Binds K fd ["rule", "style", "heap"] [] := F.binds (ps := ["rule", "style", "heap"]) fun _ _ _ _ _ _ us hl => match us, hl with | [_, _, _], _ => rfl
abbrev s_first_better : Stmt := top 84
abbrev N_first_better : List Str := ["rule", "style", "most", "table", "heap"]
theorem sc_first_better : FnScope N_first_better ["rule", "style", "most"] (defScope s_first_better) := ⟨rfl, rfl, rfl, by decide +kernel, rfl, by decide +kernel, by decide +kernel⟩
theorem b_first_better {K : PySem.W.Frag} {f : Addr} {fd : FuncData} (F : Fun K "first_better" "first_better" s_first_better f fd) : Binds K fd ["rule", "style", "most"] [] := F.binds (ps := ["rule", "style", "most"]) fun _ _ _ _ _ _ us hl => match us, hl with | [_, _, _], _ => rfl
abbrev s_check_sums : Stmt := top 87
abbrev N_check_sums : List Str := ["sums", "told"]
theorem sc_check_sums : FnScope N_check_sums ["sums"] (defScope s_check_sums) := ⟨rfl, rfl, rfl, by decide +kernel, rfl, by decide +kernel, by decide +kernel⟩
theorem b_check_sums {K : PySem.W.Frag} {f : Addr} {fd : FuncData} (F : Fun K "check_sums" "check_sums" s_check_sums f fd) : Binds K fd ["sums"] [] := F.binds (ps := ["sums"]) fun _ _ _ _ _ _ us hl => match us, hl with | [_], _ => rfl
abbrev s_due_at : Stmt := top 88
abbrev N_due_at : List Str := ["row", "first", "second"]
theorem sc_due_at : FnScope N_due_at ["row", "first", "second"] (defScope s_due_at) := ⟨rfl, rfl, rfl, by decide +kernel, rfl, by decide +kernel, by decide +kernel⟩
theorem b_due_at {K : PySem.W.Frag} {f : Addr} {fd : FuncData} (F : Fun K "due_at" "due_at" s_due_at f fd) : Binds K fd ["row", "first", "second"] [] := F.binds (ps := ["row", "first", "second"]) fun _ _ _ _ _ _ us hl => match us, hl with | [_, _, _], _ => rfl
abbrev s_sure_table : Stmt := top 89
abbrev N_sure_table : List Str := ["sums", "row", "most", "found", "first", "second"]
theorem sc_sure_table : FnScope N_sure_table ["sums"] (defScope s_sure_table) := ⟨rfl, rfl, rfl, by decide +kernel, rfl, by decide +kernel, by decide +kernel⟩
theorem b_sure_table {K : PySem.W.Frag} {f : Addr} {fd : FuncData} (F : Fun K "sure_table" "sure_table" s_sure_table f fd) : Binds K fd ["sums"] [] := F.binds (ps := ["sums"]) fun _ _ _ _ _ _ us hl => match us, hl with | [_], _ => rfl
abbrev s_unlike_places : Stmt := top 90
abbrev N_unlike_places : List Str := ["rule", "sums", "most", "row", "found", "first", "second"]
theorem sc_unlike_places : FnScope N_unlike_places ["rule", "sums"] (defScope s_unlike_places) := ⟨rfl, rfl, rfl, by decide +kernel, rfl, by decide +kernel, by decide +kernel⟩
theorem b_unlike_places {K : PySem.W.Frag} {f : Addr} {fd : FuncData} (F : Fun K "unlike_places" "unlike_places" s_unlike_places f fd) : Binds K fd ["rule", "sums"] [] := F.binds (ps := ["rule", "sums"]) fun _ _ _ _ _ _ us hl => match us, hl with | [_, _], _ => rfl
abbrev s_ways_by : Stmt := top 93
abbrev N_ways_by : List Str := ["rule", "heap", "row", "found", "first", "left", "rest", "right", "last"]
theorem sc_ways_by : FnScope N_ways_by ["rule", "heap", "row"] (defScope s_ways_by) := ⟨rfl, rfl, rfl, by decide +kernel, rfl, by decide +kernel, by decide +kernel⟩
theorem b_ways_by {K : PySem.W.Frag} {f : Addr} {fd : FuncData} (F : Fun K "ways_by" "ways_by" s_ways_by f fd) : Binds K fd ["rule", "heap", "row"] [] := F.binds (ps := ["rule", "heap", "row"]) fun _ _ _ _ _ _ us hl => match us, hl with | [_, _, _], _ => rfl
abbrev s_told_ways : Stmt := top 94
abbrev N_told_ways : List Str := ["rule", "heap", "row", "number", "way", "rest"]
theorem sc_told_ways : FnScope N_told_ways ["rule", "heap", "row"] (defScope s_told_ways) := ⟨rfl, rfl, rfl, by decide +kernel, rfl, by decide +kernel, by decide +kernel⟩
theorem b_told_ways {K : PySem.W.Frag} {f : Addr} {fd : FuncData} (F : Fun K "told_ways" "told_ways" s_told_ways f fd) : Binds K fd ["rule", "heap", "row"] [] := F.binds (ps := ["rule", "heap", "row"]) fun _ _ _ _ _ _ us hl => match us, hl with | [_, _, _], _ => rfl
abbrev s__law_random : Stmt := top 96
abbrev N__law_random : List Str := ["_law_script", "_law_salt", "_law_seed", "_law_cell"]
theorem sc__law_random : FnScope N__law_random ["_law_script", "_law_salt"] (defScope s__law_random) := ⟨rfl, rfl, rfl, by decide +kernel, rfl, by decide +kernel, by decide +kernel⟩
theorem b__law_random {K : PySem.W.Frag} {f : Addr} {fd : FuncData} (F : Fun K "_law_random" "_law_random" s__law_random f fd) : Binds K fd ["_law_script", "_law_salt"] [] := F.binds (ps := ["_law_script", "_law_salt"]) fun _ _ _ _ _ _ us hl => match us, hl with | [_, _], _ => rfl
abbrev s__law_below : Stmt := top 97
abbrev N__law_below : List Str := ["_law_d", "_law_size", "_law_result"]
theorem sc__law_below : FnScope N__law_below ["_law_d", "_law_size"] (defScope s__law_below) := ⟨rfl, rfl, rfl, by decide +kernel, rfl, by decide +kernel, by decide +kernel⟩
theorem b__law_below {K : PySem.W.Frag} {f : Addr} {fd : FuncData} (F : Fun K "_law_below" "_law_below" s__law_below f fd) : Binds K fd ["_law_d", "_law_size"] [] := F.binds (ps := ["_law_d", "_law_size"]) fun _ _ _ _ _ _ us hl => match us, hl with | [_, _], _ => rfl
abbrev s__law_sure_told : Stmt := top 99
abbrev N__law_sure_told : List Str := ["_law_product", "_law_first"]
theorem sc__law_sure_told : FnScope N__law_sure_told [] (defScope s__law_sure_told) := ⟨rfl, rfl, rfl, by decide +kernel, rfl, by decide +kernel, by decide +kernel⟩
theorem b__law_sure_told {K : PySem.W.Frag} {f : Addr} {fd : FuncData} (F : Fun K "_law_sure_told" "_law_sure_told" s__law_sure_told f fd) : Binds K fd [] [] := F.binds (ps := []) fun _ _ _ _ _ _ us hl => match us, hl with | [], _ => rfl
abbrev s__law_ways_told : Stmt := top 100
abbrev N__law_ways_told : List Str := ["_law_first"]
theorem sc__law_ways_told : FnScope N__law_ways_told [] (defScope s__law_ways_told) := ⟨rfl, rfl, rfl, by decide +kernel, rfl, by decide +kernel, by decide +kernel⟩
theorem b__law_ways_told {K : PySem.W.Frag} {f : Addr} {fd : FuncData} (F : Fun K "_law_ways_told" "_law_ways_told" s__law_ways_told f fd) : Binds K fd [] [] := F.binds (ps := []) fun _ _ _ _ _ _ us hl => match us, hl with | [], _ => rfl
abbrev s__law_extremes_told : Stmt := top 101
abbrev N__law_extremes_told : List Str := ["_law_first"]
theorem sc__law_extremes_told : FnScope N__law_extremes_told [] (defScope s__law_extremes_told) := ⟨rfl, rfl, rfl, by decide +kernel, rfl, by decide +kernel, by decide +kernel⟩
theorem b__law_extremes_told {K : PySem.W.Frag} {f : Addr} {fd : FuncData} (F : Fun K "_law_extremes_told" "_law_extremes_told" s__law_extremes_told f fd) : Binds K fd [] [] := F.binds (ps := []) fun _ _ _ _ _ _ us hl => match us, hl with | [], _ => rfl
abbrev s__law_styles_told : Stmt := top 102
abbrev N__law_styles_told : List Str := ["_law_first"]
theorem sc__law_styles_told : FnScope N__law_styles_told [] (defScope s__law_styles_told) := ⟨rfl, rfl, rfl, by decide +kernel, rfl, by decide +kernel, by decide +kernel⟩
theorem b__law_styles_told {K : PySem.W.Frag} {f : Addr} {fd : FuncData} (F : Fun K "_law_styles_told" "_law_styles_told" s__law_styles_told f fd) : Binds K fd [] [] := F.binds (ps := []) fun _ _ _ _ _ _ us hl => match us, hl with | [], _ => rfl
abbrev s_law : Stmt := top 103
abbrev N_law : List Str := ["_law_script", "_law_d", "_law_known"]
theorem sc_law : FnScope N_law ["_law_script"] (defScope s_law) := ⟨rfl, rfl, rfl, by decide +kernel, rfl, by decide +kernel, by decide +kernel⟩
theorem b_law {K : PySem.W.Frag} {f : Addr} {fd : FuncData} (F : Fun K "law" "law" s_law f fd) : Binds K fd ["_law_script"] [] := F.binds (ps := ["_law_script"]) fun _ _ _ _ _ _ us hl => match us, hl with | [_], _ => rfl
/-! ### what the top has written -/
structure TX (Γ : Gm) (mg : Str → Option Value) : Prop where
  b_abs : mg "abs" = none
  b_all : mg "all" = none
  b_bool : mg "bool" = none
  b_enumerate : mg "enumerate" = none
  b_int : mg "int" = none
  b_isinstance : mg "isinstance" = none
  b_len : mg "len" = none
  b_list : mg "list" = none
  b_min : mg "min" = none
  b_range : mg "range" = none
  b_sorted : mg "sorted" = none
  b_str : mg "str" = none
  b_sum : mg "sum" = none
  b_tuple : mg "tuple" = none
  b_zip : mg "zip" = none
  c_MOST_TABLE : ∃ t, mg "MOST_TABLE" = some (.int 40 t)
  c_MOST_HEAP : ∃ t, mg "MOST_HEAP" = some (.int 1000000000000000000000000000000 t)
  c_MOST_POINTS : ∃ t, mg "MOST_POINTS" = some (.int 1000000 t)
  c_MOST_TERMS : ∃ t, mg "MOST_TERMS" = some (.int 6 t)
  c_MOST_EXPONENT : ∃ t, mg "MOST_EXPONENT" = some (.int 4 t)
  c_MOST_THINGS : ∃ t, mg "MOST_THINGS" = some (.int 40 t)
  c_MOST_SUMS : ∃ t, mg "MOST_SUMS" = some (.int 10 t)
  c_STYLES : mg "STYLES" = some (.ref Γ.aSTYLES)
  c_MOST_STYLED : ∃ t, mg "MOST_STYLED" = some (.int 40 t)
  c_MOST_SUM : ∃ t, mg "MOST_SUM" = some (.int 100000 t)
  c_MOST_BACK : ∃ t, mg "MOST_BACK" = some (.int 10 t)
  x_BadHeap : ExcF Γ.K mg "BadHeap" Γ.cBadHeap
  x_BadNumber : ExcF Γ.K mg "BadNumber" Γ.cBadNumber
  x_BadRow : ExcF Γ.K mg "BadRow" Γ.cBadRow
  x_BadRule : ExcF Γ.K mg "BadRule" Γ.cBadRule
  x_BadSplit : ExcF Γ.K mg "BadSplit" Γ.cBadSplit
  x_BadStyle : ExcF Γ.K mg "BadStyle" Γ.cBadStyle
  x_BadSums : ExcF Γ.K mg "BadSums" Γ.cBadSums
  x_BadWay : ExcF Γ.K mg "BadWay" Γ.cBadWay
  x_NoTable : ExcF Γ.K mg "NoTable" Γ.cNoTable
  x_NoTerms : ExcF Γ.K mg "NoTerms" Γ.cNoTerms
  x_TooGreat : ExcF Γ.K mg "TooGreat" Γ.cTooGreat
  rule : RuleF Γ
  sty : StyF Γ
section
variable {P : Program} {w : World} {mg : Str → Option Value} {base : Heap} {Γ : Gm}
theorem ok_is_integer {f : Addr} {fd : FuncData} (F : Fun Γ.K "is_integer" "is_integer" s_is_integer f fd) (T : TX Γ mg) : FnOk P w Γ.K mg base CX0 1 f fd ["value"] (sp_is_integer Γ) := by
  have nd := sc_is_integer.nd
  refine F.ok sc_is_integer (fun vs H Q E h => ?_) (fun cdv A outer s H vs Q E hr h => ⟨t_is_integer Γ, ?_, rd_is_integer Γ  vs H Q E h⟩)
  · repeat (first | (obtain ⟨rfl, _⟩ := h; rfl) | (obtain ⟨_, h⟩ := h))
  · have hu := hr.units
    exact (pss_one (ps_ret (pe_and (pe_callB call_isi (by rfl) T.b_isinstance (by decide +kernel) (pa_cons (pv 0) (pa_cons (pe_bltn (by rfl) T.b_int (by decide +kernel) (v := .ty "int") rfl) pa_nil))) (pe_one (pe_not (pe_callB call_isi (by rfl) T.b_isinstance (by decide +kernel) (pa_cons (pv 0) (pa_cons (pe_bltn (by rfl) T.b_bool (by decide +kernel) (v := .ty "bool") rfl) pa_nil))))))))
theorem ok_is_from {f : Addr} {fd : FuncData} (F : Fun Γ.K "is_from" "is_from" s_is_from f fd) (T : TX Γ mg) (c_is_integer : Cal P w Γ.K mg base CX0 "is_integer" 1 ["value"] (sp_is_integer Γ)) : FnOk P w Γ.K mg base CX0 2 f fd ["value", "low", "high"] (sp_is_from Γ) := by
  have nd := sc_is_from.nd
  refine F.ok sc_is_from (fun vs H Q E h => ?_) (fun cdv A outer s H vs Q E hr h => ⟨t_is_from Γ, ?_, rd_is_from Γ  vs H Q E h⟩)
  · repeat (first | (obtain ⟨rfl, _⟩ := h; rfl) | (obtain ⟨_, h⟩ := h))
  · have hu := hr.units
    exact (pss_one (ps_ret (pe_and (pe_cal c_is_integer (hr.mono (by omega)) (by rfl) pass0 (pa_cons (pv 0) pa_nil)) (pe_one (pe_chain op_leU op_leU (pv 1) (pv 0) (pv 2))))))
theorem ok_are_rows {f : Addr} {fd : FuncData} (F : Fun Γ.K "are_rows" "are_rows" s_are_rows f fd) (T : TX Γ mg) (c_is_from : Cal P w Γ.K mg base CX0 "is_from" 2 ["value", "low", "high"] (sp_is_from Γ)) : FnOk P w Γ.K mg base CX0 3 f fd ["value"] (sp_are_rows Γ) := by
  have nd := sc_are_rows.nd
  refine F.ok sc_are_rows (fun vs H Q E h => ?_) (fun cdv A outer s H vs Q E hr h => ⟨t_are_rows Γ, ?_, rd_are_rows Γ  vs H Q E h⟩)
  · repeat (first | (obtain ⟨rfl, _⟩ := h; rfl) | (obtain ⟨_, h⟩ := h))
  · have hu := hr.units
    exact (pss_cons (ps_if (PW.pt (pw_or (pt_not (pt_val (pe_callB call_isi (by rfl) T.b_isinstance (by decide +kernel) (pa_cons (pv 0) (pa_cons (pe_bltn (by rfl) T.b_tuple (by decide +kernel) (v := .ty "tuple") rfl) pa_nil))))) (pw_or1 (pt_not (pt_chain op_leU op_ltU pe_int (pe_callB call_len (by rfl) T.b_len (by decide +kernel) (pa_cons (pv 0) pa_nil)) (pe_gint T.c_MOST_TABLE (by rfl))))))) (pss_one (ps_ret pe_bl)) pss_nil)
  (pss_cons (ps_for PassesOwn.never rfl (pi_enumS (by rfl) T.b_enumerate (pa_cons (pv 0) pa_nil)) (pg_tup rfl (pgs_cons (pg_name (i := 1) nd rfl (Or.inl rfl)) (pgs_cons (pg_name (i := 2) nd rfl (Or.inl rfl)) pgs_nil))) (pss_cons (ps_if (PW.pt (pw_or (pt_not (pt_val (pe_callB call_isi (by rfl) T.b_isinstance (by decide +kernel) (pa_cons (pv 2) (pa_cons (pe_bltn (by rfl) T.b_tuple (by decide +kernel) (v := .ty "tuple") rfl) pa_nil))))) (pw_or1 (pt_cmpR (op_neU hu) (pe_callB call_len (by rfl) T.b_len (by decide +kernel) (pa_cons (pv 2) pa_nil)) (pe_op op_subU (pe_callB call_len (by rfl) T.b_len (by decide +kernel) (pa_cons (pv 0) pa_nil)) (pv 1)) (nomark _))))) (pss_one (ps_ret pe_bl)) pss_nil)
  (pss_one (ps_if (pt_not (pt_val (pe_callB (cr_all rfl) (by rfl) T.b_all (by decide +kernel) (pa_cons (pe_lc (own := [("number", 3)]) (g := (gName 3)) (tt := tYes) rfl nd (pi_seq (pv 2)) (blkOk_by (N := N_are_rows) (sc := (defScope s_are_rows)) (own := [("number", 3)]) (by decide +kernel)) (fun _ _ _ _ _ => (pg_name (i := 3) nd rfl (Or.inl rfl))) (fun _ _ _ _ _ => pts_nil) (fun _ _ _ _ _ => (pe_cal c_is_from (hr.mono (by omega)) (by rfl) pass0 (pa_cons (pv 3) (pa_cons (pe_op op_subU pe_int (pe_gint T.c_MOST_POINTS (by rfl))) (pa_cons (pe_gint T.c_MOST_POINTS (by rfl)) pa_nil)))))) pa_nil)))) (pss_one (ps_ret pe_bl)) pss_nil))))
  (pss_one (ps_ret pe_bl))))
theorem ok_is_term {f : Addr} {fd : FuncData} (F : Fun Γ.K "is_term" "is_term" s_is_term f fd) (T : TX Γ mg) (c_is_from : Cal P w Γ.K mg base CX0 "is_from" 2 ["value", "low", "high"] (sp_is_from Γ)) : FnOk P w Γ.K mg base CX0 3 f fd ["value"] (sp_is_term Γ) := by
  have nd := sc_is_term.nd
  refine F.ok sc_is_term (fun vs H Q E h => ?_) (fun cdv A outer s H vs Q E hr h => ⟨t_is_term Γ, ?_, rd_is_term Γ  vs H Q E h⟩)
  · repeat (first | (obtain ⟨rfl, _⟩ := h; rfl) | (obtain ⟨_, h⟩ := h))
  · have hu := hr.units
    exact (pss_cons (ps_if (PW.pt (pw_or (pt_not (pt_val (pe_callB call_isi (by rfl) T.b_isinstance (by decide +kernel) (pa_cons (pv 0) (pa_cons (pe_bltn (by rfl) T.b_tuple (by decide +kernel) (v := .ty "tuple") rfl) pa_nil))))) (pw_or (pt_cmpR (op_neU hu) (pe_callB call_len (by rfl) T.b_len (by decide +kernel) (pa_cons (pv 0) pa_nil)) pe_int (nomark _)) (pw_or1 (pt_not (pt_val (pe_cal c_is_from (hr.mono (by omega)) (by rfl) pass0 (pa_cons (pe_ix ix_seq (pv 0) pe_int (fun _ _ => rfl)) (pa_cons (pe_op op_subU pe_int (pe_gint T.c_MOST_POINTS (by rfl))) (pa_cons (pe_gint T.c_MOST_POINTS (by rfl)) pa_nil)))))))))) (pss_one (ps_ret pe_bl)) pss_nil)
  (pss_one (ps_ret (pe_and (pe_cal c_is_from (hr.mono (by omega)) (by rfl) pass0 (pa_cons (pe_ix ix_seq (pv 0) pe_int (fun _ _ => rfl)) (pa_cons pe_int (pa_cons (pe_gint T.c_MOST_EXPONENT (by rfl)) pa_nil)))) (pe_one (pe_cal c_is_from (hr.mono (by omega)) (by rfl) pass0 (pa_cons (pe_ix ix_seq (pv 0) pe_int (fun _ _ => rfl)) (pa_cons pe_int (pa_cons (pe_gint T.c_MOST_EXPONENT (by rfl)) pa_nil)))))))))
theorem ok_are_terms {f : Addr} {fd : FuncData} (F : Fun Γ.K "are_terms" "are_terms" s_are_terms f fd) (T : TX Γ mg) (c_is_term : Cal P w Γ.K mg base CX0 "is_term" 3 ["value"] (sp_is_term Γ)) : FnOk P w Γ.K mg base CX0 4 f fd ["value"] (sp_are_terms Γ) := by
  have nd := sc_are_terms.nd
  refine F.ok sc_are_terms (fun vs H Q E h => ?_) (fun cdv A outer s H vs Q E hr h => ⟨t_are_terms Γ, ?_, rd_are_terms Γ  vs H Q E h⟩)
  · repeat (first | (obtain ⟨rfl, _⟩ := h; rfl) | (obtain ⟨_, h⟩ := h))
  · have hu := hr.units
    exact (pss_one (ps_ret (pe_and (pe_callB call_isi (by rfl) T.b_isinstance (by decide +kernel) (pa_cons (pv 0) (pa_cons (pe_bltn (by rfl) T.b_tuple (by decide +kernel) (v := .ty "tuple") rfl) pa_nil))) (pe_and (pe_cmpR op_leU (pe_callB call_len (by rfl) T.b_len (by decide +kernel) (pa_cons (pv 0) pa_nil)) (pe_gint T.c_MOST_TERMS (by rfl)) (nomark _)) (pe_one (pe_callB (cr_all rfl) (by rfl) T.b_all (by decide +kernel) (pa_cons (pe_lc (own := [("term", 1)]) (g := (gName 1)) (tt := tYes) rfl nd (pi_seq (pv 0)) (blkOk_by (N := N_are_terms) (sc := (defScope s_are_terms)) (own := [("term", 1)]) (by decide +kernel)) (fun _ _ _ _ _ => (pg_name (i := 1) nd rfl (Or.inl rfl))) (fun _ _ _ _ _ => pts_nil) (fun _ _ _ _ _ => (pe_cal c_is_term (hr.mono (by omega)) (by rfl) pass0 (pa_cons (pv 1) pa_nil)))) pa_nil)))))))
theorem ok_RuleU_initU {f : Addr} {fd : FuncData} (F : Fun Γ.K "__init__" "Rule.__init__" s_RuleU_initU f fd) (T : TX Γ mg) (c_are_rows : Cal P w Γ.K mg base CX0 "are_rows" 3 ["value"] (sp_are_rows Γ)) (c_are_terms : Cal P w Γ.K mg base CX0 "are_terms" 4 ["value"] (sp_are_terms Γ)) : FnOk P w Γ.K mg base (L2.CX P w) 5 f fd ["self", "kind", "parts"] (sp_RuleU_initU Γ) := by
  have nd := sc_RuleU_initU.nd
  refine F.okX sc_RuleU_initU (fun vs H Q E h => ?_) (fun cdv A outer s H vs Q E hr h => ⟨t_RuleU_initU Γ E, ?_, rd_RuleU_initU Γ T.rule vs H Q E h⟩)
  · repeat (first | (obtain ⟨rfl, _⟩ := h; rfl) | (obtain ⟨_, h⟩ := h))
  · have hu := hr.units
    exact (pss_cons (ps_if (PW.pt (pw_or (pt_not (pt_val (pe_callB call_isi (by rfl) T.b_isinstance (by decide +kernel) (pa_cons (pv 1) (pa_cons (pe_bltn (by rfl) T.b_str (by decide +kernel) (v := .ty "str") rfl) pa_nil))))) (pw_or1 (pt_cmpR op_notInU (pv 1) (pe_tup (pa_cons pe_str (pa_cons pe_str pa_nil))) (by rfl))))) (pss_one (ps_raise0 rfl (takes_of rfl rfl rfl rfl) T.x_BadRule rfl)) pss_nil)
  (pss_cons (ps_if (pt_not (pt_ifExp (pt_cmpR (op_eqU hu) (pv 1) pe_str (nomark _)) (pt_val (pe_cal c_are_rows (hr.mono (by omega)) (by rfl) pass0 (pa_cons (pv 2) pa_nil))) (pt_val (pe_cal c_are_terms (hr.mono (by omega)) (by rfl) pass0 (pa_cons (pv 2) pa_nil))))) (pss_one (ps_raise0 rfl (takes_of rfl rfl rfl rfl) T.x_BadRule rfl)) pss_nil)
  (pss_cons (ps_fld (pv 0) (pv 1) rfl)
  (pss_one (ps_fld (pv 0) (pv 2) rfl)))))
theorem ok_most_of {f : Addr} {fd : FuncData} (F : Fun Γ.K "most_of" "most_of" s_most_of f fd) (T : TX Γ mg) : FnOk P w Γ.K mg base CX0 1 f fd ["rule"] (sp_most_of Γ) := by
  have nd := sc_most_of.nd
  refine F.ok sc_most_of (fun vs H Q E h => ?_) (fun cdv A outer s H vs Q E hr h => ⟨t_most_of Γ, ?_, rd_most_of Γ T.rule vs H Q E h⟩)
  · repeat (first | (obtain ⟨rfl, _⟩ := h; rfl) | (obtain ⟨_, h⟩ := h))
  · have hu := hr.units
    exact (pss_one (ps_ret (pe_ifExp (pt_cmpR (op_eqU hu) (pe_fld (pv 0) rfl) pe_str (nomark _)) (pe_op op_addU (pe_callB call_len (by rfl) T.b_len (by decide +kernel) (pa_cons (pe_fld (pv 0) rfl) pa_nil)) pe_int) (pe_gint T.c_MOST_HEAP (by rfl)))))
theorem ok_raised {f : Addr} {fd : FuncData} (F : Fun Γ.K "raised" "raised" s_raised f fd) (T : TX Γ mg) : FnOk P w Γ.K mg base CX0 1 f fd ["base", "exponent"] (sp_raised Γ) := by
  have nd := sc_raised.nd
  refine F.ok sc_raised (fun vs H Q E h => ?_) (fun cdv A outer s H vs Q E hr h => ⟨t_raised Γ, ?_, rd_raised Γ  vs H Q E h⟩)
  · repeat (first | (obtain ⟨rfl, _⟩ := h; rfl) | (obtain ⟨_, h⟩ := h))
  · have hu := hr.units
    exact (pss_cons (ps_set (i := 2) nd rfl (Or.inl rfl) pe_int)
  (pss_cons (ps_for PassesOwn.never rfl (pi_range1 rfl T.b_range (pa_cons (pv 1) pa_nil)) (pg_name (i := 3) nd rfl (Or.inl rfl)) (pss_one (ps_set (i := 2) nd rfl (Or.inl rfl) (pe_op op_mulU (pv 2) (pv 0)))))
  (pss_one (ps_ret (pv 2)))))
theorem ok_points_by {f : Addr} {fd : FuncData} (F : Fun Γ.K "points_by" "points_by" s_points_by f fd) (T : TX Γ mg) (c_raised : Cal P w Γ.K mg base CX0 "raised" 1 ["base", "exponent"] (sp_raised Γ)) : FnOk P w Γ.K mg base CX0 2 f fd ["rule", "first", "second"] (sp_points_by Γ) := by
  have nd := sc_points_by.nd
  refine F.ok sc_points_by (fun vs H Q E h => ?_) (fun cdv A outer s H vs Q E hr h => ⟨t_points_by Γ, ?_, rd_points_by Γ T.rule vs H Q E h⟩)
  · repeat (first | (obtain ⟨rfl, _⟩ := h; rfl) | (obtain ⟨_, h⟩ := h))
  · have hu := hr.units
    exact (pss_cons (ps_if (pt_cmpR (op_eqU hu) (pe_fld (pv 0) rfl) pe_str (nomark _)) (pss_one (ps_ret (pe_ix ix_seq (pe_ix ix_seq (pe_fld (pv 0) rfl) (pe_op op_subU (pv 1) pe_int) (fun _ _ => rfl)) (pe_op op_subU (pv 2) pe_int) (fun _ _ => rfl)))) pss_nil)
  (pss_one (ps_ret (pe_callB (cr_sum rfl) (by rfl) T.b_sum (by decide +kernel) (pa_cons (pe_lc (own := [("number", 3), ("one", 4), ("other", 5)]) (g := (gTup Γ.K 3 (gCons (gName 3) (gCons (gName 4) (gCons (gName 5) gNil))))) (tt := tYes) rfl nd (pi_seq (pe_fld (pv 0) rfl)) (blkOk_by (N := N_points_by) (sc := (defScope s_points_by)) (own := [("number", 3), ("one", 4), ("other", 5)]) (by decide +kernel)) (fun _ _ _ _ _ => (pg_tup rfl (pgs_cons (pg_name (i := 3) nd rfl (Or.inl rfl)) (pgs_cons (pg_name (i := 4) nd rfl (Or.inl rfl)) (pgs_cons (pg_name (i := 5) nd rfl (Or.inl rfl)) pgs_nil))))) (fun _ _ _ _ _ => pts_nil) (fun _ _ _ _ _ => (pe_op op_mulU (pe_op op_mulU (pv 3) (pe_cal c_raised (hr.mono (by omega)) (by rfl) pass0 (pa_cons (pv 1) (pa_cons (pv 4) pa_nil)))) (pe_cal c_raised (hr.mono (by omega)) (by rfl) pass0 (pa_cons (pv 2) (pa_cons (pv 5) pa_nil)))))) pa_nil)))))
theorem ok_check_heap {f : Addr} {fd : FuncData} (F : Fun Γ.K "check_heap" "check_heap" s_check_heap f fd) (T : TX Γ mg) (c_is_from : Cal P w Γ.K mg base CX0 "is_from" 2 ["value", "low", "high"] (sp_is_from Γ)) (c_most_of : Cal P w Γ.K mg base CX0 "most_of" 1 ["rule"] (sp_most_of Γ)) : FnOk P w Γ.K mg base (L2.CX P w) 3 f fd ["rule", "heap", "most"] (sp_check_heap Γ) := by
  have nd := sc_check_heap.nd
  refine F.okX sc_check_heap (fun vs H Q E h => ?_) (fun cdv A outer s H vs Q E hr h => ⟨t_check_heap Γ E, ?_, rd_check_heap Γ  vs H Q E h⟩)
  · repeat (first | (obtain ⟨rfl, _⟩ := h; rfl) | (obtain ⟨_, h⟩ := h))
  · have hu := hr.units
    exact (pss_one (ps_if (pt_not (pt_val (pe_cal c_is_from (hr.mono (by omega)) (by rfl) pass0 (pa_cons (pv 1) (pa_cons pe_int (pa_cons (pe_callB (call_min2 rfl) (by rfl) T.b_min (by decide +kernel) (pa_cons (pv 2) (pa_cons (pe_cal c_most_of (hr.mono (by omega)) (by rfl) pass0 (pa_cons (pv 0) pa_nil)) pa_nil))) pa_nil)))))) (pss_one (ps_raise0 rfl (takes_of rfl rfl rfl rfl) T.x_BadHeap rfl)) pss_nil))
theorem ok_points {f : Addr} {fd : FuncData} (F : Fun Γ.K "points" "points" s_points f fd) (T : TX Γ mg) (c_is_from : Cal P w Γ.K mg base CX0 "is_from" 2 ["value", "low", "high"] (sp_is_from Γ)) (c_most_of : Cal P w Γ.K mg base CX0 "most_of" 1 ["rule"] (sp_most_of Γ)) (c_points_by : Cal P w Γ.K mg base CX0 "points_by" 2 ["rule", "first", "second"] (sp_points_by Γ)) : FnOk P w Γ.K mg base (L2.CX P w) 3 f fd ["rule", "first", "second"] (sp_points Γ) := by
  have nd := sc_points.nd
  refine F.okX sc_points (fun vs H Q E h => ?_) (fun cdv A outer s H vs Q E hr h => ⟨t_points Γ E, ?_, rd_points Γ  vs H Q E h⟩)
  · repeat (first | (obtain ⟨rfl, _⟩ := h; rfl) | (obtain ⟨_, h⟩ := h))
  · have hu := hr.units
    exact (pss_cons (ps_set (i := 3) nd rfl (Or.inl rfl) (pe_cal c_most_of (hr.mono (by omega)) (by rfl) pass0 (pa_cons (pv 0) pa_nil)))
  (pss_cons (ps_if (PW.pt (pw_or (pt_not (pt_val (pe_cal c_is_from (hr.mono (by omega)) (by rfl) pass0 (pa_cons (pv 1) (pa_cons pe_int (pa_cons (pv 3) pa_nil)))))) (pw_or (pt_not (pt_val (pe_cal c_is_from (hr.mono (by omega)) (by rfl) pass0 (pa_cons (pv 2) (pa_cons pe_int (pa_cons (pv 3) pa_nil)))))) (pw_or1 (pt_cmpR op_gtU (pe_op op_addU (pv 1) (pv 2)) (pv 3) (nomark _)))))) (pss_one (ps_raise0 rfl (takes_of rfl rfl rfl rfl) T.x_BadSplit rfl)) pss_nil)
  (pss_one (ps_ret (pe_cal c_points_by (hr.mono (by omega)) (by rfl) pass0 (pa_cons (pv 0) (pa_cons (pv 1) (pa_cons (pv 2) pa_nil))))))))
theorem ok_things_in {f : Addr} {fd : FuncData} (F : Fun Γ.K "things_in" "things_in" s_things_in f fd) (T : TX Γ mg) (hm : mg "things_in" = some (.ref f)) (c_is_integer : Cal P w Γ.K mg base CX0 "is_integer" 1 ["value"] (sp_is_integer Γ)) : ∀ n : Nat, FnOk P w Γ.K mg base CX0 (2 + n) f fd ["value"] (spn_things_in Γ n)
  | 0 => by
    have nd := sc_things_in.nd
    refine F.ok (k := 1) sc_things_in (fun vs H Q E h => ?_) (fun cdv A outer s H vs Q E hr h => (rd0_things_in Γ  vs H Q E h).elim)
    repeat (first | (obtain ⟨rfl, _⟩ := h; rfl) | (obtain ⟨_, h⟩ := h))
  | n + 1 => by
    have nd := sc_things_in.nd
    have c_things_in : Cal P w Γ.K mg base CX0 "things_in" (2 + n) ["value"] (spn_things_in Γ n) := ⟨f, fd, ok_things_in F T hm c_is_integer n, hm, F.kp, b_things_in F⟩
    refine F.ok (k := 2 + n) sc_things_in (fun vs H Q E h => ?_) (fun cdv A outer s H vs Q E hr h => ⟨t_things_in Γ n, ?_, rd_things_in Γ  n vs H Q E h⟩)
    · repeat (first | (obtain ⟨rfl, _⟩ := h; rfl) | (obtain ⟨_, h⟩ := h))
    · have hu := hr.units
      exact (pss_cons (ps_if (pt_val (pe_cal c_is_integer (hr.mono (by omega)) (by rfl) pass0 (pa_cons (pv 0) pa_nil))) (pss_one (ps_ret (pe_callTy call_int1 (by rfl) T.b_int (by decide +kernel) (pa_cons (pe_cmpR (op_eqU hu) (pv 0) pe_int (nomark _)) pa_nil)))) pss_nil)
  (pss_cons (ps_if (PW.pt (pw_or (pt_not (pt_val (pe_callB call_isi (by rfl) T.b_isinstance (by decide +kernel) (pa_cons (pv 0) (pa_cons (pe_bltn (by rfl) T.b_tuple (by decide +kernel) (v := .ty "tuple") rfl) pa_nil))))) (pw_or1 (pt_cmpR (op_neU hu) (pe_callB call_len (by rfl) T.b_len (by decide +kernel) (pa_cons (pv 0) pa_nil)) pe_int (nomark _))))) (pss_one (ps_ret pe_int)) pss_nil)
  (pss_cons (ps_set (i := 1) nd rfl (Or.inl rfl) (pe_cal c_things_in (hr.mono (by omega)) (by rfl) pass0 (pa_cons (pe_ix ix_seq (pv 0) pe_int (fun _ _ => rfl)) pa_nil)))
  (pss_cons (ps_set (i := 2) nd rfl (Or.inl rfl) (pe_ifExp (pt_cmpR op_gtU (pv 1) pe_int (nomark _)) (pe_cal c_things_in (hr.mono (by omega)) (by rfl) pass0 (pa_cons (pe_ix ix_seq (pv 0) pe_int (fun _ _ => rfl)) pa_nil)) pe_int))
  (pss_one (ps_ret (pe_ifExp (pt_cmpR op_gtU (pv 2) pe_int (nomark _)) (pe_op op_addU (pv 1) (pv 2)) pe_int)))))))
theorem ok_is_way {f : Addr} {fd : FuncData} (F : Fun Γ.K "is_way" "is_way" s_is_way f fd) (T : TX Γ mg) (c_things_in : Cal P w Γ.K mg base CX0 "things_in" 47 ["value"] (sp_things_in Γ)) : FnOk P w Γ.K mg base CX0 48 f fd ["value"] (sp_is_way Γ) := by
  have nd := sc_is_way.nd
  refine F.ok sc_is_way (fun vs H Q E h => ?_) (fun cdv A outer s H vs Q E hr h => ⟨t_is_way Γ, ?_, rd_is_way Γ  vs H Q E h⟩)
  · repeat (first | (obtain ⟨rfl, _⟩ := h; rfl) | (obtain ⟨_, h⟩ := h))
  · have hu := hr.units
    exact (pss_one (ps_ret (pe_chain op_leU op_leU pe_int (pe_cal c_things_in (hr.mono (by omega)) (by rfl) pass0 (pa_cons (pv 0) pa_nil)) (pe_gint T.c_MOST_THINGS (by rfl)))))
theorem ok_check_way {f : Addr} {fd : FuncData} (F : Fun Γ.K "check_way" "check_way" s_check_way f fd) (T : TX Γ mg) (c_is_way : Cal P w Γ.K mg base CX0 "is_way" 48 ["value"] (sp_is_way Γ)) : FnOk P w Γ.K mg base (L2.CX P w) 49 f fd ["way"] (sp_check_way Γ) := by
  have nd := sc_check_way.nd
  refine F.okX sc_check_way (fun vs H Q E h => ?_) (fun cdv A outer s H vs Q E hr h => ⟨t_check_way Γ E, ?_, rd_check_way Γ  vs H Q E h⟩)
  · repeat (first | (obtain ⟨rfl, _⟩ := h; rfl) | (obtain ⟨_, h⟩ := h))
  · have hu := hr.units
    exact (pss_one (ps_if (pt_not (pt_val (pe_cal c_is_way (hr.mono (by omega)) (by rfl) pass0 (pa_cons (pv 0) pa_nil)))) (pss_one (ps_raise0 rfl (takes_of rfl rfl rfl rfl) T.x_BadWay rfl)) pss_nil))
theorem ok_splits_of {f : Addr} {fd : FuncData} (F : Fun Γ.K "splits_of" "splits_of" s_splits_of f fd) (T : TX Γ mg) (hm : mg "splits_of" = some (.ref f)) (c_things_in : Cal P w Γ.K mg base CX0 "things_in" 47 ["value"] (sp_things_in Γ)) : ∀ n : Nat, FnOk P w Γ.K mg base CX0 (48 + n) f fd ["way"] (spn_splits_of Γ n)
  | 0 => by
    have nd := sc_splits_of.nd
    refine F.ok (k := 47) sc_splits_of (fun vs H Q E h => ?_) (fun cdv A outer s H vs Q E hr h => (rd0_splits_of Γ  vs H Q E h).elim)
    repeat (first | (obtain ⟨rfl, _⟩ := h; rfl) | (obtain ⟨_, h⟩ := h))
  | n + 1 => by
    have nd := sc_splits_of.nd
    have c_splits_of : Cal P w Γ.K mg base CX0 "splits_of" (48 + n) ["way"] (spn_splits_of Γ n) := ⟨f, fd, ok_splits_of F T hm c_things_in n, hm, F.kp, b_splits_of F⟩
    refine F.ok (k := 48 + n) sc_splits_of (fun vs H Q E h => ?_) (fun cdv A outer s H vs Q E hr h => ⟨t_splits_of Γ n, ?_, rd_splits_of Γ  n vs H Q E h⟩)
    · repeat (first | (obtain ⟨rfl, _⟩ := h; rfl) | (obtain ⟨_, h⟩ := h))
    · have hu := hr.units
      exact (pss_cons (ps_if (pt_not (pt_val (pe_callB call_isi (by rfl) T.b_isinstance (by decide +kernel) (pa_cons (pv 0) (pa_cons (pe_bltn (by rfl) T.b_tuple (by decide +kernel) (v := .ty "tuple") rfl) pa_nil))))) (pss_one (ps_ret (pe_lst pa_nil))) pss_nil)
  (pss_one (ps_ret (pe_lst (pa_cons (pe_tup (pa_cons (pe_cal c_things_in (hr.mono (by omega)) (by rfl) pass0 (pa_cons (pe_ix ix_seq (pv 0) pe_int (fun _ _ => rfl)) pa_nil)) (pa_cons (pe_cal c_things_in (hr.mono (by omega)) (by rfl) pass0 (pa_cons (pe_ix ix_seq (pv 0) pe_int (fun _ _ => rfl)) pa_nil)) pa_nil))) (StX.pa_star (pe_cal c_splits_of (hr.mono (by omega)) (by rfl) pass0 (pa_cons (pe_ix ix_seq (pv 0) pe_int (fun _ _ => rfl)) pa_nil)) (StX.pa_star (pe_cal c_splits_of (hr.mono (by omega)) (by rfl) pass0 (pa_cons (pe_ix ix_seq (pv 0) pe_int (fun _ _ => rfl)) pa_nil)) pa_nil)))))))
theorem ok_row_by {f : Addr} {fd : FuncData} (F : Fun Γ.K "row_by" "row_by" s_row_by f fd) (T : TX Γ mg) (c_points_by : Cal P w Γ.K mg base CX0 "points_by" 2 ["rule", "first", "second"] (sp_points_by Γ)) (c_splits_of : Cal P w Γ.K mg base CX0 "splits_of" 93 ["way"] (sp_splits_of Γ)) : FnOk P w Γ.K mg base CX0 94 f fd ["rule", "way"] (sp_row_by Γ) := by
  have nd := sc_row_by.nd
  refine F.ok sc_row_by (fun vs H Q E h => ?_) (fun cdv A outer s H vs Q E hr h => ⟨t_row_by Γ, ?_, rd_row_by Γ  vs H Q E h⟩)
  · repeat (first | (obtain ⟨rfl, _⟩ := h; rfl) | (obtain ⟨_, h⟩ := h))
  · have hu := hr.units
    exact (pss_one (ps_ret (pe_lc (own := [("first", 2), ("second", 3)]) (g := (gTup Γ.K 2 (gCons (gName 2) (gCons (gName 3) gNil)))) (tt := tYes) rfl nd (pi_seq (pe_cal c_splits_of (hr.mono (by omega)) (by rfl) pass0 (pa_cons (pv 1) pa_nil))) (blkOk_by (N := N_row_by) (sc := (defScope s_row_by)) (own := [("first", 2), ("second", 3)]) (by decide +kernel)) (fun _ _ _ _ _ => (pg_tup rfl (pgs_cons (pg_name (i := 2) nd rfl (Or.inl rfl)) (pgs_cons (pg_name (i := 3) nd rfl (Or.inl rfl)) pgs_nil)))) (fun _ _ _ _ _ => pts_nil) (fun _ _ _ _ _ => (pe_cal c_points_by (hr.mono (by omega)) (by rfl) pass0 (pa_cons (pv 0) (pa_cons (pv 2) (pa_cons (pv 3) pa_nil))))))))
theorem ok_check_way_of {f : Addr} {fd : FuncData} (F : Fun Γ.K "check_way_of" "check_way_of" s_check_way_of f fd) (T : TX Γ mg) (c_check_way : Cal P w Γ.K mg base (L2.CX P w) "check_way" 49 ["way"] (sp_check_way Γ)) (c_most_of : Cal P w Γ.K mg base CX0 "most_of" 1 ["rule"] (sp_most_of Γ)) (c_things_in : Cal P w Γ.K mg base CX0 "things_in" 47 ["value"] (sp_things_in Γ)) : FnOk P w Γ.K mg base (L2.CX P w) 50 f fd ["rule", "way"] (sp_check_way_of Γ) := by
  have nd := sc_check_way_of.nd
  refine F.okX sc_check_way_of (fun vs H Q E h => ?_) (fun cdv A outer s H vs Q E hr h => ⟨t_check_way_of Γ E, ?_, rd_check_way_of Γ  vs H Q E h⟩)
  · repeat (first | (obtain ⟨rfl, _⟩ := h; rfl) | (obtain ⟨_, h⟩ := h))
  · have hu := hr.units
    exact (pss_cons (ps_expr (pe_cal c_check_way (hr.mono (by omega)) (by rfl) (passes_call (takes_of rfl rfl rfl rfl) (fun _ _ _ _ z => z)) (pa_cons (pv 1) pa_nil)))
  (pss_one (ps_if (pt_cmpR op_gtU (pe_cal c_things_in (hr.mono (by omega)) (by rfl) pass0 (pa_cons (pv 1) pa_nil)) (pe_cal c_most_of (hr.mono (by omega)) (by rfl) pass0 (pa_cons (pv 0) pa_nil)) (nomark _)) (pss_one (ps_raise0 rfl (takes_of rfl rfl rfl rfl) T.x_BadHeap rfl)) pss_nil)))
theorem ok_row_of {f : Addr} {fd : FuncData} (F : Fun Γ.K "row_of" "row_of" s_row_of f fd) (T : TX Γ mg) (c_check_way_of : Cal P w Γ.K mg base (L2.CX P w) "check_way_of" 50 ["rule", "way"] (sp_check_way_of Γ)) (c_row_by : Cal P w Γ.K mg base CX0 "row_by" 94 ["rule", "way"] (sp_row_by Γ)) : FnOk P w Γ.K mg base (L2.CX P w) 95 f fd ["rule", "way"] (sp_row_of Γ) := by
  have nd := sc_row_of.nd
  refine F.okX sc_row_of (fun vs H Q E h => ?_) (fun cdv A outer s H vs Q E hr h => ⟨t_row_of Γ E, ?_, rd_row_of Γ  vs H Q E h⟩)
  · repeat (first | (obtain ⟨rfl, _⟩ := h; rfl) | (obtain ⟨_, h⟩ := h))
  · have hu := hr.units
    exact (pss_cons (ps_expr (pe_cal c_check_way_of (hr.mono (by omega)) (by rfl) (passes_call (takes_of rfl rfl rfl rfl) (fun _ _ _ _ z => z)) (pa_cons (pv 0) (pa_cons (pv 1) pa_nil))))
  (pss_one (ps_ret (pe_cal c_row_by (hr.mono (by omega)) (by rfl) pass0 (pa_cons (pv 0) (pa_cons (pv 1) pa_nil))))))
theorem ok_counts_to {f : Addr} {fd : FuncData} (F : Fun Γ.K "counts_to" "counts_to" s_counts_to f fd) (T : TX Γ mg) : FnOk P w Γ.K mg base CX0 1 f fd ["heap"] (sp_counts_to Γ) := by
  have nd := sc_counts_to.nd
  refine F.ok sc_counts_to (fun vs H Q E h => ?_) (fun cdv A outer s H vs Q E hr h => ⟨t_counts_to Γ, ?_, rd_counts_to Γ  vs H Q E h⟩)
  · repeat (first | (obtain ⟨rfl, _⟩ := h; rfl) | (obtain ⟨_, h⟩ := h))
  · have hu := hr.units
    exact (pss_cons (ps_set (i := 1) nd rfl (Or.inr rfl) (pe_lst (pa_cons pe_int (pa_cons pe_int pa_nil))))
  (pss_cons (ps_for PassesOwn.never rfl (pi_range2 rfl T.b_range (pa_cons pe_int (pa_cons (pe_op op_addU (pv 0) pe_int) pa_nil))) (pg_name (i := 2) nd rfl (Or.inr rfl)) (pss_one (ps_expr (pe_bm PySem.F.plainAttrs_list PySem.F.slot_list_append PySem.F.type_list_append mt_append (pv 1) (pa_cons (pe_callB (cr_sum rfl) (by rfl) T.b_sum (by decide +kernel) (pa_cons (pe_lc (own := [("first", 3)]) (g := (gName 3)) (tt := tYes) rfl nd (pi_range2 rfl T.b_range (pa_cons pe_int (pa_cons (pv 2) pa_nil))) (blkOk_by (N := N_counts_to) (sc := (defScope s_counts_to)) (own := [("first", 3)]) (by decide +kernel)) (fun _ _ _ _ _ => (pg_name (i := 3) nd rfl (Or.inl rfl))) (fun _ _ _ _ _ => pts_nil) (fun _ _ _ _ _ => (pe_op op_mulU (pe_ix ix_seq (pv 1) (pv 3) (fun _ _ => rfl)) (pe_ix ix_seq (pv 1) (pe_op op_subU (pv 2) (pv 3)) (fun _ _ => rfl))))) pa_nil)) pa_nil)))))
  (pss_one (ps_ret (pv 1)))))
theorem ok_how_many {f : Addr} {fd : FuncData} (F : Fun Γ.K "how_many" "how_many" s_how_many f fd) (T : TX Γ mg) (c_counts_to : Cal P w Γ.K mg base CX0 "counts_to" 1 ["heap"] (sp_counts_to Γ)) (c_is_from : Cal P w Γ.K mg base CX0 "is_from" 2 ["value", "low", "high"] (sp_is_from Γ)) : FnOk P w Γ.K mg base (L2.CX P w) 3 f fd ["heap"] (sp_how_many Γ) := by
  have nd := sc_how_many.nd
  refine F.okX sc_how_many (fun vs H Q E h => ?_) (fun cdv A outer s H vs Q E hr h => ⟨t_how_many Γ E, ?_, rd_how_many Γ  vs H Q E h⟩)
  · repeat (first | (obtain ⟨rfl, _⟩ := h; rfl) | (obtain ⟨_, h⟩ := h))
  · have hu := hr.units
    exact (pss_cons (ps_if (pt_not (pt_val (pe_cal c_is_from (hr.mono (by omega)) (by rfl) pass0 (pa_cons (pv 0) (pa_cons pe_int (pa_cons (pe_gint T.c_MOST_THINGS (by rfl)) pa_nil)))))) (pss_one (ps_raise0 rfl (takes_of rfl rfl rfl rfl) T.x_BadHeap rfl)) pss_nil)
  (pss_one (ps_ret (pe_ix ix_seq (pe_cal c_counts_to (hr.mono (by omega)) (by rfl) pass0 (pa_cons (pv 0) pa_nil)) (pv 0) (fun _ _ => rfl)))))
theorem ok_way_at {f : Addr} {fd : FuncData} (F : Fun Γ.K "way_at" "way_at" s_way_at f fd) (T : TX Γ mg) (hm : mg "way_at" = some (.ref f)) : ∀ n : Nat, FnOk P w Γ.K mg base CX0 (1 + n) f fd ["counts", "heap", "k"] (spn_way_at Γ n)
  | 0 => by
    have nd := sc_way_at.nd
    refine F.ok (k := 0) sc_way_at (fun vs H Q E h => ?_) (fun cdv A outer s H vs Q E hr h => (rd0_way_at Γ  vs H Q E h).elim)
    repeat (first | (obtain ⟨rfl, _⟩ := h; rfl) | (obtain ⟨_, h⟩ := h))
  | n + 1 => by
    have nd := sc_way_at.nd
    have c_way_at : Cal P w Γ.K mg base CX0 "way_at" (1 + n) ["counts", "heap", "k"] (spn_way_at Γ n) := ⟨f, fd, ok_way_at F T hm  n, hm, F.kp, b_way_at F⟩
    refine F.ok (k := 1 + n) sc_way_at (fun vs H Q E h => ?_) (fun cdv A outer s H vs Q E hr h => ⟨t_way_at Γ n, ?_, rd_way_at Γ  n vs H Q E h⟩)
    · repeat (first | (obtain ⟨rfl, _⟩ := h; rfl) | (obtain ⟨_, h⟩ := h))
    · have hu := hr.units
      exact (pss_cons (ps_if (pt_cmpR (op_eqU hu) (pv 1) pe_int (nomark _)) (pss_one (ps_ret pe_int)) pss_nil)
  (pss_cons (ps_set (i := 3) nd rfl (Or.inl rfl) pe_int)
  (pss_cons (ps_while PassesOwn.never (pt_cmpR op_geU (pv 2) (pe_op op_mulU (pe_ix ix_seq (pv 0) (pv 3) (fun _ _ => rfl)) (pe_ix ix_seq (pv 0) (pe_op op_subU (pv 1) (pv 3)) (fun _ _ => rfl))) (nomark _)) (pss_cons (ps_aug (i := 2) nd rfl (Or.inl rfl) (pe_op op_mulU (pe_ix ix_seq (pv 0) (pv 3) (fun _ _ => rfl)) (pe_ix ix_seq (pv 0) (pe_op op_subU (pv 1) (pv 3)) (fun _ _ => rfl))) ip_sub)
  (pss_one (ps_aug (i := 3) nd rfl (Or.inl rfl) pe_int ip_add))))
  (pss_cons (ps_set (i := 4) nd rfl (Or.inl rfl) (pe_ix ix_seq (pv 0) (pe_op op_subU (pv 1) (pv 3)) (fun _ _ => rfl)))
  (pss_one (ps_ret (pe_tup (pa_cons (pe_cal c_way_at (hr.mono (by omega)) (by rfl) pass0 (pa_cons (pv 0) (pa_cons (pv 3) (pa_cons (pe_op op_divU (pv 2) (pv 4)) pa_nil)))) (pa_cons (pe_cal c_way_at (hr.mono (by omega)) (by rfl) pass0 (pa_cons (pv 0) (pa_cons (pe_op op_subU (pv 1) (pv 3)) (pa_cons (pe_op op_modU (pv 2) (pv 4)) pa_nil)))) pa_nil)))))))))
theorem ok_kth {f : Addr} {fd : FuncData} (F : Fun Γ.K "kth" "kth" s_kth f fd) (T : TX Γ mg) (c_counts_to : Cal P w Γ.K mg base CX0 "counts_to" 1 ["heap"] (sp_counts_to Γ)) (c_is_from : Cal P w Γ.K mg base CX0 "is_from" 2 ["value", "low", "high"] (sp_is_from Γ)) (c_way_at : Cal P w Γ.K mg base CX0 "way_at" 46 ["counts", "heap", "k"] (sp_way_at Γ)) : FnOk P w Γ.K mg base (L2.CX P w) 47 f fd ["heap", "k"] (sp_kth Γ) := by
  have nd := sc_kth.nd
  refine F.okX sc_kth (fun vs H Q E h => ?_) (fun cdv A outer s H vs Q E hr h => ⟨t_kth Γ E, ?_, rd_kth Γ  vs H Q E h⟩)
  · repeat (first | (obtain ⟨rfl, _⟩ := h; rfl) | (obtain ⟨_, h⟩ := h))
  · have hu := hr.units
    exact (pss_cons (ps_if (pt_not (pt_val (pe_cal c_is_from (hr.mono (by omega)) (by rfl) pass0 (pa_cons (pv 0) (pa_cons pe_int (pa_cons (pe_gint T.c_MOST_THINGS (by rfl)) pa_nil)))))) (pss_one (ps_raise0 rfl (takes_of rfl rfl rfl rfl) T.x_BadHeap rfl)) pss_nil)
  (pss_cons (ps_set (i := 2) nd rfl (Or.inl rfl) (pe_cal c_counts_to (hr.mono (by omega)) (by rfl) pass0 (pa_cons (pv 0) pa_nil)))
  (pss_cons (ps_if (pt_not (pt_val (pe_cal c_is_from (hr.mono (by omega)) (by rfl) pass0 (pa_cons (pv 1) (pa_cons pe_int (pa_cons (pe_op op_subU (pe_ix ix_seq (pv 2) (pv 0) (fun _ _ => rfl)) pe_int) pa_nil)))))) (pss_one (ps_raise0 rfl (takes_of rfl rfl rfl rfl) T.x_BadNumber rfl)) pss_nil)
  (pss_one (ps_ret (pe_cal c_way_at (hr.mono (by omega)) (by rfl) pass0 (pa_cons (pv 2) (pa_cons (pv 0) (pa_cons (pv 1) pa_nil)))))))))
theorem ok_rank_by {f : Addr} {fd : FuncData} (F : Fun Γ.K "rank_by" "rank_by" s_rank_by f fd) (T : TX Γ mg) (hm : mg "rank_by" = some (.ref f)) (c_things_in : Cal P w Γ.K mg base CX0 "things_in" 47 ["value"] (sp_things_in Γ)) : ∀ n : Nat, FnOk P w Γ.K mg base CX0 (48 + n) f fd ["counts", "way"] (spn_rank_by Γ n)
  | 0 => by
    have nd := sc_rank_by.nd
    refine F.ok (k := 47) sc_rank_by (fun vs H Q E h => ?_) (fun cdv A outer s H vs Q E hr h => (rd0_rank_by Γ  vs H Q E h).elim)
    repeat (first | (obtain ⟨rfl, _⟩ := h; rfl) | (obtain ⟨_, h⟩ := h))
  | n + 1 => by
    have nd := sc_rank_by.nd
    have c_rank_by : Cal P w Γ.K mg base CX0 "rank_by" (48 + n) ["counts", "way"] (spn_rank_by Γ n) := ⟨f, fd, ok_rank_by F T hm c_things_in n, hm, F.kp, b_rank_by F⟩
    refine F.ok (k := 48 + n) sc_rank_by (fun vs H Q E h => ?_) (fun cdv A outer s H vs Q E hr h => ⟨t_rank_by Γ n, ?_, rd_rank_by Γ  n vs H Q E h⟩)
    · repeat (first | (obtain ⟨rfl, _⟩ := h; rfl) | (obtain ⟨_, h⟩ := h))
    · have hu := hr.units
      exact (pss_cons (ps_if (pt_not (pt_val (pe_callB call_isi (by rfl) T.b_isinstance (by decide +kernel) (pa_cons (pv 1) (pa_cons (pe_bltn (by rfl) T.b_tuple (by decide +kernel) (v := .ty "tuple") rfl) pa_nil))))) (pss_one (ps_ret pe_int)) pss_nil)
  (pss_cons (ps_asg (pe_tup (pa_cons (pe_cal c_things_in (hr.mono (by omega)) (by rfl) pass0 (pa_cons (pe_ix ix_seq (pv 1) pe_int (fun _ _ => rfl)) pa_nil)) (pa_cons (pe_cal c_things_in (hr.mono (by omega)) (by rfl) pass0 (pa_cons (pe_ix ix_seq (pv 1) pe_int (fun _ _ => rfl)) pa_nil)) pa_nil))) (pg_tup rfl (pgs_cons (pg_name (i := 2) nd rfl (Or.inr rfl)) (pgs_cons (pg_name (i := 3) nd rfl (Or.inr rfl)) pgs_nil))))
  (pss_cons (ps_set (i := 4) nd rfl (Or.inl rfl) (pe_callB (cr_sum rfl) (by rfl) T.b_sum (by decide +kernel) (pa_cons (pe_lc (own := [("one", 5)]) (g := (gName 5)) (tt := tYes) rfl nd (pi_range2 rfl T.b_range (pa_cons pe_int (pa_cons (pv 2) pa_nil))) (blkOk_by (N := N_rank_by) (sc := (defScope s_rank_by)) (own := [("one", 5)]) (by decide +kernel)) (fun _ _ _ _ _ => (pg_name (i := 5) nd rfl (Or.inl rfl))) (fun _ _ _ _ _ => pts_nil) (fun _ _ _ _ _ => (pe_op op_mulU (pe_ix ix_seq (pv 0) (pv 5) (fun _ _ => rfl)) (pe_ix ix_seq (pv 0) (pe_op op_subU (pe_op op_addU (pv 2) (pv 3)) (pv 5)) (fun _ _ => rfl))))) pa_nil)))
  (pss_one (ps_ret (pe_op op_addU (pe_op op_addU (pv 4) (pe_op op_mulU (pe_cal c_rank_by (hr.mono (by omega)) (by rfl) pass0 (pa_cons (pv 0) (pa_cons (pe_ix ix_seq (pv 1) pe_int (fun _ _ => rfl)) pa_nil))) (pe_ix ix_seq (pv 0) (pv 3) (fun _ _ => rfl)))) (pe_cal c_rank_by (hr.mono (by omega)) (by rfl) pass0 (pa_cons (pv 0) (pa_cons (pe_ix ix_seq (pv 1) pe_int (fun _ _ => rfl)) pa_nil)))))))))
theorem ok_rank {f : Addr} {fd : FuncData} (F : Fun Γ.K "rank" "rank" s_rank f fd) (T : TX Γ mg) (c_check_way : Cal P w Γ.K mg base (L2.CX P w) "check_way" 49 ["way"] (sp_check_way Γ)) (c_counts_to : Cal P w Γ.K mg base CX0 "counts_to" 1 ["heap"] (sp_counts_to Γ)) (c_rank_by : Cal P w Γ.K mg base CX0 "rank_by" 93 ["counts", "way"] (sp_rank_by Γ)) (c_things_in : Cal P w Γ.K mg base CX0 "things_in" 47 ["value"] (sp_things_in Γ)) : FnOk P w Γ.K mg base (L2.CX P w) 94 f fd ["way"] (sp_rank Γ) := by
  have nd := sc_rank.nd
  refine F.okX sc_rank (fun vs H Q E h => ?_) (fun cdv A outer s H vs Q E hr h => ⟨t_rank Γ E, ?_, rd_rank Γ  vs H Q E h⟩)
  · repeat (first | (obtain ⟨rfl, _⟩ := h; rfl) | (obtain ⟨_, h⟩ := h))
  · have hu := hr.units
    exact (pss_cons (ps_expr (pe_cal c_check_way (hr.mono (by omega)) (by rfl) (passes_call (takes_of rfl rfl rfl rfl) (fun _ _ _ _ z => z)) (pa_cons (pv 0) pa_nil)))
  (pss_one (ps_ret (pe_cal c_rank_by (hr.mono (by omega)) (by rfl) pass0 (pa_cons (pe_cal c_counts_to (hr.mono (by omega)) (by rfl) pass0 (pa_cons (pe_cal c_things_in (hr.mono (by omega)) (by rfl) pass0 (pa_cons (pv 0) pa_nil)) pa_nil)) (pa_cons (pv 0) pa_nil))))))
theorem ok_turned_at {f : Addr} {fd : FuncData} (F : Fun Γ.K "turned_at" "turned_at" s_turned_at f fd) (T : TX Γ mg) (hm : mg "turned_at" = some (.ref f)) : ∀ n : Nat, FnOk P w Γ.K mg base CX0 (1 + n) f fd ["way", "path"] (spn_turned_at Γ n)
  | 0 => by
    have nd := sc_turned_at.nd
    refine F.ok (k := 0) sc_turned_at (fun vs H Q E h => ?_) (fun cdv A outer s H vs Q E hr h => (rd0_turned_at Γ  vs H Q E h).elim)
    repeat (first | (obtain ⟨rfl, _⟩ := h; rfl) | (obtain ⟨_, h⟩ := h))
  | n + 1 => by
    have nd := sc_turned_at.nd
    have c_turned_at : Cal P w Γ.K mg base CX0 "turned_at" (1 + n) ["way", "path"] (spn_turned_at Γ n) := ⟨f, fd, ok_turned_at F T hm  n, hm, F.kp, b_turned_at F⟩
    refine F.ok (k := 1 + n) sc_turned_at (fun vs H Q E h => ?_) (fun cdv A outer s H vs Q E hr h => ⟨t_turned_at Γ n, ?_, rd_turned_at Γ  n vs H Q E h⟩)
    · repeat (first | (obtain ⟨rfl, _⟩ := h; rfl) | (obtain ⟨_, h⟩ := h))
    · have hu := hr.units
      exact (pss_cons (ps_if (pt_not (pt_val (pe_callB call_isi (by rfl) T.b_isinstance (by decide +kernel) (pa_cons (pv 0) (pa_cons (pe_bltn (by rfl) T.b_tuple (by decide +kernel) (v := .ty "tuple") rfl) pa_nil))))) (pss_one (ps_ret pe_non)) pss_nil)
  (pss_cons (ps_if (pt_cmpR op_gtU (pe_callB call_len (by rfl) T.b_len (by decide +kernel) (pa_cons (pv 1) pa_nil)) pe_int (nomark _)) (pss_cons (ps_if (pt_cmpR (op_eqU hu) (pe_ix ix_seq (pv 1) pe_int (fun _ _ => rfl)) pe_int (nomark _)) (pss_one (ps_ret pe_non)) pss_nil)
  (pss_cons (ps_set (i := 2) nd rfl (Or.inl rfl) (pe_cal c_turned_at (hr.mono (by omega)) (by rfl) pass0 (pa_cons (pe_ix ix_seq (pv 0) (pe_ix ix_seq (pv 1) pe_int (fun _ _ => rfl)) (fun _ _ => rfl)) (pa_cons (pe_slice sl_U (pv 1) (po_some pe_int) po_none) pa_nil))))
  (pss_cons (ps_if (pt_cmpR op_isU (pv 2) pe_non (nomark _)) (pss_one (ps_ret pe_non)) pss_nil)
  (pss_one (ps_ret (pe_ifExp (pt_cmpR (op_eqU hu) (pe_ix ix_seq (pv 1) pe_int (fun _ _ => rfl)) pe_int (nomark _)) (pe_tup (pa_cons (pv 2) (pa_cons (pe_ix ix_seq (pv 0) pe_int (fun _ _ => rfl)) pa_nil))) (pe_tup (pa_cons (pe_ix ix_seq (pv 0) pe_int (fun _ _ => rfl)) (pa_cons (pv 2) pa_nil))))))))) pss_nil)
  (pss_cons (ps_if (PW.pt (pw_and (pt_cmpR (op_eqU hu) (pe_ix ix_seq (pv 1) pe_int (fun _ _ => rfl)) pe_int (nomark _)) (pw_and1 (pt_val (pe_callB call_isi (by rfl) T.b_isinstance (by decide +kernel) (pa_cons (pe_ix ix_seq (pv 0) pe_int (fun _ _ => rfl)) (pa_cons (pe_bltn (by rfl) T.b_tuple (by decide +kernel) (v := .ty "tuple") rfl) pa_nil))))))) (pss_one (ps_ret (pe_tup (pa_cons (pe_ix ix_seq (pe_ix ix_seq (pv 0) pe_int (fun _ _ => rfl)) pe_int (fun _ _ => rfl)) (pa_cons (pe_tup (pa_cons (pe_ix ix_seq (pe_ix ix_seq (pv 0) pe_int (fun _ _ => rfl)) pe_int (fun _ _ => rfl)) (pa_cons (pe_ix ix_seq (pv 0) pe_int (fun _ _ => rfl)) pa_nil))) pa_nil))))) pss_nil)
  (pss_cons (ps_if (PW.pt (pw_and (pt_cmpR (op_eqU hu) (pe_ix ix_seq (pv 1) pe_int (fun _ _ => rfl)) pe_int (nomark _)) (pw_and1 (pt_val (pe_callB call_isi (by rfl) T.b_isinstance (by decide +kernel) (pa_cons (pe_ix ix_seq (pv 0) pe_int (fun _ _ => rfl)) (pa_cons (pe_bltn (by rfl) T.b_tuple (by decide +kernel) (v := .ty "tuple") rfl) pa_nil))))))) (pss_one (ps_ret (pe_tup (pa_cons (pe_tup (pa_cons (pe_ix ix_seq (pv 0) pe_int (fun _ _ => rfl)) (pa_cons (pe_ix ix_seq (pe_ix ix_seq (pv 0) pe_int (fun _ _ => rfl)) pe_int (fun _ _ => rfl)) pa_nil))) (pa_cons (pe_ix ix_seq (pe_ix ix_seq (pv 0) pe_int (fun _ _ => rfl)) pe_int (fun _ _ => rfl)) pa_nil))))) pss_nil)
  (pss_one (ps_ret (pe_ifExp (pt_cmpR (op_eqU hu) (pe_ix ix_seq (pv 1) pe_int (fun _ _ => rfl)) pe_int (nomark _)) (pe_tup (pa_cons (pe_ix ix_seq (pv 0) pe_int (fun _ _ => rfl)) (pa_cons (pe_ix ix_seq (pv 0) pe_int (fun _ _ => rfl)) pa_nil))) pe_non)))))))
theorem ok_turned {f : Addr} {fd : FuncData} (F : Fun Γ.K "turned" "turned" s_turned f fd) (T : TX Γ mg) (c_check_way : Cal P w Γ.K mg base (L2.CX P w) "check_way" 49 ["way"] (sp_check_way Γ)) (c_is_from : Cal P w Γ.K mg base CX0 "is_from" 2 ["value", "low", "high"] (sp_is_from Γ)) (c_turned_at : Cal P w Γ.K mg base CX0 "turned_at" 46 ["way", "path"] (sp_turned_at Γ)) : FnOk P w Γ.K mg base (L2.CX P w) 50 f fd ["way", "path"] (sp_turned Γ) := by
  have nd := sc_turned.nd
  refine F.okX sc_turned (fun vs H Q E h => ?_) (fun cdv A outer s H vs Q E hr h => ⟨t_turned Γ E, ?_, rd_turned Γ  vs H Q E h⟩)
  · repeat (first | (obtain ⟨rfl, _⟩ := h; rfl) | (obtain ⟨_, h⟩ := h))
  · have hu := hr.units
    exact (pss_cons (ps_expr (pe_cal c_check_way (hr.mono (by omega)) (by rfl) (passes_call (takes_of rfl rfl rfl rfl) (fun _ _ _ _ z => z)) (pa_cons (pv 0) pa_nil)))
  (pss_cons (ps_if (PW.pt (pw_or (pt_not (pt_val (pe_callB call_isi (by rfl) T.b_isinstance (by decide +kernel) (pa_cons (pv 1) (pa_cons (pe_bltn (by rfl) T.b_tuple (by decide +kernel) (v := .ty "tuple") rfl) pa_nil))))) (pw_or (pt_not (pt_val (pe_callB (cr_all rfl) (by rfl) T.b_all (by decide +kernel) (pa_cons (pe_lc (own := [("one", 3)]) (g := (gName 3)) (tt := tYes) rfl nd (pi_seq (pv 1)) (blkOk_by (N := N_turned) (sc := (defScope s_turned)) (own := [("one", 3)]) (by decide +kernel)) (fun _ _ _ _ _ => (pg_name (i := 3) nd rfl (Or.inl rfl))) (fun _ _ _ _ _ => pts_nil) (fun _ _ _ _ _ => (pe_cal c_is_from (hr.mono (by omega)) (by rfl) pass0 (pa_cons (pv 3) (pa_cons pe_int (pa_cons pe_int pa_nil)))))) pa_nil)))) (pw_or1 (pt_cmpR (op_eqU hu) (pe_callB call_len (by rfl) T.b_len (by decide +kernel) (pa_cons (pv 1) pa_nil)) pe_int (nomark _)))))) (pss_one (ps_raise0 rfl (takes_of rfl rfl rfl rfl) T.x_BadSplit rfl)) pss_nil)
  (pss_cons (ps_set (i := 2) nd rfl (Or.inl rfl) (pe_cal c_turned_at (hr.mono (by omega)) (by rfl) pass0 (pa_cons (pv 0) (pa_cons (pv 1) pa_nil))))
  (pss_cons (ps_if (pt_cmpR op_isU (pv 2) pe_non (nomark _)) (pss_one (ps_raise0 rfl (takes_of rfl rfl rfl rfl) T.x_BadSplit rfl)) pss_nil)
  (pss_one (ps_ret (pv 2)))))))
theorem ok_table_of {f : Addr} {fd : FuncData} (F : Fun Γ.K "table_of" "table_of" s_table_of f fd) (T : TX Γ mg) (c_points_by : Cal P w Γ.K mg base CX0 "points_by" 2 ["rule", "first", "second"] (sp_points_by Γ)) : FnOk P w Γ.K mg base CX0 3 f fd ["rule", "heap", "sign"] (sp_table_of Γ) := by
  have nd := sc_table_of.nd
  refine F.ok sc_table_of (fun vs H Q E h => ?_) (fun cdv A outer s H vs Q E hr h => ⟨t_table_of Γ, ?_, rd_table_of Γ  vs H Q E h⟩)
  · repeat (first | (obtain ⟨rfl, _⟩ := h; rfl) | (obtain ⟨_, h⟩ := h))
  · have hu := hr.units
    exact (pss_cons (ps_set (i := 3) nd rfl (Or.inl rfl) (pe_lst (pa_cons pe_non (pa_cons pe_int pa_nil))))
  (pss_cons (ps_for PassesOwn.never rfl (pi_range2 rfl T.b_range (pa_cons pe_int (pa_cons (pe_op op_addU (pv 1) pe_int) pa_nil))) (pg_name (i := 4) nd rfl (Or.inl rfl)) (pss_cons (ps_set (i := 5) nd rfl (Or.inl rfl) (pe_lst pa_nil))
  (pss_cons (ps_for PassesOwn.never rfl (pi_range2 rfl T.b_range (pa_cons pe_int (pa_cons (pv 4) pa_nil))) (pg_name (i := 6) nd rfl (Or.inl rfl)) (pss_one (ps_expr (pe_bm PySem.F.plainAttrs_list PySem.F.slot_list_append PySem.F.type_list_append mt_append (pv 5) (pa_cons (pe_op op_addU (pe_op op_addU (pe_ix ix_seq (pv 3) (pv 6) (fun _ _ => rfl)) (pe_ix ix_seq (pv 3) (pe_op op_subU (pv 4) (pv 6)) (fun _ _ => rfl))) (pe_op op_mulU (pv 2) (pe_cal c_points_by (hr.mono (by omega)) (by rfl) pass0 (pa_cons (pv 0) (pa_cons (pv 6) (pa_cons (pe_op op_subU (pv 4) (pv 6)) pa_nil)))))) pa_nil)))))
  (pss_one (ps_expr (pe_bm PySem.F.plainAttrs_list PySem.F.slot_list_append PySem.F.type_list_append mt_append (pv 3) (pa_cons (pe_callB (cr_min rfl) (by rfl) T.b_min (by decide +kernel) (pa_cons (pv 5) pa_nil)) pa_nil)))))))
  (pss_one (ps_ret (pv 3)))))
theorem ok_least {f : Addr} {fd : FuncData} (F : Fun Γ.K "least" "least" s_least f fd) (T : TX Γ mg) (c_check_heap : Cal P w Γ.K mg base (L2.CX P w) "check_heap" 3 ["rule", "heap", "most"] (sp_check_heap Γ)) (c_table_of : Cal P w Γ.K mg base CX0 "table_of" 3 ["rule", "heap", "sign"] (sp_table_of Γ)) : FnOk P w Γ.K mg base (L2.CX P w) 4 f fd ["rule", "heap"] (sp_least Γ) := by
  have nd := sc_least.nd
  refine F.okX sc_least (fun vs H Q E h => ?_) (fun cdv A outer s H vs Q E hr h => ⟨t_least Γ E, ?_, rd_least Γ  vs H Q E h⟩)
  · repeat (first | (obtain ⟨rfl, _⟩ := h; rfl) | (obtain ⟨_, h⟩ := h))
  · have hu := hr.units
    exact (pss_cons (ps_expr (pe_cal c_check_heap (hr.mono (by omega)) (by rfl) (passes_call (takes_of rfl rfl rfl rfl) (fun _ _ _ _ z => z)) (pa_cons (pv 0) (pa_cons (pv 1) (pa_cons (pe_gint T.c_MOST_THINGS (by rfl)) pa_nil)))))
  (pss_one (ps_ret (pe_ix ix_seq (pe_cal c_table_of (hr.mono (by omega)) (by rfl) pass0 (pa_cons (pv 0) (pa_cons (pv 1) (pa_cons pe_int pa_nil)))) (pv 1) (fun _ _ => rfl)))))
theorem ok_greatest {f : Addr} {fd : FuncData} (F : Fun Γ.K "greatest" "greatest" s_greatest f fd) (T : TX Γ mg) (c_check_heap : Cal P w Γ.K mg base (L2.CX P w) "check_heap" 3 ["rule", "heap", "most"] (sp_check_heap Γ)) (c_table_of : Cal P w Γ.K mg base CX0 "table_of" 3 ["rule", "heap", "sign"] (sp_table_of Γ)) : FnOk P w Γ.K mg base (L2.CX P w) 4 f fd ["rule", "heap"] (sp_greatest Γ) := by
  have nd := sc_greatest.nd
  refine F.okX sc_greatest (fun vs H Q E h => ?_) (fun cdv A outer s H vs Q E hr h => ⟨t_greatest Γ E, ?_, rd_greatest Γ  vs H Q E h⟩)
  · repeat (first | (obtain ⟨rfl, _⟩ := h; rfl) | (obtain ⟨_, h⟩ := h))
  · have hu := hr.units
    exact (pss_cons (ps_expr (pe_cal c_check_heap (hr.mono (by omega)) (by rfl) (passes_call (takes_of rfl rfl rfl rfl) (fun _ _ _ _ z => z)) (pa_cons (pv 0) (pa_cons (pv 1) (pa_cons (pe_gint T.c_MOST_THINGS (by rfl)) pa_nil)))))
  (pss_one (ps_ret (pe_op op_subU pe_int (pe_ix ix_seq (pe_cal c_table_of (hr.mono (by omega)) (by rfl) pass0 (pa_cons (pv 0) (pa_cons (pv 1) (pa_cons (pe_un un_neg pe_int) pa_nil)))) (pv 1) (fun _ _ => rfl))))))
theorem ok_firsts_of {f : Addr} {fd : FuncData} (F : Fun Γ.K "firsts_of" "firsts_of" s_firsts_of f fd) (T : TX Γ mg) (c_points_by : Cal P w Γ.K mg base CX0 "points_by" 2 ["rule", "first", "second"] (sp_points_by Γ)) : FnOk P w Γ.K mg base CX0 3 f fd ["rule", "table", "heap", "sign"] (sp_firsts_of Γ) := by
  have nd := sc_firsts_of.nd
  refine F.ok sc_firsts_of (fun vs H Q E h => ?_) (fun cdv A outer s H vs Q E hr h => ⟨t_firsts_of Γ, ?_, rd_firsts_of Γ  vs H Q E h⟩)
  · repeat (first | (obtain ⟨rfl, _⟩ := h; rfl) | (obtain ⟨_, h⟩ := h))
  · have hu := hr.units
    exact (pss_cons (ps_set (i := 4) nd rfl (Or.inl rfl) (pe_lst pa_nil))
  (pss_cons (ps_for PassesOwn.never rfl (pi_range2 rfl T.b_range (pa_cons pe_int (pa_cons (pv 2) pa_nil))) (pg_name (i := 5) nd rfl (Or.inl rfl)) (pss_one (ps_if (pt_cmpR (op_eqU hu) (pe_op op_addU (pe_op op_addU (pe_ix ix_seq (pv 1) (pv 5) (fun _ _ => rfl)) (pe_ix ix_seq (pv 1) (pe_op op_subU (pv 2) (pv 5)) (fun _ _ => rfl))) (pe_op op_mulU (pv 3) (pe_cal c_points_by (hr.mono (by omega)) (by rfl) pass0 (pa_cons (pv 0) (pa_cons (pv 5) (pa_cons (pe_op op_subU (pv 2) (pv 5)) pa_nil)))))) (pe_ix ix_seq (pv 1) (pv 2) (fun _ _ => rfl)) (nomark _)) (pss_one (ps_expr (pe_bm PySem.F.plainAttrs_list PySem.F.slot_list_append PySem.F.type_list_append mt_append (pv 4) (pa_cons (pv 5) pa_nil)))) pss_nil)))
  (pss_one (ps_ret (pv 4)))))
theorem ok_first_way {f : Addr} {fd : FuncData} (F : Fun Γ.K "first_way" "first_way" s_first_way f fd) (T : TX Γ mg) (hm : mg "first_way" = some (.ref f)) (c_firsts_of : Cal P w Γ.K mg base CX0 "firsts_of" 3 ["rule", "table", "heap", "sign"] (sp_firsts_of Γ)) : ∀ n : Nat, FnOk P w Γ.K mg base CX0 (4 + n) f fd ["rule", "table", "heap", "sign"] (spn_first_way Γ n)
  | 0 => by
    have nd := sc_first_way.nd
    refine F.ok (k := 3) sc_first_way (fun vs H Q E h => ?_) (fun cdv A outer s H vs Q E hr h => (rd0_first_way Γ  vs H Q E h).elim)
    repeat (first | (obtain ⟨rfl, _⟩ := h; rfl) | (obtain ⟨_, h⟩ := h))
  | n + 1 => by
    have nd := sc_first_way.nd
    have c_first_way : Cal P w Γ.K mg base CX0 "first_way" (4 + n) ["rule", "table", "heap", "sign"] (spn_first_way Γ n) := ⟨f, fd, ok_first_way F T hm c_firsts_of n, hm, F.kp, b_first_way F⟩
    refine F.ok (k := 4 + n) sc_first_way (fun vs H Q E h => ?_) (fun cdv A outer s H vs Q E hr h => ⟨t_first_way Γ n, ?_, rd_first_way Γ  n vs H Q E h⟩)
    · repeat (first | (obtain ⟨rfl, _⟩ := h; rfl) | (obtain ⟨_, h⟩ := h))
    · have hu := hr.units
      exact (pss_cons (ps_if (pt_cmpR (op_eqU hu) (pv 2) pe_int (nomark _)) (pss_one (ps_ret pe_int)) pss_nil)
  (pss_cons (ps_set (i := 4) nd rfl (Or.inl rfl) (pe_ix ix_seq (pe_cal c_firsts_of (hr.mono (by omega)) (by rfl) pass0 (pa_cons (pv 0) (pa_cons (pv 1) (pa_cons (pv 2) (pa_cons (pv 3) pa_nil))))) pe_int (fun _ _ => rfl)))
  (pss_one (ps_ret (pe_tup (pa_cons (pe_cal c_first_way (hr.mono (by omega)) (by rfl) pass0 (pa_cons (pv 0) (pa_cons (pv 1) (pa_cons (pv 4) (pa_cons (pv 3) pa_nil))))) (pa_cons (pe_cal c_first_way (hr.mono (by omega)) (by rfl) pass0 (pa_cons (pv 0) (pa_cons (pv 1) (pa_cons (pe_op op_subU (pv 2) (pv 4)) (pa_cons (pv 3) pa_nil))))) pa_nil)))))))
theorem ok_least_way {f : Addr} {fd : FuncData} (F : Fun Γ.K "least_way" "least_way" s_least_way f fd) (T : TX Γ mg) (c_check_heap : Cal P w Γ.K mg base (L2.CX P w) "check_heap" 3 ["rule", "heap", "most"] (sp_check_heap Γ)) (c_first_way : Cal P w Γ.K mg base CX0 "first_way" 49 ["rule", "table", "heap", "sign"] (sp_first_way Γ)) (c_table_of : Cal P w Γ.K mg base CX0 "table_of" 3 ["rule", "heap", "sign"] (sp_table_of Γ)) : FnOk P w Γ.K mg base (L2.CX P w) 50 f fd ["rule", "heap"] (sp_least_way Γ) := by
  have nd := sc_least_way.nd
  refine F.okX sc_least_way (fun vs H Q E h => ?_) (fun cdv A outer s H vs Q E hr h => ⟨t_least_way Γ E, ?_, rd_least_way Γ  vs H Q E h⟩)
  · repeat (first | (obtain ⟨rfl, _⟩ := h; rfl) | (obtain ⟨_, h⟩ := h))
  · have hu := hr.units
    exact (pss_cons (ps_expr (pe_cal c_check_heap (hr.mono (by omega)) (by rfl) (passes_call (takes_of rfl rfl rfl rfl) (fun _ _ _ _ z => z)) (pa_cons (pv 0) (pa_cons (pv 1) (pa_cons (pe_gint T.c_MOST_THINGS (by rfl)) pa_nil)))))
  (pss_one (ps_ret (pe_cal c_first_way (hr.mono (by omega)) (by rfl) pass0 (pa_cons (pv 0) (pa_cons (pe_cal c_table_of (hr.mono (by omega)) (by rfl) pass0 (pa_cons (pv 0) (pa_cons (pv 1) (pa_cons pe_int pa_nil)))) (pa_cons (pv 1) (pa_cons pe_int pa_nil))))))))
theorem ok_greatest_way {f : Addr} {fd : FuncData} (F : Fun Γ.K "greatest_way" "greatest_way" s_greatest_way f fd) (T : TX Γ mg) (c_check_heap : Cal P w Γ.K mg base (L2.CX P w) "check_heap" 3 ["rule", "heap", "most"] (sp_check_heap Γ)) (c_first_way : Cal P w Γ.K mg base CX0 "first_way" 49 ["rule", "table", "heap", "sign"] (sp_first_way Γ)) (c_table_of : Cal P w Γ.K mg base CX0 "table_of" 3 ["rule", "heap", "sign"] (sp_table_of Γ)) : FnOk P w Γ.K mg base (L2.CX P w) 50 f fd ["rule", "heap"] (sp_greatest_way Γ) := by
  have nd := sc_greatest_way.nd
  refine F.okX sc_greatest_way (fun vs H Q E h => ?_) (fun cdv A outer s H vs Q E hr h => ⟨t_greatest_way Γ E, ?_, rd_greatest_way Γ  vs H Q E h⟩)
  · repeat (first | (obtain ⟨rfl, _⟩ := h; rfl) | (obtain ⟨_, h⟩ := h))
  · have hu := hr.units
    exact (pss_cons (ps_expr (pe_cal c_check_heap (hr.mono (by omega)) (by rfl) (passes_call (takes_of rfl rfl rfl rfl) (fun _ _ _ _ z => z)) (pa_cons (pv 0) (pa_cons (pv 1) (pa_cons (pe_gint T.c_MOST_THINGS (by rfl)) pa_nil)))))
  (pss_one (ps_ret (pe_cal c_first_way (hr.mono (by omega)) (by rfl) pass0 (pa_cons (pv 0) (pa_cons (pe_cal c_table_of (hr.mono (by omega)) (by rfl) pass0 (pa_cons (pv 0) (pa_cons (pv 1) (pa_cons (pe_un un_neg pe_int) pa_nil)))) (pa_cons (pv 1) (pa_cons (pe_un un_neg pe_int) pa_nil))))))))
theorem ok_counted {f : Addr} {fd : FuncData} (F : Fun Γ.K "counted" "counted" s_counted f fd) (T : TX Γ mg) (c_firsts_of : Cal P w Γ.K mg base CX0 "firsts_of" 3 ["rule", "table", "heap", "sign"] (sp_firsts_of Γ)) (c_table_of : Cal P w Γ.K mg base CX0 "table_of" 3 ["rule", "heap", "sign"] (sp_table_of Γ)) : FnOk P w Γ.K mg base CX0 4 f fd ["rule", "heap", "sign"] (sp_counted Γ) := by
  have nd := sc_counted.nd
  refine F.ok sc_counted (fun vs H Q E h => ?_) (fun cdv A outer s H vs Q E hr h => ⟨t_counted Γ, ?_, rd_counted Γ  vs H Q E h⟩)
  · repeat (first | (obtain ⟨rfl, _⟩ := h; rfl) | (obtain ⟨_, h⟩ := h))
  · have hu := hr.units
    exact (pss_cons (ps_asg (pe_tup (pa_cons (pe_cal c_table_of (hr.mono (by omega)) (by rfl) pass0 (pa_cons (pv 0) (pa_cons (pv 1) (pa_cons (pv 2) pa_nil)))) (pa_cons (pe_lst (pa_cons pe_int (pa_cons pe_int pa_nil))) pa_nil))) (pg_tup rfl (pgs_cons (pg_name (i := 3) nd rfl (Or.inl rfl)) (pgs_cons (pg_name (i := 4) nd rfl (Or.inr rfl)) pgs_nil))))
  (pss_cons (ps_for PassesOwn.never rfl (pi_range2 rfl T.b_range (pa_cons pe_int (pa_cons (pe_op op_addU (pv 1) pe_int) pa_nil))) (pg_name (i := 5) nd rfl (Or.inr rfl)) (pss_cons (ps_set (i := 6) nd rfl (Or.inl rfl) (pe_cal c_firsts_of (hr.mono (by omega)) (by rfl) pass0 (pa_cons (pv 0) (pa_cons (pv 3) (pa_cons (pv 5) (pa_cons (pv 2) pa_nil))))))
  (pss_one (ps_expr (pe_bm PySem.F.plainAttrs_list PySem.F.slot_list_append PySem.F.type_list_append mt_append (pv 4) (pa_cons (pe_callB (cr_sum rfl) (by rfl) T.b_sum (by decide +kernel) (pa_cons (pe_lc (own := [("first", 7)]) (g := (gName 7)) (tt := tYes) rfl nd (pi_seq (pv 6)) (blkOk_by (N := N_counted) (sc := (defScope s_counted)) (own := [("first", 7)]) (by decide +kernel)) (fun _ _ _ _ _ => (pg_name (i := 7) nd rfl (Or.inl rfl))) (fun _ _ _ _ _ => pts_nil) (fun _ _ _ _ _ => (pe_op op_mulU (pe_ix ix_seq (pv 4) (pv 7) (fun _ _ => rfl)) (pe_ix ix_seq (pv 4) (pe_op op_subU (pv 5) (pv 7)) (fun _ _ => rfl))))) pa_nil)) pa_nil))))))
  (pss_one (ps_ret (pe_ix ix_seq (pv 4) (pv 1) (fun _ _ => rfl))))))
theorem ok_count_least {f : Addr} {fd : FuncData} (F : Fun Γ.K "count_least" "count_least" s_count_least f fd) (T : TX Γ mg) (c_check_heap : Cal P w Γ.K mg base (L2.CX P w) "check_heap" 3 ["rule", "heap", "most"] (sp_check_heap Γ)) (c_counted : Cal P w Γ.K mg base CX0 "counted" 4 ["rule", "heap", "sign"] (sp_counted Γ)) : FnOk P w Γ.K mg base (L2.CX P w) 5 f fd ["rule", "heap"] (sp_count_least Γ) := by
  have nd := sc_count_least.nd
  refine F.okX sc_count_least (fun vs H Q E h => ?_) (fun cdv A outer s H vs Q E hr h => ⟨t_count_least Γ E, ?_, rd_count_least Γ  vs H Q E h⟩)
  · repeat (first | (obtain ⟨rfl, _⟩ := h; rfl) | (obtain ⟨_, h⟩ := h))
  · have hu := hr.units
    exact (pss_cons (ps_expr (pe_cal c_check_heap (hr.mono (by omega)) (by rfl) (passes_call (takes_of rfl rfl rfl rfl) (fun _ _ _ _ z => z)) (pa_cons (pv 0) (pa_cons (pv 1) (pa_cons (pe_gint T.c_MOST_THINGS (by rfl)) pa_nil)))))
  (pss_one (ps_ret (pe_cal c_counted (hr.mono (by omega)) (by rfl) pass0 (pa_cons (pv 0) (pa_cons (pv 1) (pa_cons pe_int pa_nil)))))))
theorem ok_sums_by {f : Addr} {fd : FuncData} (F : Fun Γ.K "sums_by" "sums_by" s_sums_by f fd) (T : TX Γ mg) (c_points_by : Cal P w Γ.K mg base CX0 "points_by" 2 ["rule", "first", "second"] (sp_points_by Γ)) : FnOk P w Γ.K mg base CX0 3 f fd ["rule", "heap"] (sp_sums_by Γ) := by
  have nd := sc_sums_by.nd
  refine F.ok sc_sums_by (fun vs H Q E h => ?_) (fun cdv A outer s H vs Q E hr h => ⟨t_sums_by Γ, ?_, rd_sums_by Γ  vs H Q E h⟩)
  · repeat (first | (obtain ⟨rfl, _⟩ := h; rfl) | (obtain ⟨_, h⟩ := h))
  · have hu := hr.units
    exact (pss_cons (ps_set (i := 2) nd rfl (Or.inl rfl) (pe_lst (pa_cons pe_dnewK (pa_cons (pe_disp (pps_cons pe_int pe_int pps_nil) rfl rfl (by simp) (by decide)) pa_nil))))
  (pss_cons (ps_for PassesOwn.never rfl (pi_range2 rfl T.b_range (pa_cons pe_int (pa_cons (pe_op op_addU (pv 1) pe_int) pa_nil))) (pg_name (i := 3) nd rfl (Or.inl rfl)) (pss_cons (ps_set (i := 4) nd rfl (Or.inl rfl) pe_dnewK)
  (pss_cons (ps_for PassesOwn.never rfl (pi_range2 rfl T.b_range (pa_cons pe_int (pa_cons (pv 3) pa_nil))) (pg_name (i := 5) nd rfl (Or.inl rfl)) (pss_cons (ps_set (i := 6) nd rfl (Or.inl rfl) (pe_cal c_points_by (hr.mono (by omega)) (by rfl) pass0 (pa_cons (pv 0) (pa_cons (pv 5) (pa_cons (pe_op op_subU (pv 3) (pv 5)) pa_nil)))))
  (pss_one (ps_lockM (ps_for PassesOwn.never rfl (pi_items (pe_ix ix_seq (pv 2) (pv 5) (fun _ _ => rfl))) (pg_tup rfl (pgs_cons (pg_name (i := 7) nd rfl (Or.inl rfl)) (pgs_cons (pg_name (i := 8) nd rfl (Or.inl rfl)) pgs_nil))) (pss_one (ps_lockM (ps_for PassesOwn.never rfl (pi_items (pe_ix ix_seq (pv 2) (pe_op op_subU (pv 3) (pv 5)) (fun _ _ => rfl))) (pg_tup rfl (pgs_cons (pg_name (i := 9) nd rfl (Or.inl rfl)) (pgs_cons (pg_name (i := 10) nd rfl (Or.inl rfl)) pgs_nil))) (pss_cons (ps_set (i := 11) nd rfl (Or.inl rfl) (pe_op op_addU (pe_op op_addU (pv 7) (pv 9)) (pv 6)))
  (pss_one (ps_asg (pe_op op_addU (pe_dget2 (un1 hu) (pv 4) (pv 11) pe_int ⟨rfl, rfl, rfl, rfl⟩) (pe_op op_mulU (pv 8) (pv 10))) (pg_sub (pv 4) (pv 11) (set_dict (un1 hu))))))))))))))
  (pss_one (ps_expr (pe_bm PySem.F.plainAttrs_list PySem.F.slot_list_append PySem.F.type_list_append mt_append (pv 2) (pa_cons (pv 4) pa_nil)))))))
  (pss_one (ps_ret (pv 2)))))
theorem ok_all_sums {f : Addr} {fd : FuncData} (F : Fun Γ.K "all_sums" "all_sums" s_all_sums f fd) (T : TX Γ mg) (c_check_heap : Cal P w Γ.K mg base (L2.CX P w) "check_heap" 3 ["rule", "heap", "most"] (sp_check_heap Γ)) (c_sums_by : Cal P w Γ.K mg base CX0 "sums_by" 3 ["rule", "heap"] (sp_sums_by Γ)) : FnOk P w Γ.K mg base (L2.CX P w) 4 f fd ["rule", "heap"] (sp_all_sums Γ) := by
  have nd := sc_all_sums.nd
  refine F.okX sc_all_sums (fun vs H Q E h => ?_) (fun cdv A outer s H vs Q E hr h => ⟨t_all_sums Γ E, ?_, rd_all_sums Γ  vs H Q E h⟩)
  · repeat (first | (obtain ⟨rfl, _⟩ := h; rfl) | (obtain ⟨_, h⟩ := h))
  · have hu := hr.units
    exact (pss_cons (ps_expr (pe_cal c_check_heap (hr.mono (by omega)) (by rfl) (passes_call (takes_of rfl rfl rfl rfl) (fun _ _ _ _ z => z)) (pa_cons (pv 0) (pa_cons (pv 1) (pa_cons (pe_gint T.c_MOST_THINGS (by rfl)) pa_nil)))))
  (pss_cons (ps_if (pt_cmpR op_gtU (pv 1) (pe_gint T.c_MOST_SUMS (by rfl)) (nomark _)) (pss_one (ps_raise0 rfl (takes_of rfl rfl rfl rfl) T.x_TooGreat rfl)) pss_nil)
  (pss_cons (ps_set (i := 2) nd rfl (Or.inr rfl) (pe_ix ix_seq (pe_cal c_sums_by (hr.mono (by omega)) (by rfl) pass0 (pa_cons (pv 0) (pa_cons (pv 1) pa_nil))) (pv 1) (fun _ _ => rfl)))
  (pss_one (ps_ret (pe_lc (own := [("told", 3)]) (g := (gName 3)) (tt := tYes) rfl nd (pi_seq (pe_callB cr_sortedI (by rfl) T.b_sorted (by decide +kernel) (pa_cons (pe_callTy (call_list_dK rfl) (by rfl) T.b_list (by decide +kernel) (pa_cons (pv 2) pa_nil)) pa_nil))) (blkOk_by (N := N_all_sums) (sc := (defScope s_all_sums)) (own := [("told", 3)]) (by decide +kernel)) (fun _ _ _ _ _ => (pg_name (i := 3) nd rfl (Or.inl rfl))) (fun _ _ _ _ _ => pts_nil) (fun _ _ _ _ _ => (pe_tup (pa_cons (pv 3) (pa_cons (pe_dget (un1 hu) (pv 2) (pv 3) (fun _ _ => rfl)) pa_nil))))))))))
theorem ok_triples_of {f : Addr} {fd : FuncData} (F : Fun Γ.K "triples_of" "triples_of" s_triples_of f fd) (T : TX Γ mg) (c_most_of : Cal P w Γ.K mg base CX0 "most_of" 1 ["rule"] (sp_most_of Γ)) : FnOk P w Γ.K mg base CX0 2 f fd ["rule"] (sp_triples_of Γ) := by
  have nd := sc_triples_of.nd
  refine F.ok sc_triples_of (fun vs H Q E h => ?_) (fun cdv A outer s H vs Q E hr h => ⟨t_triples_of Γ, ?_, rd_triples_of Γ T.rule vs H Q E h⟩)
  · repeat (first | (obtain ⟨rfl, _⟩ := h; rfl) | (obtain ⟨_, h⟩ := h))
  · have hu := hr.units
    exact (pss_cons (ps_set (i := 1) nd rfl (Or.inl rfl) (pe_ifExp (pt_cmpR (op_eqU hu) (pe_fld (pv 0) rfl) pe_str (nomark _)) (pe_op op_addU (pe_op op_mulU pe_int (pe_gint T.c_MOST_EXPONENT (by rfl))) pe_int) (pe_cal c_most_of (hr.mono (by omega)) (by rfl) pass0 (pa_cons (pv 0) pa_nil))))
  (pss_cons (ps_set (i := 2) nd rfl (Or.inl rfl) (pe_lst pa_nil))
  (pss_cons (ps_for PassesOwn.never rfl (pi_range2 rfl T.b_range (pa_cons pe_int (pa_cons (pe_op op_addU (pv 1) pe_int) pa_nil))) (pg_name (i := 3) nd rfl (Or.inr rfl)) (pss_one (ps_for PassesOwn.never rfl (pi_range2 rfl T.b_range (pa_cons pe_int (pa_cons (pe_op op_subU (pv 3) pe_int) pa_nil))) (pg_name (i := 4) nd rfl (Or.inr rfl)) (pss_one (ps_expr (pe_bm PySem.F.plainAttrs_list PySem.F.slot_list_extend PySem.F.type_list_extend mt_extend (pv 2) (pa_cons (pe_lc (own := [("second", 5)]) (g := (gName 5)) (tt := tYes) rfl nd (pi_range2 rfl T.b_range (pa_cons pe_int (pa_cons (pe_op op_subU (pv 3) (pv 4)) pa_nil))) (blkOk_by (N := N_triples_of) (sc := (defScope s_triples_of)) (own := [("second", 5)]) (by decide +kernel)) (fun _ _ _ _ _ => (pg_name (i := 5) nd rfl (Or.inl rfl))) (fun _ _ _ _ _ => pts_nil) (fun _ _ _ _ _ => (pe_tup (pa_cons (pv 4) (pa_cons (pv 5) (pa_cons (pe_op op_subU (pe_op op_subU (pv 3) (pv 4)) (pv 5)) pa_nil)))))) pa_nil)))))))
  (pss_one (ps_ret (pv 2))))))
theorem ok_is_even {f : Addr} {fd : FuncData} (F : Fun Γ.K "is_even" "is_even" s_is_even f fd) (T : TX Γ mg) (c_points_by : Cal P w Γ.K mg base CX0 "points_by" 2 ["rule", "first", "second"] (sp_points_by Γ)) : FnOk P w Γ.K mg base CX0 3 f fd ["rule", "first", "second", "third"] (sp_is_even Γ) := by
  have nd := sc_is_even.nd
  refine F.ok sc_is_even (fun vs H Q E h => ?_) (fun cdv A outer s H vs Q E hr h => ⟨t_is_even Γ, ?_, rd_is_even Γ  vs H Q E h⟩)
  · repeat (first | (obtain ⟨rfl, _⟩ := h; rfl) | (obtain ⟨_, h⟩ := h))
  · have hu := hr.units
    exact (pss_cons (ps_set (i := 4) nd rfl (Or.inl rfl) (pe_op op_addU (pe_cal c_points_by (hr.mono (by omega)) (by rfl) pass0 (pa_cons (pv 0) (pa_cons (pv 1) (pa_cons (pv 2) pa_nil)))) (pe_cal c_points_by (hr.mono (by omega)) (by rfl) pass0 (pa_cons (pv 0) (pa_cons (pe_op op_addU (pv 1) (pv 2)) (pa_cons (pv 3) pa_nil))))))
  (pss_one (ps_ret (pe_cmpR (op_eqU hu) (pv 4) (pe_op op_addU (pe_cal c_points_by (hr.mono (by omega)) (by rfl) pass0 (pa_cons (pv 0) (pa_cons (pv 2) (pa_cons (pv 3) pa_nil)))) (pe_cal c_points_by (hr.mono (by omega)) (by rfl) pass0 (pa_cons (pv 0) (pa_cons (pv 1) (pa_cons (pe_op op_addU (pv 2) (pv 3)) pa_nil))))) (nomark _)))))
theorem ok_clash {f : Addr} {fd : FuncData} (F : Fun Γ.K "clash" "clash" s_clash f fd) (T : TX Γ mg) (c_is_even : Cal P w Γ.K mg base CX0 "is_even" 3 ["rule", "first", "second", "third"] (sp_is_even Γ)) (c_triples_of : Cal P w Γ.K mg base CX0 "triples_of" 2 ["rule"] (sp_triples_of Γ)) : FnOk P w Γ.K mg base CX0 4 f fd ["rule"] (sp_clash Γ) := by
  have nd := sc_clash.nd
  refine F.ok sc_clash (fun vs H Q E h => ?_) (fun cdv A outer s H vs Q E hr h => ⟨t_clash Γ, ?_, rd_clash Γ  vs H Q E h⟩)
  · repeat (first | (obtain ⟨rfl, _⟩ := h; rfl) | (obtain ⟨_, h⟩ := h))
  · have hu := hr.units
    exact (pss_cons (ps_for PassesOwn.never rfl (pi_seq (pe_cal c_triples_of (hr.mono (by omega)) (by rfl) pass0 (pa_cons (pv 0) pa_nil))) (pg_tup rfl (pgs_cons (pg_name (i := 1) nd rfl (Or.inl rfl)) (pgs_cons (pg_name (i := 2) nd rfl (Or.inl rfl)) (pgs_cons (pg_name (i := 3) nd rfl (Or.inl rfl)) pgs_nil)))) (pss_one (ps_if (pt_not (pt_val (pe_cal c_is_even (hr.mono (by omega)) (by rfl) pass0 (pa_cons (pv 0) (pa_cons (pv 1) (pa_cons (pv 2) (pa_cons (pv 3) pa_nil))))))) (pss_one (ps_ret (pe_tup (pa_cons (pe_op op_addU (pe_op op_addU (pv 1) (pv 2)) (pv 3)) (pa_cons (pv 1) (pa_cons (pv 2) (pa_cons (pv 3) pa_nil))))))) pss_nil)))
  (pss_one (ps_ret pe_non)))
theorem ok_is_sure {f : Addr} {fd : FuncData} (F : Fun Γ.K "is_sure" "is_sure" s_is_sure f fd) (T : TX Γ mg) (c_clash : Cal P w Γ.K mg base CX0 "clash" 4 ["rule"] (sp_clash Γ)) : FnOk P w Γ.K mg base CX0 5 f fd ["rule"] (sp_is_sure Γ) := by
  have nd := sc_is_sure.nd
  refine F.ok sc_is_sure (fun vs H Q E h => ?_) (fun cdv A outer s H vs Q E hr h => ⟨t_is_sure Γ, ?_, rd_is_sure Γ  vs H Q E h⟩)
  · repeat (first | (obtain ⟨rfl, _⟩ := h; rfl) | (obtain ⟨_, h⟩ := h))
  · have hu := hr.units
    exact (pss_one (ps_ret (pe_cmpR op_isU (pe_cal c_clash (hr.mono (by omega)) (by rfl) pass0 (pa_cons (pv 0) pa_nil)) pe_non (nomark _))))
theorem ok_lowest {f : Addr} {fd : FuncData} (F : Fun Γ.K "lowest" "lowest" s_lowest f fd) (T : TX Γ mg) : FnOk P w Γ.K mg base CX0 1 f fd ["over", "under"] (sp_lowest Γ) := by
  have nd := sc_lowest.nd
  refine F.ok sc_lowest (fun vs H Q E h => ?_) (fun cdv A outer s H vs Q E hr h => ⟨t_lowest Γ, ?_, rd_lowest Γ  vs H Q E h⟩)
  · repeat (first | (obtain ⟨rfl, _⟩ := h; rfl) | (obtain ⟨_, h⟩ := h))
  · have hu := hr.units
    exact (pss_cons (ps_par (i := 2) (j := 3) rfl nd rfl rfl (by decide) rfl rfl (pa_cons (pe_callB call_abs (by rfl) T.b_abs (by decide +kernel) (pa_cons (pv 0) pa_nil)) (pa_cons (pv 1) pa_nil)) (by rfl))
  (pss_cons (ps_while PassesOwn.never (pt_cmpR (op_neU hu) (pv 3) pe_int (nomark _)) (pss_one (ps_par (i := 2) (j := 3) rfl nd rfl rfl (by decide) rfl rfl (pa_cons (pv 3) (pa_cons (pe_op op_modU (pv 2) (pv 3)) pa_nil)) (by rfl))))
  (pss_one (ps_ret (pe_tup (pa_cons (pe_op op_divU (pv 0) (pv 2)) (pa_cons (pe_op op_divU (pv 1) (pv 2)) pa_nil)))))))
theorem ok_plus {f : Addr} {fd : FuncData} (F : Fun Γ.K "plus" "plus" s_plus f fd) (T : TX Γ mg) (c_lowest : Cal P w Γ.K mg base CX0 "lowest" 1 ["over", "under"] (sp_lowest Γ)) : FnOk P w Γ.K mg base CX0 2 f fd ["one", "other"] (sp_plus Γ) := by
  have nd := sc_plus.nd
  refine F.ok sc_plus (fun vs H Q E h => ?_) (fun cdv A outer s H vs Q E hr h => ⟨t_plus Γ, ?_, rd_plus Γ  vs H Q E h⟩)
  · repeat (first | (obtain ⟨rfl, _⟩ := h; rfl) | (obtain ⟨_, h⟩ := h))
  · have hu := hr.units
    exact (pss_one (ps_ret (pe_cal c_lowest (hr.mono (by omega)) (by rfl) pass0 (pa_cons (pe_op op_addU (pe_op op_mulU (pe_ix ix_seq (pv 0) pe_int (fun _ _ => rfl)) (pe_ix ix_seq (pv 1) pe_int (fun _ _ => rfl))) (pe_op op_mulU (pe_ix ix_seq (pv 1) pe_int (fun _ _ => rfl)) (pe_ix ix_seq (pv 0) pe_int (fun _ _ => rfl)))) (pa_cons (pe_op op_mulU (pe_ix ix_seq (pv 0) pe_int (fun _ _ => rfl)) (pe_ix ix_seq (pv 1) pe_int (fun _ _ => rfl))) pa_nil)))))
theorem ok_times_root {f : Addr} {fd : FuncData} (F : Fun Γ.K "times_root" "times_root" s_times_root f fd) (T : TX Γ mg) (c_plus : Cal P w Γ.K mg base CX0 "plus" 2 ["one", "other"] (sp_plus Γ)) : FnOk P w Γ.K mg base CX0 3 f fd ["row", "root"] (sp_times_root Γ) := by
  have nd := sc_times_root.nd
  refine F.ok sc_times_root (fun vs H Q E h => ?_) (fun cdv A outer s H vs Q E hr h => ⟨t_times_root Γ, ?_, rd_times_root Γ  vs H Q E h⟩)
  · repeat (first | (obtain ⟨rfl, _⟩ := h; rfl) | (obtain ⟨_, h⟩ := h))
  · have hu := hr.units
    exact (pss_cons (ps_set (i := 2) nd rfl (Or.inl rfl) (pe_lst (pa_cons (pe_tup (pa_cons pe_int (pa_cons pe_int pa_nil))) (StX.pa_star (pv 0) pa_nil))))
  (pss_cons (ps_for PassesOwn.never rfl (pi_enumS (by rfl) T.b_enumerate (pa_cons (pv 0) pa_nil)) (pg_tup rfl (pgs_cons (pg_name (i := 3) nd rfl (Or.inl rfl)) (pgs_cons (pg_name (i := 4) nd rfl (Or.inl rfl)) pgs_nil))) (pss_one (ps_asg (pe_cal c_plus (hr.mono (by omega)) (by rfl) pass0 (pa_cons (pe_ix ix_seq (pv 2) (pv 3) (fun _ _ => rfl)) (pa_cons (pe_tup (pa_cons (pe_op op_subU pe_int (pe_op op_mulU (pv 1) (pe_ix ix_seq (pv 4) pe_int (fun _ _ => rfl)))) (pa_cons (pe_ix ix_seq (pv 4) pe_int (fun _ _ => rfl)) pa_nil))) pa_nil))) (pg_sub (pv 2) (pv 3) set_list))))
  (pss_one (ps_ret (pv 2)))))
theorem ok_through {f : Addr} {fd : FuncData} (F : Fun Γ.K "through" "through" s_through f fd) (T : TX Γ mg) (c_lowest : Cal P w Γ.K mg base CX0 "lowest" 1 ["over", "under"] (sp_lowest Γ)) (c_plus : Cal P w Γ.K mg base CX0 "plus" 2 ["one", "other"] (sp_plus Γ)) (c_times_root : Cal P w Γ.K mg base CX0 "times_root" 3 ["row", "root"] (sp_times_root Γ)) : FnOk P w Γ.K mg base CX0 4 f fd ["values"] (sp_through Γ) := by
  have nd := sc_through.nd
  refine F.ok sc_through (fun vs H Q E h => ?_) (fun cdv A outer s H vs Q E hr h => ⟨t_through Γ, ?_, rd_through Γ  vs H Q E h⟩)
  · repeat (first | (obtain ⟨rfl, _⟩ := h; rfl) | (obtain ⟨_, h⟩ := h))
  · have hu := hr.units
    exact (pss_cons (ps_par3 (i := 1) (j := 2) (l := 3) rfl nd rfl rfl rfl (by decide) (by decide) (by decide) rfl rfl rfl (pa_cons (pe_op op_mulU (pe_lst (pa_cons (pe_tup (pa_cons pe_int (pa_cons pe_int pa_nil))) pa_nil)) (pe_callB call_len (by rfl) T.b_len (by decide +kernel) (pa_cons (pv 0) pa_nil))) (pa_cons (pe_lst (pa_cons (pe_tup (pa_cons pe_int (pa_cons pe_int pa_nil))) pa_nil)) (pa_cons (pe_callTy call_list_of (by rfl) T.b_list (by decide +kernel) (pa_cons (pv 0) pa_nil)) pa_nil))) (by rfl))
  (pss_cons (ps_set (i := 4) nd rfl (Or.inl rfl) pe_int)
  (pss_cons (ps_for PassesOwn.never rfl (pi_range1 rfl T.b_range (pa_cons (pe_callB call_len (by rfl) T.b_len (by decide +kernel) (pa_cons (pv 0) pa_nil)) pa_nil)) (pg_name (i := 5) nd rfl (Or.inl rfl)) (pss_cons (ps_for PassesOwn.never rfl (pi_enumS (by rfl) T.b_enumerate (pa_cons (pv 2) pa_nil)) (pg_tup rfl (pgs_cons (pg_name (i := 6) nd rfl (Or.inl rfl)) (pgs_cons (pg_name (i := 7) nd rfl (Or.inl rfl)) pgs_nil))) (pss_one (ps_asg (pe_cal c_plus (hr.mono (by omega)) (by rfl) pass0 (pa_cons (pe_ix ix_seq (pv 1) (pv 6) (fun _ _ => rfl)) (pa_cons (pe_cal c_lowest (hr.mono (by omega)) (by rfl) pass0 (pa_cons (pe_op op_mulU (pe_ix ix_seq (pv 7) pe_int (fun _ _ => rfl)) (pe_ix ix_seq (pv 3) pe_int (fun _ _ => rfl))) (pa_cons (pe_op op_mulU (pe_ix ix_seq (pv 7) pe_int (fun _ _ => rfl)) (pv 4)) pa_nil))) pa_nil))) (pg_sub (pv 1) (pv 6) set_list))))
  (pss_cons (ps_set (i := 2) nd rfl (Or.inl rfl) (pe_cal c_times_root (hr.mono (by omega)) (by rfl) pass0 (pa_cons (pv 2) (pa_cons (pe_op op_addU (pv 5) pe_int) pa_nil))))
  (pss_one (ps_par (i := 3) (j := 4) rfl nd rfl rfl (by decide) rfl rfl (pa_cons (pe_lc (own := [("now", 8), ("later", 9)]) (g := (gTup Γ.K 2 (gCons (gName 8) (gCons (gName 9) gNil)))) (tt := tYes) rfl nd (pi_zip (by rfl) T.b_zip (pa_cons (pv 3) (pa_cons (pe_slice sl_U (pv 3) (po_some pe_int) po_none) pa_nil))) (blkOk_by (N := N_through) (sc := (defScope s_through)) (own := [("now", 8), ("later", 9)]) (by decide +kernel)) (fun _ _ _ _ _ => (pg_tup rfl (pgs_cons (pg_name (i := 8) nd rfl (Or.inl rfl)) (pgs_cons (pg_name (i := 9) nd rfl (Or.inl rfl)) pgs_nil)))) (fun _ _ _ _ _ => pts_nil) (fun _ _ _ _ _ => (pe_op op_subU (pv 9) (pv 8)))) (pa_cons (pe_op op_mulU (pv 4) (pe_op op_addU (pv 5) pe_int)) pa_nil)) (by rfl))))))
  (pss_one (ps_ret (pv 1))))))
theorem ok_value_at {f : Addr} {fd : FuncData} (F : Fun Γ.K "value_at" "value_at" s_value_at f fd) (T : TX Γ mg) (c_plus : Cal P w Γ.K mg base CX0 "plus" 2 ["one", "other"] (sp_plus Γ)) : FnOk P w Γ.K mg base CX0 3 f fd ["row", "number"] (sp_value_at Γ) := by
  have nd := sc_value_at.nd
  refine F.ok sc_value_at (fun vs H Q E h => ?_) (fun cdv A outer s H vs Q E hr h => ⟨t_value_at Γ, ?_, rd_value_at Γ  vs H Q E h⟩)
  · repeat (first | (obtain ⟨rfl, _⟩ := h; rfl) | (obtain ⟨_, h⟩ := h))
  · have hu := hr.units
    exact (pss_cons (ps_set (i := 2) nd rfl (Or.inl rfl) (pe_tup (pa_cons pe_int (pa_cons pe_int pa_nil))))
  (pss_cons (ps_for PassesOwn.never rfl (pi_seq (pe_revL (pv 0))) (pg_name (i := 3) nd rfl (Or.inl rfl)) (pss_one (ps_set (i := 2) nd rfl (Or.inl rfl) (pe_cal c_plus (hr.mono (by omega)) (by rfl) pass0 (pa_cons (pe_tup (pa_cons (pe_op op_mulU (pe_ix ix_seq (pv 2) pe_int (fun _ _ => rfl)) (pv 1)) (pa_cons (pe_ix ix_seq (pv 2) pe_int (fun _ _ => rfl)) pa_nil))) (pa_cons (pv 3) pa_nil))))))
  (pss_one (ps_ret (pv 2)))))
theorem ok_sums_to {f : Addr} {fd : FuncData} (F : Fun Γ.K "sums_to" "sums_to" s_sums_to f fd) (T : TX Γ mg) (c_points_by : Cal P w Γ.K mg base CX0 "points_by" 2 ["rule", "first", "second"] (sp_points_by Γ)) : FnOk P w Γ.K mg base CX0 3 f fd ["rule", "most", "is_first"] (sp_sums_to Γ) := by
  have nd := sc_sums_to.nd
  refine F.ok sc_sums_to (fun vs H Q E h => ?_) (fun cdv A outer s H vs Q E hr h => ⟨t_sums_to Γ, ?_, rd_sums_to Γ  vs H Q E h⟩)
  · repeat (first | (obtain ⟨rfl, _⟩ := h; rfl) | (obtain ⟨_, h⟩ := h))
  · have hu := hr.units
    exact (pss_cons (ps_set (i := 3) nd rfl (Or.inl rfl) (pe_lst (pa_cons pe_int pa_nil)))
  (pss_cons (ps_for PassesOwn.never rfl (pi_range2 rfl T.b_range (pa_cons pe_int (pa_cons (pv 1) pa_nil))) (pg_name (i := 4) nd rfl (Or.inl rfl)) (pss_one (ps_expr (pe_bm PySem.F.plainAttrs_list PySem.F.slot_list_append PySem.F.type_list_append mt_append (pv 3) (pa_cons (pe_op op_addU (pe_ix ix_seq (pv 3) (pe_un un_neg pe_int) (fun _ _ => rfl)) (pe_ifExp (pt_val (pv 2)) (pe_cal c_points_by (hr.mono (by omega)) (by rfl) pass0 (pa_cons (pv 0) (pa_cons pe_int (pa_cons (pv 4) pa_nil)))) (pe_cal c_points_by (hr.mono (by omega)) (by rfl) pass0 (pa_cons (pv 0) (pa_cons (pv 4) (pa_cons pe_int pa_nil)))))) pa_nil)))))
  (pss_one (ps_ret (pv 3)))))
theorem ok_line_of {f : Addr} {fd : FuncData} (F : Fun Γ.K "line_of" "line_of" s_line_of f fd) (T : TX Γ mg) (c_sums_to : Cal P w Γ.K mg base CX0 "sums_to" 3 ["rule", "most", "is_first"] (sp_sums_to Γ)) (c_through : Cal P w Γ.K mg base CX0 "through" 4 ["values"] (sp_through Γ)) : FnOk P w Γ.K mg base CX0 5 f fd ["rule", "is_first"] (sp_line_of Γ) := by
  have nd := sc_line_of.nd
  refine F.ok sc_line_of (fun vs H Q E h => ?_) (fun cdv A outer s H vs Q E hr h => ⟨t_line_of Γ, ?_, rd_line_of Γ  vs H Q E h⟩)
  · repeat (first | (obtain ⟨rfl, _⟩ := h; rfl) | (obtain ⟨_, h⟩ := h))
  · have hu := hr.units
    exact (pss_one (ps_ret (pe_cal c_through (hr.mono (by omega)) (by rfl) pass0 (pa_cons (pe_cal c_sums_to (hr.mono (by omega)) (by rfl) pass0 (pa_cons (pv 0) (pa_cons (pe_op op_addU (pe_gint T.c_MOST_EXPONENT (by rfl)) pe_int) (pa_cons (pv 1) pa_nil)))) pa_nil))))
theorem ok_one_by_one {f : Addr} {fd : FuncData} (F : Fun Γ.K "one_by_one" "one_by_one" s_one_by_one f fd) (T : TX Γ mg) (c_line_of : Cal P w Γ.K mg base CX0 "line_of" 5 ["rule", "is_first"] (sp_line_of Γ)) (c_sums_to : Cal P w Γ.K mg base CX0 "sums_to" 3 ["rule", "most", "is_first"] (sp_sums_to Γ)) (c_value_at : Cal P w Γ.K mg base CX0 "value_at" 3 ["row", "number"] (sp_value_at Γ)) : FnOk P w Γ.K mg base CX0 6 f fd ["rule", "heap", "is_first"] (sp_one_by_one Γ) := by
  have nd := sc_one_by_one.nd
  refine F.ok sc_one_by_one (fun vs H Q E h => ?_) (fun cdv A outer s H vs Q E hr h => ⟨t_one_by_one Γ, ?_, rd_one_by_one Γ T.rule vs H Q E h⟩)
  · repeat (first | (obtain ⟨rfl, _⟩ := h; rfl) | (obtain ⟨_, h⟩ := h))
  · have hu := hr.units
    exact (pss_cons (ps_if (pt_cmpR (op_eqU hu) (pe_fld (pv 0) rfl) pe_str (nomark _)) (pss_one (ps_ret (pe_ix ix_seq (pe_cal c_sums_to (hr.mono (by omega)) (by rfl) pass0 (pa_cons (pv 0) (pa_cons (pv 1) (pa_cons (pv 2) pa_nil)))) (pe_un un_neg pe_int) (fun _ _ => rfl)))) pss_nil)
  (pss_one (ps_ret (pe_ix ix_seq (pe_cal c_value_at (hr.mono (by omega)) (by rfl) pass0 (pa_cons (pe_cal c_line_of (hr.mono (by omega)) (by rfl) pass0 (pa_cons (pv 0) (pa_cons (pv 2) pa_nil))) (pa_cons (pv 1) pa_nil))) pe_int (fun _ _ => rfl)))))
theorem ok_formula {f : Addr} {fd : FuncData} (F : Fun Γ.K "formula" "formula" s_formula f fd) (T : TX Γ mg) (c_clash : Cal P w Γ.K mg base CX0 "clash" 4 ["rule"] (sp_clash Γ)) (c_line_of : Cal P w Γ.K mg base CX0 "line_of" 5 ["rule", "is_first"] (sp_line_of Γ)) : FnOk P w Γ.K mg base (L2.CX P w) 6 f fd ["rule"] (sp_formula Γ) := by
  have nd := sc_formula.nd
  refine F.okX sc_formula (fun vs H Q E h => ?_) (fun cdv A outer s H vs Q E hr h => ⟨t_formula Γ E, ?_, rd_formula Γ T.rule vs H Q E h⟩)
  · repeat (first | (obtain ⟨rfl, _⟩ := h; rfl) | (obtain ⟨_, h⟩ := h))
  · have hu := hr.units
    exact (pss_cons (ps_if (pt_cmpR (op_neU hu) (pe_fld (pv 0) rfl) pe_str (nomark _)) (pss_one (ps_raise0 rfl (takes_of rfl rfl rfl rfl) T.x_NoTerms rfl)) pss_nil)
  (pss_cons (ps_if (pt_cmpR op_notIsU (pe_cal c_clash (hr.mono (by omega)) (by rfl) pass0 (pa_cons (pv 0) pa_nil)) pe_non (nomark _)) (pss_one (ps_ret pe_non)) pss_nil)
  (pss_cons (ps_set (i := 1) nd rfl (Or.inl rfl) (pe_cal c_line_of (hr.mono (by omega)) (by rfl) pass0 (pa_cons (pv 0) (pa_cons pe_bl pa_nil))))
  (pss_cons (ps_while (passes_of rfl) (PW.pt (pw_and (pt_cmpR op_gtU (pe_callB call_len (by rfl) T.b_len (by decide +kernel) (pa_cons (pv 1) pa_nil)) pe_int (nomark _)) (pw_and1 (pt_cmpR (op_eqU hu) (pe_ix ix_seq (pv 1) (pe_un un_neg pe_int) (fun _ _ => rfl)) (pe_tup (pa_cons pe_int (pa_cons pe_int pa_nil))) (nomark _))))) (pss_one (ps_set (i := 1) nd rfl (Or.inl rfl) (pe_slice sl_U (pv 1) po_none (po_some (pe_un un_neg pe_int))))))
  (pss_one (ps_ret (pe_callTy call_tuple_of (by rfl) T.b_tuple (by decide +kernel) (pa_cons (pv 1) pa_nil))))))))
theorem ok_sure_sum {f : Addr} {fd : FuncData} (F : Fun Γ.K "sure_sum" "sure_sum" s_sure_sum f fd) (T : TX Γ mg) (c_check_heap : Cal P w Γ.K mg base (L2.CX P w) "check_heap" 3 ["rule", "heap", "most"] (sp_check_heap Γ)) (c_clash : Cal P w Γ.K mg base CX0 "clash" 4 ["rule"] (sp_clash Γ)) (c_one_by_one : Cal P w Γ.K mg base CX0 "one_by_one" 6 ["rule", "heap", "is_first"] (sp_one_by_one Γ)) : FnOk P w Γ.K mg base (L2.CX P w) 7 f fd ["rule", "heap"] (sp_sure_sum Γ) := by
  have nd := sc_sure_sum.nd
  refine F.okX sc_sure_sum (fun vs H Q E h => ?_) (fun cdv A outer s H vs Q E hr h => ⟨t_sure_sum Γ E, ?_, rd_sure_sum Γ  vs H Q E h⟩)
  · repeat (first | (obtain ⟨rfl, _⟩ := h; rfl) | (obtain ⟨_, h⟩ := h))
  · have hu := hr.units
    exact (pss_cons (ps_expr (pe_cal c_check_heap (hr.mono (by omega)) (by rfl) (passes_call (takes_of rfl rfl rfl rfl) (fun _ _ _ _ z => z)) (pa_cons (pv 0) (pa_cons (pv 1) (pa_cons (pe_gint T.c_MOST_HEAP (by rfl)) pa_nil)))))
  (pss_cons (ps_set (i := 2) nd rfl (Or.inl rfl) (pe_cal c_clash (hr.mono (by omega)) (by rfl) pass0 (pa_cons (pv 0) pa_nil)))
  (pss_cons (ps_if (PW.pt (pw_and (pt_cmpR op_notIsU (pv 2) pe_non (nomark _)) (pw_and1 (pt_cmpR op_leU (pe_ix ix_seq (pv 2) pe_int (fun _ _ => rfl)) (pv 1) (nomark _))))) pss_never pss_nil)
  (pss_one (ps_ret (pe_cal c_one_by_one (hr.mono (by omega)) (by rfl) pass0 (pa_cons (pv 0) (pa_cons (pv 1) (pa_cons pe_bl pa_nil)))))))))
theorem ok_even_by {f : Addr} {fd : FuncData} (F : Fun Γ.K "even_by" "even_by" s_even_by f fd) (T : TX Γ mg) (hm : mg "even_by" = some (.ref f)) (c_most_of : Cal P w Γ.K mg base CX0 "most_of" 1 ["rule"] (sp_most_of Γ)) (c_points_by : Cal P w Γ.K mg base CX0 "points_by" 2 ["rule", "first", "second"] (sp_points_by Γ)) : ∀ n : Nat, FnOk P w Γ.K mg base CX0 (3 + n) f fd ["rule", "heap"] (spn_even_by Γ n)
  | 0 => by
    have nd := sc_even_by.nd
    refine F.ok (k := 2) sc_even_by (fun vs H Q E h => ?_) (fun cdv A outer s H vs Q E hr h => (rd0_even_by Γ  vs H Q E h).elim)
    repeat (first | (obtain ⟨rfl, _⟩ := h; rfl) | (obtain ⟨_, h⟩ := h))
  | n + 1 => by
    have nd := sc_even_by.nd
    have c_even_by : Cal P w Γ.K mg base CX0 "even_by" (3 + n) ["rule", "heap"] (spn_even_by Γ n) := ⟨f, fd, ok_even_by F T hm c_most_of c_points_by n, hm, F.kp, b_even_by F⟩
    refine F.ok (k := 3 + n) sc_even_by (fun vs H Q E h => ?_) (fun cdv A outer s H vs Q E hr h => ⟨t_even_by Γ n, ?_, rd_even_by Γ  n vs H Q E h⟩)
    · repeat (first | (obtain ⟨rfl, _⟩ := h; rfl) | (obtain ⟨_, h⟩ := h))
    · have hu := hr.units
      exact (pss_cons (ps_if (pt_cmpR (op_eqU hu) (pv 1) pe_int (nomark _)) (pss_one (ps_ret (pe_tup (pa_cons pe_int (pa_cons (pe_ifExp (pt_cmpR op_gtU (pe_cal c_most_of (hr.mono (by omega)) (by rfl) pass0 (pa_cons (pv 0) pa_nil)) pe_int (nomark _)) (pe_cal c_points_by (hr.mono (by omega)) (by rfl) pass0 (pa_cons (pv 0) (pa_cons pe_int (pa_cons pe_int pa_nil)))) pe_int) pa_nil))))) pss_nil)
  (pss_cons (ps_set (i := 2) nd rfl (Or.inl rfl) (pe_op op_divU (pv 1) pe_int))
  (pss_cons (ps_asg (pe_cal c_even_by (hr.mono (by omega)) (by rfl) pass0 (pa_cons (pv 0) (pa_cons (pv 2) pa_nil))) (pg_tup rfl (pgs_cons (pg_name (i := 3) nd rfl (Or.inl rfl)) (pgs_cons (pg_name (i := 4) nd rfl (Or.inl rfl)) pgs_nil))))
  (pss_cons (ps_if (pt_cmpR (op_eqU hu) (pe_op op_modU (pv 1) pe_int) pe_int (nomark _)) (pss_cons (ps_set (i := 5) nd rfl (Or.inl rfl) (pe_op op_addU (pe_op op_mulU pe_int (pv 3)) (pe_cal c_points_by (hr.mono (by omega)) (by rfl) pass0 (pa_cons (pv 0) (pa_cons (pv 2) (pa_cons (pv 2) pa_nil))))))
  (pss_one (ps_ret (pe_tup (pa_cons (pv 5) (pa_cons (pe_ifExp (pt_cmpR op_ltU (pv 1) (pe_cal c_most_of (hr.mono (by omega)) (by rfl) pass0 (pa_cons (pv 0) pa_nil)) (nomark _)) (pe_op op_addU (pe_op op_addU (pv 3) (pv 4)) (pe_cal c_points_by (hr.mono (by omega)) (by rfl) pass0 (pa_cons (pv 0) (pa_cons (pe_op op_addU (pv 2) pe_int) (pa_cons (pv 2) pa_nil))))) pe_int) pa_nil)))))) pss_nil)
  (pss_cons (ps_set (i := 5) nd rfl (Or.inl rfl) (pe_op op_addU (pe_op op_addU (pv 3) (pv 4)) (pe_cal c_points_by (hr.mono (by omega)) (by rfl) pass0 (pa_cons (pv 0) (pa_cons (pe_op op_addU (pv 2) pe_int) (pa_cons (pv 2) pa_nil))))))
  (pss_one (ps_ret (pe_tup (pa_cons (pv 5) (pa_cons (pe_ifExp (pt_cmpR op_ltU (pv 1) (pe_cal c_most_of (hr.mono (by omega)) (by rfl) pass0 (pa_cons (pv 0) pa_nil)) (nomark _)) (pe_op op_addU (pe_op op_mulU pe_int (pv 4)) (pe_cal c_points_by (hr.mono (by omega)) (by rfl) pass0 (pa_cons (pv 0) (pa_cons (pe_op op_addU (pv 2) pe_int) (pa_cons (pe_op op_addU (pv 2) pe_int) pa_nil))))) pe_int) pa_nil))))))))))
theorem ok_evenly {f : Addr} {fd : FuncData} (F : Fun Γ.K "evenly" "evenly" s_evenly f fd) (T : TX Γ mg) (c_check_heap : Cal P w Γ.K mg base (L2.CX P w) "check_heap" 3 ["rule", "heap", "most"] (sp_check_heap Γ)) (c_even_by : Cal P w Γ.K mg base CX0 "even_by" 108 ["rule", "heap"] (sp_even_by Γ)) : FnOk P w Γ.K mg base (L2.CX P w) 109 f fd ["rule", "heap"] (sp_evenly Γ) := by
  have nd := sc_evenly.nd
  refine F.okX sc_evenly (fun vs H Q E h => ?_) (fun cdv A outer s H vs Q E hr h => ⟨t_evenly Γ E, ?_, rd_evenly Γ  vs H Q E h⟩)
  · repeat (first | (obtain ⟨rfl, _⟩ := h; rfl) | (obtain ⟨_, h⟩ := h))
  · have hu := hr.units
    exact (pss_cons (ps_expr (pe_cal c_check_heap (hr.mono (by omega)) (by rfl) (passes_call (takes_of rfl rfl rfl rfl) (fun _ _ _ _ z => z)) (pa_cons (pv 0) (pa_cons (pv 1) (pa_cons (pe_gint T.c_MOST_HEAP (by rfl)) pa_nil)))))
  (pss_one (ps_ret (pe_ix ix_seq (pe_cal c_even_by (hr.mono (by omega)) (by rfl) pass0 (pa_cons (pv 0) (pa_cons (pv 1) pa_nil))) pe_int (fun _ _ => rfl)))))
theorem ok_one_off {f : Addr} {fd : FuncData} (F : Fun Γ.K "one_off" "one_off" s_one_off f fd) (T : TX Γ mg) (c_check_heap : Cal P w Γ.K mg base (L2.CX P w) "check_heap" 3 ["rule", "heap", "most"] (sp_check_heap Γ)) (c_one_by_one : Cal P w Γ.K mg base CX0 "one_by_one" 6 ["rule", "heap", "is_first"] (sp_one_by_one Γ)) : FnOk P w Γ.K mg base (L2.CX P w) 7 f fd ["rule", "heap"] (sp_one_off Γ) := by
  have nd := sc_one_off.nd
  refine F.okX sc_one_off (fun vs H Q E h => ?_) (fun cdv A outer s H vs Q E hr h => ⟨t_one_off Γ E, ?_, rd_one_off Γ  vs H Q E h⟩)
  · repeat (first | (obtain ⟨rfl, _⟩ := h; rfl) | (obtain ⟨_, h⟩ := h))
  · have hu := hr.units
    exact (pss_cons (ps_expr (pe_cal c_check_heap (hr.mono (by omega)) (by rfl) (passes_call (takes_of rfl rfl rfl rfl) (fun _ _ _ _ z => z)) (pa_cons (pv 0) (pa_cons (pv 1) (pa_cons (pe_gint T.c_MOST_HEAP (by rfl)) pa_nil)))))
  (pss_one (ps_ret (pe_cal c_one_by_one (hr.mono (by omega)) (by rfl) pass0 (pa_cons (pv 0) (pa_cons (pv 1) (pa_cons pe_bl pa_nil)))))))
theorem ok_last_off {f : Addr} {fd : FuncData} (F : Fun Γ.K "last_off" "last_off" s_last_off f fd) (T : TX Γ mg) (c_check_heap : Cal P w Γ.K mg base (L2.CX P w) "check_heap" 3 ["rule", "heap", "most"] (sp_check_heap Γ)) (c_one_by_one : Cal P w Γ.K mg base CX0 "one_by_one" 6 ["rule", "heap", "is_first"] (sp_one_by_one Γ)) : FnOk P w Γ.K mg base (L2.CX P w) 7 f fd ["rule", "heap"] (sp_last_off Γ) := by
  have nd := sc_last_off.nd
  refine F.okX sc_last_off (fun vs H Q E h => ?_) (fun cdv A outer s H vs Q E hr h => ⟨t_last_off Γ E, ?_, rd_last_off Γ  vs H Q E h⟩)
  · repeat (first | (obtain ⟨rfl, _⟩ := h; rfl) | (obtain ⟨_, h⟩ := h))
  · have hu := hr.units
    exact (pss_cons (ps_expr (pe_cal c_check_heap (hr.mono (by omega)) (by rfl) (passes_call (takes_of rfl rfl rfl rfl) (fun _ _ _ _ z => z)) (pa_cons (pv 0) (pa_cons (pv 1) (pa_cons (pe_gint T.c_MOST_HEAP (by rfl)) pa_nil)))))
  (pss_one (ps_ret (pe_cal c_one_by_one (hr.mono (by omega)) (by rfl) pass0 (pa_cons (pv 0) (pa_cons (pv 1) (pa_cons pe_bl pa_nil)))))))
theorem ok_styled {f : Addr} {fd : FuncData} (F : Fun Γ.K "styled" "styled" s_styled f fd) (T : TX Γ mg) (c_even_by : Cal P w Γ.K mg base CX0 "even_by" 108 ["rule", "heap"] (sp_even_by Γ)) (c_one_by_one : Cal P w Γ.K mg base CX0 "one_by_one" 6 ["rule", "heap", "is_first"] (sp_one_by_one Γ)) : FnOk P w Γ.K mg base CX0 109 f fd ["rule", "style", "heap"] (sp_styled Γ) := by
  have nd := sc_styled.nd
  refine F.ok sc_styled (fun vs H Q E h => ?_) (fun cdv A outer s H vs Q E hr h => ⟨t_styled Γ, ?_, rd_styled Γ  vs H Q E h⟩)
  · repeat (first | (obtain ⟨rfl, _⟩ := h; rfl) | (obtain ⟨_, h⟩ := h))
  · have hu := hr.units
    exact (pss_cons (ps_if (pt_cmpR (op_eqU hu) (pv 1) pe_str (nomark _)) (pss_one (ps_ret (pe_ix ix_seq (pe_cal c_even_by (hr.mono (by omega)) (by rfl) pass0 (pa_cons (pv 0) (pa_cons (pv 2) pa_nil))) pe_int (fun _ _ => rfl)))) pss_nil)
  (pss_one (ps_ret (pe_cal c_one_by_one (hr.mono (by omega)) (by rfl) pass0 (pa_cons (pv 0) (pa_cons (pv 2) (pa_cons (pe_cmpR (op_eqU hu) (pv 1) pe_str (nomark _)) pa_nil)))))))
theorem ok_first_better {f : Addr} {fd : FuncData} (F : Fun Γ.K "first_better" "first_better" s_first_better f fd) (T : TX Γ mg) (c_is_from : Cal P w Γ.K mg base CX0 "is_from" 2 ["value", "low", "high"] (sp_is_from Γ)) (c_most_of : Cal P w Γ.K mg base CX0 "most_of" 1 ["rule"] (sp_most_of Γ)) (c_styled : Cal P w Γ.K mg base CX0 "styled" 109 ["rule", "style", "heap"] (sp_styled Γ)) (c_table_of : Cal P w Γ.K mg base CX0 "table_of" 3 ["rule", "heap", "sign"] (sp_table_of Γ)) : FnOk P w Γ.K mg base (L2.CX P w) 110 f fd ["rule", "style", "most"] (sp_first_better Γ) := by
  have nd := sc_first_better.nd
  refine F.okX sc_first_better (fun vs H Q E h => ?_) (fun cdv A outer s H vs Q E hr h => ⟨t_first_better Γ E, ?_, rd_first_better Γ T.sty vs H Q E h⟩)
  · repeat (first | (obtain ⟨rfl, _⟩ := h; rfl) | (obtain ⟨_, h⟩ := h))
  · have hu := hr.units
    exact (pss_cons (ps_if (PW.pt (pw_or (pt_not (pt_val (pe_callB call_isi (by rfl) T.b_isinstance (by decide +kernel) (pa_cons (pv 1) (pa_cons (pe_bltn (by rfl) T.b_str (by decide +kernel) (v := .ty "str") rfl) pa_nil))))) (pw_or1 (pt_cmpR op_notInU (pv 1) (pe_glob (by rfl) T.c_STYLES rfl) (by rfl))))) (pss_one (ps_raise0 rfl (takes_of rfl rfl rfl rfl) T.x_BadStyle rfl)) pss_nil)
  (pss_cons (ps_if (pt_not (pt_val (pe_cal c_is_from (hr.mono (by omega)) (by rfl) pass0 (pa_cons (pv 2) (pa_cons pe_int (pa_cons (pe_callB (call_min2 rfl) (by rfl) T.b_min (by decide +kernel) (pa_cons (pe_gint T.c_MOST_STYLED (by rfl)) (pa_cons (pe_cal c_most_of (hr.mono (by omega)) (by rfl) pass0 (pa_cons (pv 0) pa_nil)) pa_nil))) pa_nil)))))) (pss_one (ps_raise0 rfl (takes_of rfl rfl rfl rfl) T.x_BadNumber rfl)) pss_nil)
  (pss_cons (ps_set (i := 3) nd rfl (Or.inl rfl) (pe_cal c_table_of (hr.mono (by omega)) (by rfl) pass0 (pa_cons (pv 0) (pa_cons (pv 2) (pa_cons (pe_un un_neg pe_int) pa_nil)))))
  (pss_cons (ps_for (passes_of rfl) rfl (pi_range2 rfl T.b_range (pa_cons pe_int (pa_cons (pe_op op_addU (pv 2) pe_int) pa_nil))) (pg_name (i := 4) nd rfl (Or.inl rfl)) (pss_one (ps_if (pt_cmpR op_ltU (pe_cal c_styled (hr.mono (by omega)) (by rfl) pass0 (pa_cons (pv 0) (pa_cons (pv 1) (pa_cons (pv 4) pa_nil)))) (pe_op op_subU pe_int (pe_ix ix_seq (pv 3) (pv 4) (fun _ _ => rfl))) (nomark _)) (pss_one (ps_ret (pv 4))) pss_nil)))
  (pss_one (ps_ret pe_non))))))
theorem ok_check_sums {f : Addr} {fd : FuncData} (F : Fun Γ.K "check_sums" "check_sums" s_check_sums f fd) (T : TX Γ mg) (c_is_from : Cal P w Γ.K mg base CX0 "is_from" 2 ["value", "low", "high"] (sp_is_from Γ)) : FnOk P w Γ.K mg base (L2.CX P w) 3 f fd ["sums"] (sp_check_sums Γ) := by
  have nd := sc_check_sums.nd
  refine F.okX sc_check_sums (fun vs H Q E h => ?_) (fun cdv A outer s H vs Q E hr h => ⟨t_check_sums Γ E, ?_, rd_check_sums Γ  vs H Q E h⟩)
  · repeat (first | (obtain ⟨rfl, _⟩ := h; rfl) | (obtain ⟨_, h⟩ := h))
  · have hu := hr.units
    exact (pss_cons (ps_if (PW.pt (pw_or (pt_not (pt_val (pe_callB call_isi (by rfl) T.b_isinstance (by decide +kernel) (pa_cons (pv 0) (pa_cons (pe_bltn (by rfl) T.b_tuple (by decide +kernel) (v := .ty "tuple") rfl) pa_nil))))) (pw_or1 (pt_not (pt_chain op_leU op_ltU pe_int (pe_callB call_len (by rfl) T.b_len (by decide +kernel) (pa_cons (pv 0) pa_nil)) (pe_gint T.c_MOST_TABLE (by rfl))))))) (pss_one (ps_raise0 rfl (takes_of rfl rfl rfl rfl) T.x_BadSums rfl)) pss_nil)
  (pss_one (ps_if (pt_not (pt_val (pe_callB (cr_all rfl) (by rfl) T.b_all (by decide +kernel) (pa_cons (pe_lc (own := [("told", 1)]) (g := (gName 1)) (tt := tYes) rfl nd (pi_seq (pv 0)) (blkOk_by (N := N_check_sums) (sc := (defScope s_check_sums)) (own := [("told", 1)]) (by decide +kernel)) (fun _ _ _ _ _ => (pg_name (i := 1) nd rfl (Or.inl rfl))) (fun _ _ _ _ _ => pts_nil) (fun _ _ _ _ _ => (pe_cal c_is_from (hr.mono (by omega)) (by rfl) pass0 (pa_cons (pv 1) (pa_cons (pe_op op_subU pe_int (pe_gint T.c_MOST_SUM (by rfl))) (pa_cons (pe_gint T.c_MOST_SUM (by rfl)) pa_nil)))))) pa_nil)))) (pss_one (ps_raise0 rfl (takes_of rfl rfl rfl rfl) T.x_BadSums rfl)) pss_nil)))
theorem ok_due_at {f : Addr} {fd : FuncData} (F : Fun Γ.K "due_at" "due_at" s_due_at f fd) (T : TX Γ mg) : FnOk P w Γ.K mg base CX0 1 f fd ["row", "first", "second"] (sp_due_at Γ) := by
  have nd := sc_due_at.nd
  refine F.ok sc_due_at (fun vs H Q E h => ?_) (fun cdv A outer s H vs Q E hr h => ⟨t_due_at Γ, ?_, rd_due_at Γ  vs H Q E h⟩)
  · repeat (first | (obtain ⟨rfl, _⟩ := h; rfl) | (obtain ⟨_, h⟩ := h))
  · have hu := hr.units
    exact (pss_one (ps_ret (pe_op op_subU (pe_op op_subU (pe_ix ix_seq (pv 0) (pe_op op_addU (pv 1) (pv 2)) (fun _ _ => rfl)) (pe_ix ix_seq (pv 0) (pv 1) (fun _ _ => rfl))) (pe_ix ix_seq (pv 0) (pv 2) (fun _ _ => rfl)))))
theorem ok_sure_table {f : Addr} {fd : FuncData} (F : Fun Γ.K "sure_table" "sure_table" s_sure_table f fd) (T : TX Γ mg) (c_RuleU_initU : CalC P w Γ.K mg base (L2.CX P w) Γ.cRule "Rule" 5 ["self", "kind", "parts"] (sp_RuleU_initU Γ)) (c_check_sums : Cal P w Γ.K mg base (L2.CX P w) "check_sums" 3 ["sums"] (sp_check_sums Γ)) (c_due_at : Cal P w Γ.K mg base CX0 "due_at" 1 ["row", "first", "second"] (sp_due_at Γ)) : FnOk P w Γ.K mg base (L2.CX P w) 7 f fd ["sums"] (sp_sure_table Γ) := by
  have nd := sc_sure_table.nd
  refine F.okX sc_sure_table (fun vs H Q E h => ?_) (fun cdv A outer s H vs Q E hr h => ⟨t_sure_table Γ E, ?_, rd_sure_table Γ  vs H Q E h⟩)
  · repeat (first | (obtain ⟨rfl, _⟩ := h; rfl) | (obtain ⟨_, h⟩ := h))
  · have hu := hr.units
    exact (pss_cons (ps_expr (pe_cal c_check_sums (hr.mono (by omega)) (by rfl) (passes_call (takes_of rfl rfl rfl rfl) (fun _ _ _ _ z => z)) (pa_cons (pv 0) pa_nil)))
  (pss_cons (ps_asg (pe_tup (pa_cons (pe_tup (pa_cons pe_int (pa_cons pe_int (StX.pa_star (pv 0) pa_nil)))) (pa_cons (pe_op op_addU (pe_callB call_len (by rfl) T.b_len (by decide +kernel) (pa_cons (pv 0) pa_nil)) pe_int) pa_nil))) (pg_tup rfl (pgs_cons (pg_name (i := 1) nd rfl (Or.inr rfl)) (pgs_cons (pg_name (i := 2) nd rfl (Or.inl rfl)) pgs_nil))))
  (pss_cons (ps_set (i := 3) nd rfl (Or.inl rfl) (pe_lst pa_nil))
  (pss_cons (ps_for (passes_of rfl) rfl (pi_range2 rfl T.b_range (pa_cons pe_int (pa_cons (pv 2) pa_nil))) (pg_name (i := 4) nd rfl (Or.inr rfl)) (pss_one (ps_expr (pe_bm PySem.F.plainAttrs_list PySem.F.slot_list_append PySem.F.type_list_append mt_append (pv 3) (pa_cons (pe_callTy call_tuple_of (by rfl) T.b_tuple (by decide +kernel) (pa_cons (pe_lc (own := [("second", 5)]) (g := (gName 5)) (tt := tYes) rfl nd (pi_range2 rfl T.b_range (pa_cons pe_int (pa_cons (pe_op op_addU (pe_op op_subU (pv 2) (pv 4)) pe_int) pa_nil))) (blkOk_by (N := N_sure_table) (sc := (defScope s_sure_table)) (own := [("second", 5)]) (by decide +kernel)) (fun _ _ _ _ _ => (pg_name (i := 5) nd rfl (Or.inl rfl))) (fun _ _ _ _ _ => pts_nil) (fun _ _ _ _ _ => (pe_cal c_due_at (hr.mono (by omega)) (by rfl) pass0 (pa_cons (pv 1) (pa_cons (pv 4) (pa_cons (pv 5) pa_nil)))))) pa_nil)) pa_nil)))))
  (pss_one (ps_ret (pe_mak c_RuleU_initU (hr.mono (by omega)) (by rfl) (passes_call (takes_of rfl rfl rfl rfl) (fun _ _ _ _ z => z)) (pa_cons pe_str (pa_cons (pe_callTy call_tuple_of (by rfl) T.b_tuple (by decide +kernel) (pa_cons (pv 3) pa_nil)) pa_nil)))))))))
theorem ok_unlike_places {f : Addr} {fd : FuncData} (F : Fun Γ.K "unlike_places" "unlike_places" s_unlike_places f fd) (T : TX Γ mg) (c_check_sums : Cal P w Γ.K mg base (L2.CX P w) "check_sums" 3 ["sums"] (sp_check_sums Γ)) (c_due_at : Cal P w Γ.K mg base CX0 "due_at" 1 ["row", "first", "second"] (sp_due_at Γ)) (c_most_of : Cal P w Γ.K mg base CX0 "most_of" 1 ["rule"] (sp_most_of Γ)) (c_points_by : Cal P w Γ.K mg base CX0 "points_by" 2 ["rule", "first", "second"] (sp_points_by Γ)) : FnOk P w Γ.K mg base (L2.CX P w) 4 f fd ["rule", "sums"] (sp_unlike_places Γ) := by
  have nd := sc_unlike_places.nd
  refine F.okX sc_unlike_places (fun vs H Q E h => ?_) (fun cdv A outer s H vs Q E hr h => ⟨t_unlike_places Γ E, ?_, rd_unlike_places Γ T.rule vs H Q E h⟩)
  · repeat (first | (obtain ⟨rfl, _⟩ := h; rfl) | (obtain ⟨_, h⟩ := h))
  · have hu := hr.units
    exact (pss_cons (ps_if (pt_cmpR (op_neU hu) (pe_fld (pv 0) rfl) pe_str (nomark _)) (pss_one (ps_raise0 rfl (takes_of rfl rfl rfl rfl) T.x_NoTable rfl)) pss_nil)
  (pss_cons (ps_expr (pe_cal c_check_sums (hr.mono (by omega)) (by rfl) (passes_call (takes_of rfl rfl rfl rfl) (fun _ _ _ _ z => z)) (pa_cons (pv 1) pa_nil)))
  (pss_cons (ps_par (i := 2) (j := 3) rfl nd rfl rfl (by decide) rfl rfl (pa_cons (pe_cal c_most_of (hr.mono (by omega)) (by rfl) pass0 (pa_cons (pv 0) pa_nil)) (pa_cons (pe_tup (pa_cons pe_int (pa_cons pe_int (StX.pa_star (pv 1) pa_nil)))) pa_nil)) (by rfl))
  (pss_cons (ps_if (pt_cmpR (op_neU hu) (pe_callB call_len (by rfl) T.b_len (by decide +kernel) (pa_cons (pv 1) pa_nil)) (pe_op op_subU (pv 2) pe_int) (nomark _)) (pss_one (ps_raise0 rfl (takes_of rfl rfl rfl rfl) T.x_BadSums rfl)) pss_nil)
  (pss_cons (ps_set (i := 4) nd rfl (Or.inl rfl) (pe_lst pa_nil))
  (pss_cons (ps_for (passes_of rfl) rfl (pi_range2 rfl T.b_range (pa_cons pe_int (pa_cons (pv 2) pa_nil))) (pg_name (i := 5) nd rfl (Or.inl rfl)) (pss_one (ps_for (passes_of rfl) rfl (pi_range2 rfl T.b_range (pa_cons pe_int (pa_cons (pe_op op_addU (pe_op op_subU (pv 2) (pv 5)) pe_int) pa_nil))) (pg_name (i := 6) nd rfl (Or.inl rfl)) (pss_one (ps_if (pt_cmpR (op_neU hu) (pe_cal c_points_by (hr.mono (by omega)) (by rfl) pass0 (pa_cons (pv 0) (pa_cons (pv 5) (pa_cons (pv 6) pa_nil)))) (pe_cal c_due_at (hr.mono (by omega)) (by rfl) pass0 (pa_cons (pv 3) (pa_cons (pv 5) (pa_cons (pv 6) pa_nil)))) (nomark _)) (pss_one (ps_expr (pe_bm PySem.F.plainAttrs_list PySem.F.slot_list_append PySem.F.type_list_append mt_append (pv 4) (pa_cons (pe_tup (pa_cons (pv 5) (pa_cons (pv 6) pa_nil))) pa_nil)))) pss_nil)))))
  (pss_one (ps_ret (pv 4)))))))))
theorem ok_ways_by {f : Addr} {fd : FuncData} (F : Fun Γ.K "ways_by" "ways_by" s_ways_by f fd) (T : TX Γ mg) (hm : mg "ways_by" = some (.ref f)) (c_points_by : Cal P w Γ.K mg base CX0 "points_by" 2 ["rule", "first", "second"] (sp_points_by Γ)) : ∀ n : Nat, FnOk P w Γ.K mg base CX0 (3 + n) f fd ["rule", "heap", "row"] (spn_ways_by Γ n)
  | 0 => by
    have nd := sc_ways_by.nd
    refine F.ok (k := 2) sc_ways_by (fun vs H Q E h => ?_) (fun cdv A outer s H vs Q E hr h => (rd0_ways_by Γ  vs H Q E h).elim)
    repeat (first | (obtain ⟨rfl, _⟩ := h; rfl) | (obtain ⟨_, h⟩ := h))
  | n + 1 => by
    have nd := sc_ways_by.nd
    have c_ways_by : Cal P w Γ.K mg base CX0 "ways_by" (3 + n) ["rule", "heap", "row"] (spn_ways_by Γ n) := ⟨f, fd, ok_ways_by F T hm c_points_by n, hm, F.kp, b_ways_by F⟩
    refine F.ok (k := 3 + n) sc_ways_by (fun vs H Q E h => ?_) (fun cdv A outer s H vs Q E hr h => ⟨t_ways_by Γ n, ?_, rd_ways_by Γ  n vs H Q E h⟩)
    · repeat (first | (obtain ⟨rfl, _⟩ := h; rfl) | (obtain ⟨_, h⟩ := h))
    · have hu := hr.units
      exact (pss_cons (ps_if (pt_cmpR (op_eqU hu) (pv 1) pe_int (nomark _)) (pss_one (ps_ret (pe_lst (pa_cons (pe_tup (pa_cons pe_int (pa_cons (pv 2) pa_nil))) pa_nil)))) pss_nil)
  (pss_cons (ps_set (i := 3) nd rfl (Or.inl rfl) (pe_lst pa_nil))
  (pss_cons (ps_for PassesOwn.never rfl (pi_range2 rfl T.b_range (pa_cons pe_int (pa_cons (pv 1) pa_nil))) (pg_name (i := 4) nd rfl (Or.inl rfl)) (pss_one (ps_if (PW.pt (pw_and (pt_cmpR op_gtU (pe_callB call_len (by rfl) T.b_len (by decide +kernel) (pa_cons (pv 2) pa_nil)) pe_int (nomark _)) (pw_and1 (pt_cmpR (op_eqU hu) (pe_ix ix_seq (pv 2) pe_int (fun _ _ => rfl)) (pe_cal c_points_by (hr.mono (by omega)) (by rfl) pass0 (pa_cons (pv 0) (pa_cons (pv 4) (pa_cons (pe_op op_subU (pv 1) (pv 4)) pa_nil)))) (nomark _))))) (pss_one (ps_for PassesOwn.never rfl (pi_seq (pe_cal c_ways_by (hr.mono (by omega)) (by rfl) pass0 (pa_cons (pv 0) (pa_cons (pv 4) (pa_cons (pe_slice sl_U (pv 2) (po_some pe_int) po_none) pa_nil))))) (pg_tup rfl (pgs_cons (pg_name (i := 5) nd rfl (Or.inr rfl)) (pgs_cons (pg_name (i := 6) nd rfl (Or.inl rfl)) pgs_nil))) (pss_one (ps_expr (pe_bm PySem.F.plainAttrs_list PySem.F.slot_list_extend PySem.F.type_list_extend mt_extend (pv 3) (pa_cons (pe_lc (own := [("right", 7), ("last", 8)]) (g := (gTup Γ.K 2 (gCons (gName 7) (gCons (gName 8) gNil)))) (tt := tYes) rfl nd (pi_seq (pe_cal c_ways_by (hr.mono (by omega)) (by rfl) pass0 (pa_cons (pv 0) (pa_cons (pe_op op_subU (pv 1) (pv 4)) (pa_cons (pv 6) pa_nil))))) (blkOk_by (N := N_ways_by) (sc := (defScope s_ways_by)) (own := [("right", 7), ("last", 8)]) (by decide +kernel)) (fun _ _ _ _ _ => (pg_tup rfl (pgs_cons (pg_name (i := 7) nd rfl (Or.inl rfl)) (pgs_cons (pg_name (i := 8) nd rfl (Or.inl rfl)) pgs_nil)))) (fun _ _ _ _ _ => pts_nil) (fun _ _ _ _ _ => (pe_tup (pa_cons (pe_tup (pa_cons (pv 5) (pa_cons (pv 7) pa_nil))) (pa_cons (pv 8) pa_nil))))) pa_nil)))))) pss_nil)))
  (pss_one (ps_ret (pv 3))))))
theorem ok_told_ways {f : Addr} {fd : FuncData} (F : Fun Γ.K "told_ways" "told_ways" s_told_ways f fd) (T : TX Γ mg) (c_check_heap : Cal P w Γ.K mg base (L2.CX P w) "check_heap" 3 ["rule", "heap", "most"] (sp_check_heap Γ)) (c_is_integer : Cal P w Γ.K mg base CX0 "is_integer" 1 ["value"] (sp_is_integer Γ)) (c_ways_by : Cal P w Γ.K mg base CX0 "ways_by" 48 ["rule", "heap", "row"] (sp_ways_by Γ)) : FnOk P w Γ.K mg base (L2.CX P w) 49 f fd ["rule", "heap", "row"] (sp_told_ways Γ) := by
  have nd := sc_told_ways.nd
  refine F.okX sc_told_ways (fun vs H Q E h => ?_) (fun cdv A outer s H vs Q E hr h => ⟨t_told_ways Γ E, ?_, rd_told_ways Γ  vs H Q E h⟩)
  · repeat (first | (obtain ⟨rfl, _⟩ := h; rfl) | (obtain ⟨_, h⟩ := h))
  · have hu := hr.units
    exact (pss_cons (ps_expr (pe_cal c_check_heap (hr.mono (by omega)) (by rfl) (passes_call (takes_of rfl rfl rfl rfl) (fun _ _ _ _ z => z)) (pa_cons (pv 0) (pa_cons (pv 1) (pa_cons (pe_gint T.c_MOST_THINGS (by rfl)) pa_nil)))))
  (pss_cons (ps_if (pt_cmpR op_gtU (pv 1) (pe_gint T.c_MOST_BACK (by rfl)) (nomark _)) (pss_one (ps_raise0 rfl (takes_of rfl rfl rfl rfl) T.x_TooGreat rfl)) pss_nil)
  (pss_cons (ps_if (PW.pt (pw_or (pt_not (pt_val (pe_callB call_isiT (by rfl) T.b_isinstance (by decide +kernel) (pa_cons (pv 2) (pa_cons (pe_tup (pa_cons (pe_bltn (by rfl) T.b_list (by decide +kernel) (v := .ty "list") rfl) (pa_cons (pe_bltn (by rfl) T.b_tuple (by decide +kernel) (v := .ty "tuple") rfl) pa_nil))) pa_nil))))) (pw_or1 (pt_not (pt_val (pe_callB (cr_all rfl) (by rfl) T.b_all (by decide +kernel) (pa_cons (pe_lc (own := [("number", 3)]) (g := (gName 3)) (tt := tYes) rfl nd (pi_seq (pv 2)) (blkOk_by (N := N_told_ways) (sc := (defScope s_told_ways)) (own := [("number", 3)]) (by decide +kernel)) (fun _ _ _ _ _ => (pg_name (i := 3) nd rfl (Or.inl rfl))) (fun _ _ _ _ _ => pts_nil) (fun _ _ _ _ _ => (pe_cal c_is_integer (hr.mono (by omega)) (by rfl) pass0 (pa_cons (pv 3) pa_nil)))) pa_nil))))))) (pss_one (ps_raise0 rfl (takes_of rfl rfl rfl rfl) T.x_BadRow rfl)) pss_nil)
  (pss_one (ps_ret (pe_lc (own := [("way", 4), ("rest", 5)]) (g := (gTup Γ.K 2 (gCons (gName 4) (gCons (gName 5) gNil)))) (tt := (tTest (tOp (rEqU Γ.K) (tCB (rLen Γ.K) (tCons (tVar 5) tNil)) (tC (.int 0))))) rfl nd (pi_seq (pe_cal c_ways_by (hr.mono (by omega)) (by rfl) pass0 (pa_cons (pv 0) (pa_cons (pv 1) (pa_cons (pe_callTy call_tuple_of (by rfl) T.b_tuple (by decide +kernel) (pa_cons (pv 2) pa_nil)) pa_nil))))) (blkOk_by (N := N_told_ways) (sc := (defScope s_told_ways)) (own := [("way", 4), ("rest", 5)]) (by decide +kernel)) (fun _ _ _ _ _ => (pg_tup rfl (pgs_cons (pg_name (i := 4) nd rfl (Or.inl rfl)) (pgs_cons (pg_name (i := 5) nd rfl (Or.inl rfl)) pgs_nil)))) (fun _ _ _ _ _ => pts_one (pt_cmpR (op_eqU hu) (pe_callB call_len (by rfl) T.b_len (by decide +kernel) (pa_cons (pv 5) pa_nil)) pe_int (nomark _))) (fun _ _ _ _ _ => (pv 4))))))))
theorem ok__law_random {f : Addr} {fd : FuncData} (F : Fun Γ.K "_law_random" "_law_random" s__law_random f fd) (T : TX Γ mg) : FnOk P w Γ.K mg base CX0 1 f fd ["_law_script", "_law_salt"] (sp__law_random Γ) := by
  have nd := sc__law_random.nd
  refine F.ok sc__law_random (fun vs H Q E h => ?_) (fun cdv A outer s H vs Q E hr h => ⟨t__law_random Γ, ?_, rd__law_random Γ  vs H Q E h⟩)
  · repeat (first | (obtain ⟨rfl, _⟩ := h; rfl) | (obtain ⟨_, h⟩ := h))
  · have hu := hr.units
    exact (pss_shut DS (pss_cons (ps_set (i := 2) nd rfl (Or.inl rfl) (pv 1))
  (pss_cons (ps_for PassesOwn.never rfl (pi_seq (pv 0)) (pg_name (i := 3) nd rfl (Or.inl rfl)) (pss_one (ps_set (i := 2) nd rfl (Or.inl rfl) (pe_op op_modU (pe_callTy call_int1 (by rfl) T.b_int (by decide +kernel) (pa_cons (pe_op op_addU (pe_op op_mulU (pv 2) pe_int) (pe_callB call_abs (by rfl) T.b_abs (by decide +kernel) (pa_cons (pv 3) pa_nil))) pa_nil)) pe_int))))
  (pss_one (ps_ret (pe_op op_addU (pe_lst (pa_cons (pv 2) (pa_cons pe_int pa_nil))) (pe_lc (own := [("_law_cell", 3)]) (g := (gName 3)) (tt := (tTest (tOp rGe (tVar 3) (tOp rPowI (tC (.int 10)) (tC (.int 18)))))) rfl nd (pi_seq (pv 0)) (blkOk_by (N := N__law_random) (sc := (defScope s__law_random)) (own := [("_law_cell", 3)]) (by decide +kernel)) (fun _ _ _ _ _ => (pg_name (i := 3) nd rfl (Or.inl rfl))) (fun _ _ _ _ _ => pts_one (pt_cmpR op_geU (pv 3) (pe_op op_powU pe_int pe_int) (nomark _))) (fun _ _ _ _ _ => (pv 3)))))))))
theorem ok__law_below {f : Addr} {fd : FuncData} (F : Fun Γ.K "_law_below" "_law_below" s__law_below f fd) (T : TX Γ mg) : FnOk P w Γ.K mg base CX0 1 f fd ["_law_d", "_law_size"] (sp__law_below Γ) := by
  have nd := sc__law_below.nd
  refine F.ok sc__law_below (fun vs H Q E h => ?_) (fun cdv A outer s H vs Q E hr h => ⟨t__law_below Γ, ?_, rd__law_below Γ  vs H Q E h⟩)
  · repeat (first | (obtain ⟨rfl, _⟩ := h; rfl) | (obtain ⟨_, h⟩ := h))
  · have hu := hr.units
    exact (pss_open DS (pss_cut (ps_if (PW.pt (pw_and (pt_cmpR (op_eqU hu) (pe_ix ix_seq (pv 0) pe_int (fun _ _ => rfl)) pe_int (nomark _)) (pw_and1 (pt_cmpR op_gtU (pe_callB call_len (by rfl) T.b_len (by decide +kernel) (pa_cons (pv 0) pa_nil)) pe_int (nomark _))))) (pss_one (ps_asg (pe_bm PySem.F.plainAttrs_list PySem.F.slot_list_pop PySem.F.type_list_pop mt_popAt (pv 0) (pa_cons pe_int pa_nil)) (pg_sub (pv 0) pe_int set_list))) pss_nil)
  (pss_cons (ps_if (pt_cmpR op_gtU (pe_ix ix_seq (pv 0) pe_int (fun _ _ => rfl)) pe_int (nomark _)) (pss_cons (ps_set (i := 2) nd rfl (Or.inl rfl) (pe_op op_modU (pe_callTy call_int1 (by rfl) T.b_int (by decide +kernel) (pa_cons (pe_ix ix_seq (pv 0) pe_int (fun _ _ => rfl)) pa_nil)) (pv 1)))
  (pss_cons (ps_asg (pe_op op_divU (pe_ix ix_seq (pv 0) pe_int (fun _ _ => rfl)) (pv 1)) (pg_sub (pv 0) pe_int set_list))
  (pss_one (ps_ret (pv 2))))) pss_nil)
  (pss_cons (ps_asg (pe_op op_modU (pe_callTy call_int1 (by rfl) T.b_int (by decide +kernel) (pa_cons (pe_op op_addU (pe_op op_mulU (pe_ix ix_seq (pv 0) pe_int (fun _ _ => rfl)) pe_int) pe_int) pa_nil)) pe_int) (pg_sub (pv 0) pe_int set_list))
  (pss_one (ps_ret (pe_op op_modU (pe_callTy call_int1 (by rfl) T.b_int (by decide +kernel) (pa_cons (pe_op op_divU (pe_ix ix_seq (pv 0) pe_int (fun _ _ => rfl)) pe_int) pa_nil)) (pv 1))))))))
theorem ok__law_sure_told {f : Addr} {fd : FuncData} (F : Fun Γ.K "_law_sure_told" "_law_sure_told" s__law_sure_told f fd) (T : TX Γ mg) (c_RuleU_initU : CalC P w Γ.K mg base (L2.CX P w) Γ.cRule "Rule" 5 ["self", "kind", "parts"] (sp_RuleU_initU Γ)) (c_clash : Cal P w Γ.K mg base CX0 "clash" 4 ["rule"] (sp_clash Γ)) (c_formula : Cal P w Γ.K mg base (L2.CX P w) "formula" 6 ["rule"] (sp_formula Γ)) (c_is_sure : Cal P w Γ.K mg base CX0 "is_sure" 5 ["rule"] (sp_is_sure Γ)) (c_points : Cal P w Γ.K mg base (L2.CX P w) "points" 3 ["rule", "first", "second"] (sp_points Γ)) (c_sure_sum : Cal P w Γ.K mg base (L2.CX P w) "sure_sum" 7 ["rule", "heap"] (sp_sure_sum Γ)) : FnOk P w Γ.K mg base CX0 8 f fd [] (sp__law_sure_told Γ) := by
  have nd := sc__law_sure_told.nd
  refine F.ok sc__law_sure_told (fun vs H Q E h => ?_) (fun cdv A outer s H vs Q E hr h => ⟨t__law_sure_told Γ, ?_, rd__law_sure_told Γ  vs H Q E h⟩)
  · repeat (first | (obtain ⟨rfl, _⟩ := h; rfl) | (obtain ⟨_, h⟩ := h))
  · have hu := hr.units
    exact (pss_cons (ps_par (i := 0) (j := 1) rfl nd rfl rfl (by decide) rfl rfl (pa_cons (pe_mak c_RuleU_initU (hr.mono (by omega)) (by rfl) passL (pa_cons pe_str (pa_cons (pe_tup (pa_cons (pe_tup (pa_cons pe_int (pa_cons pe_int (pa_cons pe_int pa_nil)))) pa_nil)) pa_nil))) (pa_cons (pe_mak c_RuleU_initU (hr.mono (by omega)) (by rfl) passL (pa_cons pe_str (pa_cons (pe_tup (pa_cons (pe_tup (pa_cons pe_int (pa_cons pe_int (pa_cons pe_int pa_nil)))) pa_nil)) pa_nil))) pa_nil)) (by rfl))
  (pss_cons (ps_if (PW.pt (pw_or (pt_cmpR (op_neU hu) (pe_cal c_points (hr.mono (by omega)) (by rfl) passL (pa_cons (pv 0) (pa_cons pe_int (pa_cons pe_int pa_nil)))) pe_int (nomark _)) (pw_or (pt_cmpR op_notIsU (pe_cal c_clash (hr.mono (by omega)) (by rfl) pass0 (pa_cons (pv 0) pa_nil)) pe_non (nomark _)) (pw_or1 (pt_cmpR (op_neU hu) (pe_cal c_sure_sum (hr.mono (by omega)) (by rfl) passL (pa_cons (pv 0) (pa_cons pe_int pa_nil))) pe_int (nomark _)))))) (pss_one (ps_ret pe_bl)) pss_nil)
  (pss_cons (ps_if (PW.pt (pw_or (pt_cmpR (op_neU hu) (pe_cal c_formula (hr.mono (by omega)) (by rfl) passL (pa_cons (pv 0) pa_nil)) (pe_tup (pa_cons (pe_tup (pa_cons pe_int (pa_cons pe_int pa_nil))) (pa_cons (pe_tup (pa_cons (pe_un un_neg pe_int) (pa_cons pe_int pa_nil))) (pa_cons (pe_tup (pa_cons pe_int (pa_cons pe_int pa_nil))) pa_nil)))) (nomark _)) (pw_or1 (pt_cmpR (op_neU hu) (pe_cal c_sure_sum (hr.mono (by omega)) (by rfl) passL (pa_cons (pv 0) (pa_cons (pe_op op_powU pe_int pe_int) pa_nil))) pe_int (nomark _))))) (pss_one (ps_ret pe_bl)) pss_nil)
  (pss_cons (ps_if (PW.pt (pw_or (pt_val (pe_cal c_is_sure (hr.mono (by omega)) (by rfl) pass0 (pa_cons (pv 1) pa_nil))) (pw_or (pt_cmpR (op_neU hu) (pe_cal c_clash (hr.mono (by omega)) (by rfl) pass0 (pa_cons (pv 1) pa_nil)) (pe_tup (pa_cons pe_int (pa_cons pe_int (pa_cons pe_int (pa_cons pe_int pa_nil))))) (nomark _)) (pw_or (pt_cmpR op_notIsU (pe_cal c_formula (hr.mono (by omega)) (by rfl) passL (pa_cons (pv 1) pa_nil)) pe_non (nomark _)) (pw_or1 (pt_cmpR (op_neU hu) (pe_cal c_sure_sum (hr.mono (by omega)) (by rfl) passL (pa_cons (pv 1) (pa_cons pe_int pa_nil))) pe_int (nomark _))))))) (pss_one (ps_ret pe_bl)) pss_nil)
  (pss_one (ps_ret (pe_and (pe_cmpR op_isU (pe_cal c_clash (hr.mono (by omega)) (by rfl) pass0 (pa_cons (pe_mak c_RuleU_initU (hr.mono (by omega)) (by rfl) passL (pa_cons pe_str (pa_cons (pe_tup (pa_cons (pe_tup (pa_cons pe_int (pa_cons pe_int pa_nil))) (pa_cons (pe_tup (pa_cons pe_int pa_nil)) pa_nil))) pa_nil))) pa_nil)) pe_non (nomark _)) (pe_one (pe_cmpR (op_eqU hu) (pe_cal c_sure_sum (hr.mono (by omega)) (by rfl) passL (pa_cons (pe_mak c_RuleU_initU (hr.mono (by omega)) (by rfl) passL (pa_cons pe_str (pa_cons (pe_tup (pa_cons (pe_tup (pa_cons pe_int (pa_cons pe_int pa_nil))) (pa_cons (pe_tup (pa_cons pe_int pa_nil)) pa_nil))) pa_nil))) (pa_cons pe_int pa_nil))) pe_int (nomark _))))))))))
theorem ok__law_ways_told {f : Addr} {fd : FuncData} (F : Fun Γ.K "_law_ways_told" "_law_ways_told" s__law_ways_told f fd) (T : TX Γ mg) (c_RuleU_initU : CalC P w Γ.K mg base (L2.CX P w) Γ.cRule "Rule" 5 ["self", "kind", "parts"] (sp_RuleU_initU Γ)) (c_how_many : Cal P w Γ.K mg base (L2.CX P w) "how_many" 3 ["heap"] (sp_how_many Γ)) (c_kth : Cal P w Γ.K mg base (L2.CX P w) "kth" 47 ["heap", "k"] (sp_kth Γ)) (c_rank : Cal P w Γ.K mg base (L2.CX P w) "rank" 94 ["way"] (sp_rank Γ)) (c_row_of : Cal P w Γ.K mg base (L2.CX P w) "row_of" 95 ["rule", "way"] (sp_row_of Γ)) (c_told_ways : Cal P w Γ.K mg base (L2.CX P w) "told_ways" 49 ["rule", "heap", "row"] (sp_told_ways Γ)) (c_turned : Cal P w Γ.K mg base (L2.CX P w) "turned" 50 ["way", "path"] (sp_turned Γ)) : FnOk P w Γ.K mg base CX0 96 f fd [] (sp__law_ways_told Γ) := by
  have nd := sc__law_ways_told.nd
  refine F.ok sc__law_ways_told (fun vs H Q E h => ?_) (fun cdv A outer s H vs Q E hr h => ⟨t__law_ways_told Γ, ?_, rd__law_ways_told Γ  vs H Q E h⟩)
  · repeat (first | (obtain ⟨rfl, _⟩ := h; rfl) | (obtain ⟨_, h⟩ := h))
  · have hu := hr.units
    exact (pss_cons (ps_set (i := 0) nd rfl (Or.inl rfl) (pe_mak c_RuleU_initU (hr.mono (by omega)) (by rfl) passL (pa_cons pe_str (pa_cons (pe_tup (pa_cons (pe_tup (pa_cons pe_int (pa_cons pe_int (pa_cons pe_int pa_nil)))) pa_nil)) pa_nil))))
  (pss_cons (ps_if (PW.pt (pw_or (pt_cmpR (op_neU hu) (pe_cal c_row_of (hr.mono (by omega)) (by rfl) passL (pa_cons (pv 0) (pa_cons (pe_tup (pa_cons (pe_tup (pa_cons pe_int (pa_cons pe_int pa_nil))) (pa_cons pe_int pa_nil))) pa_nil))) (pe_lst (pa_cons pe_int (pa_cons pe_int pa_nil))) (nomark _)) (pw_or (pt_cmpR (op_neU hu) (pe_cal c_how_many (hr.mono (by omega)) (by rfl) passL (pa_cons pe_int pa_nil)) pe_int (nomark _)) (pw_or1 (pt_cmpR (op_neU hu) (pe_cal c_rank (hr.mono (by omega)) (by rfl) passL (pa_cons (pe_tup (pa_cons (pe_tup (pa_cons pe_int (pa_cons pe_int pa_nil))) (pa_cons (pe_tup (pa_cons pe_int (pa_cons pe_int pa_nil))) pa_nil))) pa_nil)) pe_int (nomark _)))))) (pss_one (ps_ret pe_bl)) pss_nil)
  (pss_cons (ps_if (PW.pt (pw_or (pt_cmpR (op_neU hu) (pe_cal c_kth (hr.mono (by omega)) (by rfl) passL (pa_cons pe_int (pa_cons pe_int pa_nil))) (pe_tup (pa_cons pe_int (pa_cons (pe_tup (pa_cons pe_int (pa_cons (pe_tup (pa_cons pe_int (pa_cons pe_int pa_nil))) pa_nil))) pa_nil))) (nomark _)) (pw_or (pt_cmpR (op_neU hu) (pe_cal c_kth (hr.mono (by omega)) (by rfl) passL (pa_cons pe_int (pa_cons pe_int pa_nil))) (pe_tup (pa_cons (pe_tup (pa_cons (pe_tup (pa_cons pe_int (pa_cons pe_int pa_nil))) (pa_cons pe_int pa_nil))) (pa_cons pe_int pa_nil))) (nomark _)) (pw_or1 (pt_cmpR (op_neU hu) (pe_cal c_turned (hr.mono (by omega)) (by rfl) passL (pa_cons (pe_tup (pa_cons (pe_tup (pa_cons pe_int (pa_cons pe_int pa_nil))) (pa_cons pe_int pa_nil))) (pa_cons (pe_tup (pa_cons pe_int pa_nil)) pa_nil))) (pe_tup (pa_cons pe_int (pa_cons (pe_tup (pa_cons pe_int (pa_cons pe_int pa_nil))) pa_nil))) (nomark _)))))) (pss_one (ps_ret pe_bl)) pss_nil)
  (pss_one (ps_ret (pe_and (pe_cmpR (op_eqU hu) (pe_cal c_told_ways (hr.mono (by omega)) (by rfl) passL (pa_cons (pv 0) (pa_cons pe_int (pa_cons (pe_lst (pa_cons pe_int (pa_cons pe_int (pa_cons pe_int pa_nil)))) pa_nil)))) (pe_lst (pa_cons (pe_tup (pa_cons (pe_tup (pa_cons pe_int (pa_cons pe_int pa_nil))) (pa_cons (pe_tup (pa_cons pe_int (pa_cons pe_int pa_nil))) pa_nil))) pa_nil)) (nomark _)) (pe_one (pe_cmpR (op_eqU hu) (pe_cal c_told_ways (hr.mono (by omega)) (by rfl) passL (pa_cons (pv 0) (pa_cons pe_int (pa_cons (pe_lst (pa_cons pe_int pa_nil)) pa_nil)))) (pe_lst pa_nil) (nomark _)))))))))
theorem ok__law_extremes_told {f : Addr} {fd : FuncData} (F : Fun Γ.K "_law_extremes_told" "_law_extremes_told" s__law_extremes_told f fd) (T : TX Γ mg) (c_RuleU_initU : CalC P w Γ.K mg base (L2.CX P w) Γ.cRule "Rule" 5 ["self", "kind", "parts"] (sp_RuleU_initU Γ)) (c_all_sums : Cal P w Γ.K mg base (L2.CX P w) "all_sums" 4 ["rule", "heap"] (sp_all_sums Γ)) (c_count_least : Cal P w Γ.K mg base (L2.CX P w) "count_least" 5 ["rule", "heap"] (sp_count_least Γ)) (c_greatest : Cal P w Γ.K mg base (L2.CX P w) "greatest" 4 ["rule", "heap"] (sp_greatest Γ)) (c_greatest_way : Cal P w Γ.K mg base (L2.CX P w) "greatest_way" 50 ["rule", "heap"] (sp_greatest_way Γ)) (c_least : Cal P w Γ.K mg base (L2.CX P w) "least" 4 ["rule", "heap"] (sp_least Γ)) (c_least_way : Cal P w Γ.K mg base (L2.CX P w) "least_way" 50 ["rule", "heap"] (sp_least_way Γ)) : FnOk P w Γ.K mg base CX0 51 f fd [] (sp__law_extremes_told Γ) := by
  have nd := sc__law_extremes_told.nd
  refine F.ok sc__law_extremes_told (fun vs H Q E h => ?_) (fun cdv A outer s H vs Q E hr h => ⟨t__law_extremes_told Γ, ?_, rd__law_extremes_told Γ  vs H Q E h⟩)
  · repeat (first | (obtain ⟨rfl, _⟩ := h; rfl) | (obtain ⟨_, h⟩ := h))
  · have hu := hr.units
    exact (pss_cons (ps_set (i := 0) nd rfl (Or.inl rfl) (pe_mak c_RuleU_initU (hr.mono (by omega)) (by rfl) passL (pa_cons pe_str (pa_cons (pe_tup (pa_cons (pe_tup (pa_cons pe_int (pa_cons pe_int (pa_cons pe_int pa_nil)))) pa_nil)) pa_nil))))
  (pss_cons (ps_if (PW.pt (pw_or (pt_cmpR (op_neU hu) (pe_cal c_least (hr.mono (by omega)) (by rfl) passL (pa_cons (pv 0) (pa_cons pe_int pa_nil))) pe_int (nomark _)) (pw_or (pt_cmpR (op_neU hu) (pe_cal c_greatest (hr.mono (by omega)) (by rfl) passL (pa_cons (pv 0) (pa_cons pe_int pa_nil))) pe_int (nomark _)) (pw_or1 (pt_cmpR (op_neU hu) (pe_cal c_least_way (hr.mono (by omega)) (by rfl) passL (pa_cons (pv 0) (pa_cons pe_int pa_nil))) (pe_tup (pa_cons pe_int (pa_cons (pe_tup (pa_cons pe_int (pa_cons (pe_tup (pa_cons pe_int (pa_cons pe_int pa_nil))) pa_nil))) pa_nil))) (nomark _)))))) (pss_one (ps_ret pe_bl)) pss_nil)
  (pss_cons (ps_if (PW.pt (pw_or (pt_cmpR (op_neU hu) (pe_cal c_greatest_way (hr.mono (by omega)) (by rfl) passL (pa_cons (pv 0) (pa_cons pe_int pa_nil))) (pe_tup (pa_cons (pe_tup (pa_cons (pe_tup (pa_cons pe_int (pa_cons pe_int pa_nil))) (pa_cons pe_int pa_nil))) (pa_cons pe_int pa_nil))) (nomark _)) (pw_or1 (pt_cmpR (op_neU hu) (pe_cal c_count_least (hr.mono (by omega)) (by rfl) passL (pa_cons (pv 0) (pa_cons pe_int pa_nil))) pe_int (nomark _))))) (pss_one (ps_ret pe_bl)) pss_nil)
  (pss_one (ps_ret (pe_cmpR (op_eqU hu) (pe_cal c_all_sums (hr.mono (by omega)) (by rfl) passL (pa_cons (pv 0) (pa_cons pe_int pa_nil))) (pe_lst (pa_cons (pe_tup (pa_cons pe_int (pa_cons pe_int pa_nil))) (pa_cons (pe_tup (pa_cons pe_int (pa_cons pe_int pa_nil))) (pa_cons (pe_tup (pa_cons pe_int (pa_cons pe_int pa_nil))) (pa_cons (pe_tup (pa_cons pe_int (pa_cons pe_int pa_nil))) pa_nil))))) (nomark _)))))))
theorem ok__law_styles_told {f : Addr} {fd : FuncData} (F : Fun Γ.K "_law_styles_told" "_law_styles_told" s__law_styles_told f fd) (T : TX Γ mg) (c_RuleU_initU : CalC P w Γ.K mg base (L2.CX P w) Γ.cRule "Rule" 5 ["self", "kind", "parts"] (sp_RuleU_initU Γ)) (c_evenly : Cal P w Γ.K mg base (L2.CX P w) "evenly" 109 ["rule", "heap"] (sp_evenly Γ)) (c_first_better : Cal P w Γ.K mg base (L2.CX P w) "first_better" 110 ["rule", "style", "most"] (sp_first_better Γ)) (c_last_off : Cal P w Γ.K mg base (L2.CX P w) "last_off" 7 ["rule", "heap"] (sp_last_off Γ)) (c_one_off : Cal P w Γ.K mg base (L2.CX P w) "one_off" 7 ["rule", "heap"] (sp_one_off Γ)) (c_sure_table : Cal P w Γ.K mg base (L2.CX P w) "sure_table" 7 ["sums"] (sp_sure_table Γ)) (c_unlike_places : Cal P w Γ.K mg base (L2.CX P w) "unlike_places" 4 ["rule", "sums"] (sp_unlike_places Γ)) (p_Rule_parts : CalP P w Γ.K mg base Γ.cRule "parts" "body" 1) : FnOk P w Γ.K mg base CX0 111 f fd [] (sp__law_styles_told Γ) := by
  have nd := sc__law_styles_told.nd
  refine F.ok sc__law_styles_told (fun vs H Q E h => ?_) (fun cdv A outer s H vs Q E hr h => ⟨t__law_styles_told Γ, ?_, rd__law_styles_told Γ  vs H Q E h⟩)
  · repeat (first | (obtain ⟨rfl, _⟩ := h; rfl) | (obtain ⟨_, h⟩ := h))
  · have hu := hr.units
    exact (pss_cons (ps_set (i := 0) nd rfl (Or.inl rfl) (pe_mak c_RuleU_initU (hr.mono (by omega)) (by rfl) passL (pa_cons pe_str (pa_cons (pe_tup (pa_cons (pe_tup (pa_cons pe_int (pa_cons pe_int (pa_cons pe_int pa_nil)))) pa_nil)) pa_nil))))
  (pss_cons (ps_if (pt_cmpR (op_neU hu) (pe_lst (pa_cons (pe_cal c_evenly (hr.mono (by omega)) (by rfl) passL (pa_cons (pv 0) (pa_cons pe_int pa_nil))) (pa_cons (pe_cal c_evenly (hr.mono (by omega)) (by rfl) passL (pa_cons (pv 0) (pa_cons pe_int pa_nil))) (pa_cons (pe_cal c_one_off (hr.mono (by omega)) (by rfl) passL (pa_cons (pv 0) (pa_cons pe_int pa_nil))) (pa_cons (pe_cal c_last_off (hr.mono (by omega)) (by rfl) passL (pa_cons (pv 0) (pa_cons pe_int pa_nil))) pa_nil))))) (pe_lst (pa_cons pe_int (pa_cons pe_int (pa_cons pe_int (pa_cons pe_int pa_nil))))) (nomark _)) (pss_one (ps_ret pe_bl)) pss_nil)
  (pss_cons (ps_if (PW.pt (pw_or (pt_cmpR (op_neU hu) (pe_cal c_last_off (hr.mono (by omega)) (by rfl) passL (pa_cons (pv 0) (pa_cons (pe_op op_powU pe_int pe_int) pa_nil))) pe_int (nomark _)) (pw_or1 (pt_cmpR op_notIsU (pe_cal c_first_better (hr.mono (by omega)) (by rfl) passL (pa_cons (pv 0) (pa_cons pe_str (pa_cons pe_int pa_nil)))) pe_non (nomark _))))) (pss_one (ps_ret pe_bl)) pss_nil)
  (pss_cons (ps_if (PW.pt (pw_or (pt_cmpR (op_neU hu) (pe_cal c_first_better (hr.mono (by omega)) (by rfl) passL (pa_cons (pv 0) (pa_cons pe_str (pa_cons pe_int pa_nil)))) pe_int (nomark _)) (pw_or1 (pt_cmpR (op_neU hu) (pe_prp p_Rule_parts (hr.mono (by omega)) (pe_cal c_sure_table (hr.mono (by omega)) (by rfl) passL (pa_cons (pe_tup (pa_cons pe_int (pa_cons pe_int pa_nil))) pa_nil)) rfl) (pe_tup (pa_cons (pe_tup (pa_cons pe_int (pa_cons pe_int pa_nil))) (pa_cons (pe_tup (pa_cons pe_int pa_nil)) pa_nil))) (nomark _))))) (pss_one (ps_ret pe_bl)) pss_nil)
  (pss_one (ps_ret (pe_cmpR (op_eqU hu) (pe_cal c_unlike_places (hr.mono (by omega)) (by rfl) passL (pa_cons (pe_mak c_RuleU_initU (hr.mono (by omega)) (by rfl) passL (pa_cons pe_str (pa_cons (pe_tup (pa_cons (pe_tup (pa_cons pe_int (pa_cons pe_int pa_nil))) (pa_cons (pe_tup (pa_cons pe_int pa_nil)) pa_nil))) pa_nil))) (pa_cons (pe_tup (pa_cons pe_int (pa_cons pe_int pa_nil))) pa_nil))) (pe_lst (pa_cons (pe_tup (pa_cons pe_int (pa_cons pe_int pa_nil))) pa_nil)) (nomark _))))))))
theorem ok_law {f : Addr} {fd : FuncData} (F : Fun Γ.K "law" "law" s_law f fd) (T : TX Γ mg) (c__law_below : Cal P w Γ.K mg base CX0 "_law_below" 1 ["_law_d", "_law_size"] (sp__law_below Γ)) (c__law_extremes_told : Cal P w Γ.K mg base CX0 "_law_extremes_told" 51 [] (sp__law_extremes_told Γ)) (c__law_random : Cal P w Γ.K mg base CX0 "_law_random" 1 ["_law_script", "_law_salt"] (sp__law_random Γ)) (c__law_styles_told : Cal P w Γ.K mg base CX0 "_law_styles_told" 111 [] (sp__law_styles_told Γ)) (c__law_sure_told : Cal P w Γ.K mg base CX0 "_law_sure_told" 8 [] (sp__law_sure_told Γ)) (c__law_ways_told : Cal P w Γ.K mg base CX0 "_law_ways_told" 96 [] (sp__law_ways_told Γ)) : FnOk P w Γ.K mg base CX0 112 f fd ["_law_script"] (spLaw Γ.K) := by
  have nd := sc_law.nd
  refine F.ok sc_law (fun vs H Q E h => ?_) (fun cdv A outer s H vs Q E hr h => ⟨t_law_k26 Γ, ?_, rd_law_k26 Γ  vs H Q E h⟩)
  · repeat (first | (obtain ⟨rfl, _⟩ := h; rfl) | (obtain ⟨_, h⟩ := h))
  · have hu := hr.units
    exact (pss_cons (ps_set (i := 1) nd rfl (Or.inl rfl) (pe_cal c__law_random (hr.mono (by omega)) (by rfl) pass0 (pa_cons (pv 0) (pa_cons pe_int pa_nil))))
  (pss_cons (ps_set (i := 2) nd rfl (Or.inl rfl) (pe_cal c__law_below (hr.mono (by omega)) (by rfl) pass0 (pa_cons (pv 1) (pa_cons pe_int pa_nil))))
  (pss_cons (ps_if (pt_cmpR (op_eqU hu) (pv 2) pe_int (nomark _)) (pss_one (ps_ret (pe_cal0 c__law_sure_told (hr.mono (by omega)) (by rfl) pass0))) pss_nil)
  (pss_cons (ps_if (pt_cmpR (op_eqU hu) (pv 2) pe_int (nomark _)) (pss_one (ps_ret (pe_cal0 c__law_ways_told (hr.mono (by omega)) (by rfl) pass0))) pss_nil)
  (pss_one (ps_ret (pe_ifExp (pt_cmpR (op_eqU hu) (pv 2) pe_int (nomark _)) (pe_cal0 c__law_extremes_told (hr.mono (by omega)) (by rfl) pass0) (pe_cal0 c__law_styles_told (hr.mono (by omega)) (by rfl) pass0))))))))
end
abbrev s_Rule_parts : Stmt := inClass (top 25) 2
theorem all {l : PySem.W.OpenLaw} {w : World} {K : PySem.W.Frag} {h : Heap} {mg : Str → Option Value} {fa : Addr} (X : K.In h) (G : h.Ns mainGlobals mg) (hfa : mg "law" = some (.ref fa))
    {aSTYLES cBadHeap cBadNumber cBadRow cBadRule cBadSplit cBadStyle cBadSums cBadWay cNoTable cNoTerms cRule cTooGreat f_RuleU_initU pp_Rule_parts pg__Rule_parts : Addr}
    {t_MOST_TABLE t_MOST_HEAP t_MOST_POINTS t_MOST_TERMS t_MOST_EXPONENT t_MOST_THINGS t_MOST_SUMS t_MOST_STYLED t_MOST_SUM t_MOST_BACK : Tok}
    {rest_Rule_parts : List Value}
    {odS : Option Addr} {nS : Nat} {slS : Array (Option Value)} {tS1 tS2 tS3 : Tok}
    (D_is_integer : DefAt K mg "is_integer" "is_integer" s_is_integer)
    (D_is_from : DefAt K mg "is_from" "is_from" s_is_from)
    (D_are_rows : DefAt K mg "are_rows" "are_rows" s_are_rows)
    (D_is_term : DefAt K mg "is_term" "is_term" s_is_term)
    (D_are_terms : DefAt K mg "are_terms" "are_terms" s_are_terms)
    (D_most_of : DefAt K mg "most_of" "most_of" s_most_of)
    (D_raised : DefAt K mg "raised" "raised" s_raised)
    (D_points_by : DefAt K mg "points_by" "points_by" s_points_by)
    (D_check_heap : DefAt K mg "check_heap" "check_heap" s_check_heap)
    (D_points : DefAt K mg "points" "points" s_points)
    (D_things_in : DefAt K mg "things_in" "things_in" s_things_in)
    (D_is_way : DefAt K mg "is_way" "is_way" s_is_way)
    (D_check_way : DefAt K mg "check_way" "check_way" s_check_way)
    (D_splits_of : DefAt K mg "splits_of" "splits_of" s_splits_of)
    (D_row_by : DefAt K mg "row_by" "row_by" s_row_by)
    (D_check_way_of : DefAt K mg "check_way_of" "check_way_of" s_check_way_of)
    (D_row_of : DefAt K mg "row_of" "row_of" s_row_of)
    (D_counts_to : DefAt K mg "counts_to" "counts_to" s_counts_to)
    (D_how_many : DefAt K mg "how_many" "how_many" s_how_many)
    (D_way_at : DefAt K mg "way_at" "way_at" s_way_at)
    (D_kth : DefAt K mg "kth" "kth" s_kth)
    (D_rank_by : DefAt K mg "rank_by" "rank_by" s_rank_by)
    (D_rank : DefAt K mg "rank" "rank" s_rank)
    (D_turned_at : DefAt K mg "turned_at" "turned_at" s_turned_at)
    (D_turned : DefAt K mg "turned" "turned" s_turned)
    (D_table_of : DefAt K mg "table_of" "table_of" s_table_of)
    (D_least : DefAt K mg "least" "least" s_least)
    (D_greatest : DefAt K mg "greatest" "greatest" s_greatest)
    (D_firsts_of : DefAt K mg "firsts_of" "firsts_of" s_firsts_of)
    (D_first_way : DefAt K mg "first_way" "first_way" s_first_way)
    (D_least_way : DefAt K mg "least_way" "least_way" s_least_way)
    (D_greatest_way : DefAt K mg "greatest_way" "greatest_way" s_greatest_way)
    (D_counted : DefAt K mg "counted" "counted" s_counted)
    (D_count_least : DefAt K mg "count_least" "count_least" s_count_least)
    (D_sums_by : DefAt K mg "sums_by" "sums_by" s_sums_by)
    (D_all_sums : DefAt K mg "all_sums" "all_sums" s_all_sums)
    (D_triples_of : DefAt K mg "triples_of" "triples_of" s_triples_of)
    (D_is_even : DefAt K mg "is_even" "is_even" s_is_even)
    (D_clash : DefAt K mg "clash" "clash" s_clash)
    (D_is_sure : DefAt K mg "is_sure" "is_sure" s_is_sure)
    (D_lowest : DefAt K mg "lowest" "lowest" s_lowest)
    (D_plus : DefAt K mg "plus" "plus" s_plus)
    (D_times_root : DefAt K mg "times_root" "times_root" s_times_root)
    (D_through : DefAt K mg "through" "through" s_through)
    (D_value_at : DefAt K mg "value_at" "value_at" s_value_at)
    (D_sums_to : DefAt K mg "sums_to" "sums_to" s_sums_to)
    (D_line_of : DefAt K mg "line_of" "line_of" s_line_of)
    (D_one_by_one : DefAt K mg "one_by_one" "one_by_one" s_one_by_one)
    (D_formula : DefAt K mg "formula" "formula" s_formula)
    (D_sure_sum : DefAt K mg "sure_sum" "sure_sum" s_sure_sum)
    (D_even_by : DefAt K mg "even_by" "even_by" s_even_by)
    (D_evenly : DefAt K mg "evenly" "evenly" s_evenly)
    (D_one_off : DefAt K mg "one_off" "one_off" s_one_off)
    (D_last_off : DefAt K mg "last_off" "last_off" s_last_off)
    (D_styled : DefAt K mg "styled" "styled" s_styled)
    (D_first_better : DefAt K mg "first_better" "first_better" s_first_better)
    (D_check_sums : DefAt K mg "check_sums" "check_sums" s_check_sums)
    (D_due_at : DefAt K mg "due_at" "due_at" s_due_at)
    (D_sure_table : DefAt K mg "sure_table" "sure_table" s_sure_table)
    (D_unlike_places : DefAt K mg "unlike_places" "unlike_places" s_unlike_places)
    (D_ways_by : DefAt K mg "ways_by" "ways_by" s_ways_by)
    (D_told_ways : DefAt K mg "told_ways" "told_ways" s_told_ways)
    (D__law_random : DefAt K mg "_law_random" "_law_random" s__law_random)
    (D__law_below : DefAt K mg "_law_below" "_law_below" s__law_below)
    (D__law_sure_told : DefAt K mg "_law_sure_told" "_law_sure_told" s__law_sure_told)
    (D__law_ways_told : DefAt K mg "_law_ways_told" "_law_ways_told" s__law_ways_told)
    (D__law_extremes_told : DefAt K mg "_law_extremes_told" "_law_extremes_told" s__law_extremes_told)
    (D__law_styles_told : DefAt K mg "_law_styles_told" "_law_styles_told" s__law_styles_told)
    (D_law : DefAt K mg "law" "law" s_law)
    (b_abs : PySem.W.nsIn K mainGlobals "abs" = some none)
    (b_all : PySem.W.nsIn K mainGlobals "all" = some none)
    (b_bool : PySem.W.nsIn K mainGlobals "bool" = some none)
    (b_enumerate : PySem.W.nsIn K mainGlobals "enumerate" = some none)
    (b_int : PySem.W.nsIn K mainGlobals "int" = some none)
    (b_isinstance : PySem.W.nsIn K mainGlobals "isinstance" = some none)
    (b_len : PySem.W.nsIn K mainGlobals "len" = some none)
    (b_list : PySem.W.nsIn K mainGlobals "list" = some none)
    (b_min : PySem.W.nsIn K mainGlobals "min" = some none)
    (b_range : PySem.W.nsIn K mainGlobals "range" = some none)
    (b_sorted : PySem.W.nsIn K mainGlobals "sorted" = some none)
    (b_str : PySem.W.nsIn K mainGlobals "str" = some none)
    (b_sum : PySem.W.nsIn K mainGlobals "sum" = some none)
    (b_tuple : PySem.W.nsIn K mainGlobals "tuple" = some none)
    (b_zip : PySem.W.nsIn K mainGlobals "zip" = some none)
    (g_MOST_TABLE : PySem.W.nsIn K mainGlobals "MOST_TABLE" = some (some (.int 40 t_MOST_TABLE)))
    (g_MOST_HEAP : PySem.W.nsIn K mainGlobals "MOST_HEAP" = some (some (.int 1000000000000000000000000000000 t_MOST_HEAP)))
    (g_MOST_POINTS : PySem.W.nsIn K mainGlobals "MOST_POINTS" = some (some (.int 1000000 t_MOST_POINTS)))
    (g_MOST_TERMS : PySem.W.nsIn K mainGlobals "MOST_TERMS" = some (some (.int 6 t_MOST_TERMS)))
    (g_MOST_EXPONENT : PySem.W.nsIn K mainGlobals "MOST_EXPONENT" = some (some (.int 4 t_MOST_EXPONENT)))
    (g_MOST_THINGS : PySem.W.nsIn K mainGlobals "MOST_THINGS" = some (some (.int 40 t_MOST_THINGS)))
    (g_MOST_SUMS : PySem.W.nsIn K mainGlobals "MOST_SUMS" = some (some (.int 10 t_MOST_SUMS)))
    (g_STYLES : PySem.W.nsIn K mainGlobals "STYLES" = some (some (.ref aSTYLES)))
    (g_MOST_STYLED : PySem.W.nsIn K mainGlobals "MOST_STYLED" = some (some (.int 40 t_MOST_STYLED)))
    (g_MOST_SUM : PySem.W.nsIn K mainGlobals "MOST_SUM" = some (some (.int 100000 t_MOST_SUM)))
    (g_MOST_BACK : PySem.W.nsIn K mainGlobals "MOST_BACK" = some (some (.int 10 t_MOST_BACK)))
    (a_BadHeap : PySem.W.nsIn K mainGlobals "BadHeap" = some (some (.ref cBadHeap)))
    (a_BadNumber : PySem.W.nsIn K mainGlobals "BadNumber" = some (some (.ref cBadNumber)))
    (a_BadRow : PySem.W.nsIn K mainGlobals "BadRow" = some (some (.ref cBadRow)))
    (a_BadRule : PySem.W.nsIn K mainGlobals "BadRule" = some (some (.ref cBadRule)))
    (a_BadSplit : PySem.W.nsIn K mainGlobals "BadSplit" = some (some (.ref cBadSplit)))
    (a_BadStyle : PySem.W.nsIn K mainGlobals "BadStyle" = some (some (.ref cBadStyle)))
    (a_BadSums : PySem.W.nsIn K mainGlobals "BadSums" = some (some (.ref cBadSums)))
    (a_BadWay : PySem.W.nsIn K mainGlobals "BadWay" = some (some (.ref cBadWay)))
    (a_NoTable : PySem.W.nsIn K mainGlobals "NoTable" = some (some (.ref cNoTable)))
    (a_NoTerms : PySem.W.nsIn K mainGlobals "NoTerms" = some (some (.ref cNoTerms)))
    (a_Rule : PySem.W.nsIn K mainGlobals "Rule" = some (some (.ref cRule)))
    (a_TooGreat : PySem.W.nsIn K mainGlobals "TooGreat" = some (some (.ref cTooGreat)))
    (pg_Rule : PySem.W.plainGet K cRule Str.empty = true)
    (hd_Rule : PySem.W.hasDictIn K cRule = true)
    (po_Rule : PySem.W.plainOver K cRule = true)
    (sa_Rule : PySem.W.findIn K (.ref cRule) "__setattr__" = some (some (.builtin "object.__setattr__")))
    (nF_Rule : PySem.W.findIn K (.ref cRule) "form" = some none)
    (nB_Rule : PySem.W.findIn K (.ref cRule) "body" = some none)
    (f_RuleU_initU_at : PySem.W.findIn K (.ref cRule) "__init__" = some (some (.ref f_RuleU_initU)))
    (i_RuleU_initU : PySem.W.isFn K (.ref f_RuleU_initU) = true)
    (F_RuleU_initU : FunAt K "__init__" "Rule.__init__" s_RuleU_initU f_RuleU_initU)
    (mk_RuleU_initU : PySem.W.makesIn K cRule = true)
    (kc_RuleU_initU : PySem.W.keepIn K (.ref cRule) = true)
    (pf_Rule_parts : PySem.W.findIn K (.ref cRule) "parts" = some (some (.ref pp_Rule_parts)))
    (ps_Rule_parts : PySem.W.specialIn K (.ref pp_Rule_parts) "__get__" = some (some (.builtin "property.__get__")))
    (pt_Rule_parts : PySem.W.takesIn K (.ref pp_Rule_parts) = some true)
    (pr_Rule_parts : PySem.W.recIn K pp_Rule_parts "property" = some (.ref pg__Rule_parts :: rest_Rule_parts))
    (pF_Rule_parts : FunAt K "parts" "Rule.parts" s_Rule_parts pg__Rule_parts)
    (xx_BadHeap : PySem.W.excIn K cBadHeap [.type "ValueError", .type "Exception", .type "BaseException", .type "object"] "ValueError.__new__" = true)
    (xk_BadHeap : PySem.W.keepIn K (.ref cBadHeap) = true)
    (xb_BadHeap : PySem.W.subIn K (.ref cBadHeap) (.type "BaseException") = some true)
    (xt_BadHeap : PySem.W.typeIn K (.ref cBadHeap) = some (.type "type"))
    (xx_BadNumber : PySem.W.excIn K cBadNumber [.type "ValueError", .type "Exception", .type "BaseException", .type "object"] "ValueError.__new__" = true)
    (xk_BadNumber : PySem.W.keepIn K (.ref cBadNumber) = true)
    (xb_BadNumber : PySem.W.subIn K (.ref cBadNumber) (.type "BaseException") = some true)
    (xt_BadNumber : PySem.W.typeIn K (.ref cBadNumber) = some (.type "type"))
    (xx_BadRow : PySem.W.excIn K cBadRow [.type "ValueError", .type "Exception", .type "BaseException", .type "object"] "ValueError.__new__" = true)
    (xk_BadRow : PySem.W.keepIn K (.ref cBadRow) = true)
    (xb_BadRow : PySem.W.subIn K (.ref cBadRow) (.type "BaseException") = some true)
    (xt_BadRow : PySem.W.typeIn K (.ref cBadRow) = some (.type "type"))
    (xx_BadRule : PySem.W.excIn K cBadRule [.type "ValueError", .type "Exception", .type "BaseException", .type "object"] "ValueError.__new__" = true)
    (xk_BadRule : PySem.W.keepIn K (.ref cBadRule) = true)
    (xb_BadRule : PySem.W.subIn K (.ref cBadRule) (.type "BaseException") = some true)
    (xt_BadRule : PySem.W.typeIn K (.ref cBadRule) = some (.type "type"))
    (xx_BadSplit : PySem.W.excIn K cBadSplit [.type "ValueError", .type "Exception", .type "BaseException", .type "object"] "ValueError.__new__" = true)
    (xk_BadSplit : PySem.W.keepIn K (.ref cBadSplit) = true)
    (xb_BadSplit : PySem.W.subIn K (.ref cBadSplit) (.type "BaseException") = some true)
    (xt_BadSplit : PySem.W.typeIn K (.ref cBadSplit) = some (.type "type"))
    (xx_BadStyle : PySem.W.excIn K cBadStyle [.type "ValueError", .type "Exception", .type "BaseException", .type "object"] "ValueError.__new__" = true)
    (xk_BadStyle : PySem.W.keepIn K (.ref cBadStyle) = true)
    (xb_BadStyle : PySem.W.subIn K (.ref cBadStyle) (.type "BaseException") = some true)
    (xt_BadStyle : PySem.W.typeIn K (.ref cBadStyle) = some (.type "type"))
    (xx_BadSums : PySem.W.excIn K cBadSums [.type "ValueError", .type "Exception", .type "BaseException", .type "object"] "ValueError.__new__" = true)
    (xk_BadSums : PySem.W.keepIn K (.ref cBadSums) = true)
    (xb_BadSums : PySem.W.subIn K (.ref cBadSums) (.type "BaseException") = some true)
    (xt_BadSums : PySem.W.typeIn K (.ref cBadSums) = some (.type "type"))
    (xx_BadWay : PySem.W.excIn K cBadWay [.type "ValueError", .type "Exception", .type "BaseException", .type "object"] "ValueError.__new__" = true)
    (xk_BadWay : PySem.W.keepIn K (.ref cBadWay) = true)
    (xb_BadWay : PySem.W.subIn K (.ref cBadWay) (.type "BaseException") = some true)
    (xt_BadWay : PySem.W.typeIn K (.ref cBadWay) = some (.type "type"))
    (xx_NoTable : PySem.W.excIn K cNoTable [.type "ValueError", .type "Exception", .type "BaseException", .type "object"] "ValueError.__new__" = true)
    (xk_NoTable : PySem.W.keepIn K (.ref cNoTable) = true)
    (xb_NoTable : PySem.W.subIn K (.ref cNoTable) (.type "BaseException") = some true)
    (xt_NoTable : PySem.W.typeIn K (.ref cNoTable) = some (.type "type"))
    (xx_NoTerms : PySem.W.excIn K cNoTerms [.type "ValueError", .type "Exception", .type "BaseException", .type "object"] "ValueError.__new__" = true)
    (xk_NoTerms : PySem.W.keepIn K (.ref cNoTerms) = true)
    (xb_NoTerms : PySem.W.subIn K (.ref cNoTerms) (.type "BaseException") = some true)
    (xt_NoTerms : PySem.W.typeIn K (.ref cNoTerms) = some (.type "type"))
    (xx_TooGreat : PySem.W.excIn K cTooGreat [.type "ValueError", .type "Exception", .type "BaseException", .type "object"] "ValueError.__new__" = true)
    (xk_TooGreat : PySem.W.keepIn K (.ref cTooGreat) = true)
    (xb_TooGreat : PySem.W.subIn K (.ref cTooGreat) (.type "BaseException") = some true)
    (xt_TooGreat : PySem.W.typeIn K (.ref cTooGreat) = some (.type "type"))
    (st_at : K.lookup aSTYLES = some ⟨.type "tuple", odS, .seq #[.str "even" tS1, .str "first" tS2, .str "last" tS3] nS, slS⟩)
    : ∃ fd : FuncData, (∀ (s : Shared) (v : Value), BindsTo s fd ⟨[v], []⟩ [("_law_script", v)]) ∧ ∀ base : Heap, K.In base → base.Ns mainGlobals mg → FnOk l.prog w K mg base CX0 112 fa fd ["_law_script"] (spLaw K) := by
  obtain ⟨Γ, hΓ⟩ : ∃ Γ : Gm, Γ = { K := K, cRule := cRule, cGame := fa, cSplitError := fa, cBadRule := cBadRule, cBadHeap := cBadHeap, cBadSplit := cBadSplit, cNoTerms := cNoTerms, cNoTable := cNoTable, cNotSure := fa, cBadWay := cBadWay, cBadStyle := cBadStyle, cBadSums := cBadSums, cBadNumber := cBadNumber, cTooGreat := cTooGreat, cBadRow := cBadRow, cBadPlace := fa, cBadText := fa, aSTYLES := aSTYLES } := ⟨_, rfl⟩
  have hK : K = Γ.K := by rw [hΓ]
  have h_aSTYLES : aSTYLES = Γ.aSTYLES := by rw [hΓ]
  have h_cBadHeap : cBadHeap = Γ.cBadHeap := by rw [hΓ]
  have h_cBadNumber : cBadNumber = Γ.cBadNumber := by rw [hΓ]
  have h_cBadRow : cBadRow = Γ.cBadRow := by rw [hΓ]
  have h_cBadRule : cBadRule = Γ.cBadRule := by rw [hΓ]
  have h_cBadSplit : cBadSplit = Γ.cBadSplit := by rw [hΓ]
  have h_cBadStyle : cBadStyle = Γ.cBadStyle := by rw [hΓ]
  have h_cBadSums : cBadSums = Γ.cBadSums := by rw [hΓ]
  have h_cBadWay : cBadWay = Γ.cBadWay := by rw [hΓ]
  have h_cNoTable : cNoTable = Γ.cNoTable := by rw [hΓ]
  have h_cNoTerms : cNoTerms = Γ.cNoTerms := by rw [hΓ]
  have h_cRule : cRule = Γ.cRule := by rw [hΓ]
  have h_cTooGreat : cTooGreat = Γ.cTooGreat := by rw [hΓ]
  clear hΓ
  subst h_aSTYLES h_cBadHeap h_cBadNumber h_cBadRow h_cBadRule h_cBadSplit h_cBadStyle h_cBadSums h_cBadWay h_cNoTable h_cNoTerms h_cRule h_cTooGreat hK
  have cls_Rule : Cls Γ.K Γ.cRule := ⟨pg_Rule, hd_Rule, po_Rule, sa_Rule⟩
  have T : TX Γ mg := {
    b_abs := PySem.W.mg_none_of X G b_abs
    b_all := PySem.W.mg_none_of X G b_all
    b_bool := PySem.W.mg_none_of X G b_bool
    b_enumerate := PySem.W.mg_none_of X G b_enumerate
    b_int := PySem.W.mg_none_of X G b_int
    b_isinstance := PySem.W.mg_none_of X G b_isinstance
    b_len := PySem.W.mg_none_of X G b_len
    b_list := PySem.W.mg_none_of X G b_list
    b_min := PySem.W.mg_none_of X G b_min
    b_range := PySem.W.mg_none_of X G b_range
    b_sorted := PySem.W.mg_none_of X G b_sorted
    b_str := PySem.W.mg_none_of X G b_str
    b_sum := PySem.W.mg_none_of X G b_sum
    b_tuple := PySem.W.mg_none_of X G b_tuple
    b_zip := PySem.W.mg_none_of X G b_zip
    c_MOST_TABLE := ⟨_, PySem.W.mg_of X G g_MOST_TABLE⟩
    c_MOST_HEAP := ⟨_, PySem.W.mg_of X G g_MOST_HEAP⟩
    c_MOST_POINTS := ⟨_, PySem.W.mg_of X G g_MOST_POINTS⟩
    c_MOST_TERMS := ⟨_, PySem.W.mg_of X G g_MOST_TERMS⟩
    c_MOST_EXPONENT := ⟨_, PySem.W.mg_of X G g_MOST_EXPONENT⟩
    c_MOST_THINGS := ⟨_, PySem.W.mg_of X G g_MOST_THINGS⟩
    c_MOST_SUMS := ⟨_, PySem.W.mg_of X G g_MOST_SUMS⟩
    c_STYLES := PySem.W.mg_of X G g_STYLES
    c_MOST_STYLED := ⟨_, PySem.W.mg_of X G g_MOST_STYLED⟩
    c_MOST_SUM := ⟨_, PySem.W.mg_of X G g_MOST_SUM⟩
    c_MOST_BACK := ⟨_, PySem.W.mg_of X G g_MOST_BACK⟩
    x_BadHeap := ⟨⟨_, xx_BadHeap, _, _, PySem.F.excBase_ValueError⟩, PySem.W.mg_of X G a_BadHeap, xk_BadHeap, xb_BadHeap, xt_BadHeap⟩
    x_BadNumber := ⟨⟨_, xx_BadNumber, _, _, PySem.F.excBase_ValueError⟩, PySem.W.mg_of X G a_BadNumber, xk_BadNumber, xb_BadNumber, xt_BadNumber⟩
    x_BadRow := ⟨⟨_, xx_BadRow, _, _, PySem.F.excBase_ValueError⟩, PySem.W.mg_of X G a_BadRow, xk_BadRow, xb_BadRow, xt_BadRow⟩
    x_BadRule := ⟨⟨_, xx_BadRule, _, _, PySem.F.excBase_ValueError⟩, PySem.W.mg_of X G a_BadRule, xk_BadRule, xb_BadRule, xt_BadRule⟩
    x_BadSplit := ⟨⟨_, xx_BadSplit, _, _, PySem.F.excBase_ValueError⟩, PySem.W.mg_of X G a_BadSplit, xk_BadSplit, xb_BadSplit, xt_BadSplit⟩
    x_BadStyle := ⟨⟨_, xx_BadStyle, _, _, PySem.F.excBase_ValueError⟩, PySem.W.mg_of X G a_BadStyle, xk_BadStyle, xb_BadStyle, xt_BadStyle⟩
    x_BadSums := ⟨⟨_, xx_BadSums, _, _, PySem.F.excBase_ValueError⟩, PySem.W.mg_of X G a_BadSums, xk_BadSums, xb_BadSums, xt_BadSums⟩
    x_BadWay := ⟨⟨_, xx_BadWay, _, _, PySem.F.excBase_ValueError⟩, PySem.W.mg_of X G a_BadWay, xk_BadWay, xb_BadWay, xt_BadWay⟩
    x_NoTable := ⟨⟨_, xx_NoTable, _, _, PySem.F.excBase_ValueError⟩, PySem.W.mg_of X G a_NoTable, xk_NoTable, xb_NoTable, xt_NoTable⟩
    x_NoTerms := ⟨⟨_, xx_NoTerms, _, _, PySem.F.excBase_ValueError⟩, PySem.W.mg_of X G a_NoTerms, xk_NoTerms, xb_NoTerms, xt_NoTerms⟩
    x_TooGreat := ⟨⟨_, xx_TooGreat, _, _, PySem.F.excBase_ValueError⟩, PySem.W.mg_of X G a_TooGreat, xk_TooGreat, xb_TooGreat, xt_TooGreat⟩
    rule := ⟨cls_Rule, nF_Rule, nB_Rule⟩
    sty := ⟨_, _, _, _, _, _, st_at⟩
  }
  obtain ⟨fl, fdl, ml, Fl⟩ := D_law
  cases hfa.symm.trans ml
  obtain ⟨f_is_integer, fd_is_integer, m_is_integer, F_is_integer⟩ := D_is_integer
  obtain ⟨f_is_from, fd_is_from, m_is_from, F_is_from⟩ := D_is_from
  obtain ⟨f_are_rows, fd_are_rows, m_are_rows, F_are_rows⟩ := D_are_rows
  obtain ⟨f_is_term, fd_is_term, m_is_term, F_is_term⟩ := D_is_term
  obtain ⟨f_are_terms, fd_are_terms, m_are_terms, F_are_terms⟩ := D_are_terms
  obtain ⟨f_most_of, fd_most_of, m_most_of, F_most_of⟩ := D_most_of
  obtain ⟨f_raised, fd_raised, m_raised, F_raised⟩ := D_raised
  obtain ⟨f_points_by, fd_points_by, m_points_by, F_points_by⟩ := D_points_by
  obtain ⟨f_check_heap, fd_check_heap, m_check_heap, F_check_heap⟩ := D_check_heap
  obtain ⟨f_points, fd_points, m_points, F_points⟩ := D_points
  obtain ⟨f_things_in, fd_things_in, m_things_in, F_things_in⟩ := D_things_in
  obtain ⟨f_is_way, fd_is_way, m_is_way, F_is_way⟩ := D_is_way
  obtain ⟨f_check_way, fd_check_way, m_check_way, F_check_way⟩ := D_check_way
  obtain ⟨f_splits_of, fd_splits_of, m_splits_of, F_splits_of⟩ := D_splits_of
  obtain ⟨f_row_by, fd_row_by, m_row_by, F_row_by⟩ := D_row_by
  obtain ⟨f_check_way_of, fd_check_way_of, m_check_way_of, F_check_way_of⟩ := D_check_way_of
  obtain ⟨f_row_of, fd_row_of, m_row_of, F_row_of⟩ := D_row_of
  obtain ⟨f_counts_to, fd_counts_to, m_counts_to, F_counts_to⟩ := D_counts_to
  obtain ⟨f_how_many, fd_how_many, m_how_many, F_how_many⟩ := D_how_many
  obtain ⟨f_way_at, fd_way_at, m_way_at, F_way_at⟩ := D_way_at
  obtain ⟨f_kth, fd_kth, m_kth, F_kth⟩ := D_kth
  obtain ⟨f_rank_by, fd_rank_by, m_rank_by, F_rank_by⟩ := D_rank_by
  obtain ⟨f_rank, fd_rank, m_rank, F_rank⟩ := D_rank
  obtain ⟨f_turned_at, fd_turned_at, m_turned_at, F_turned_at⟩ := D_turned_at
  obtain ⟨f_turned, fd_turned, m_turned, F_turned⟩ := D_turned
  obtain ⟨f_table_of, fd_table_of, m_table_of, F_table_of⟩ := D_table_of
  obtain ⟨f_least, fd_least, m_least, F_least⟩ := D_least
  obtain ⟨f_greatest, fd_greatest, m_greatest, F_greatest⟩ := D_greatest
  obtain ⟨f_firsts_of, fd_firsts_of, m_firsts_of, F_firsts_of⟩ := D_firsts_of
  obtain ⟨f_first_way, fd_first_way, m_first_way, F_first_way⟩ := D_first_way
  obtain ⟨f_least_way, fd_least_way, m_least_way, F_least_way⟩ := D_least_way
  obtain ⟨f_greatest_way, fd_greatest_way, m_greatest_way, F_greatest_way⟩ := D_greatest_way
  obtain ⟨f_counted, fd_counted, m_counted, F_counted⟩ := D_counted
  obtain ⟨f_count_least, fd_count_least, m_count_least, F_count_least⟩ := D_count_least
  obtain ⟨f_sums_by, fd_sums_by, m_sums_by, F_sums_by⟩ := D_sums_by
  obtain ⟨f_all_sums, fd_all_sums, m_all_sums, F_all_sums⟩ := D_all_sums
  obtain ⟨f_triples_of, fd_triples_of, m_triples_of, F_triples_of⟩ := D_triples_of
  obtain ⟨f_is_even, fd_is_even, m_is_even, F_is_even⟩ := D_is_even
  obtain ⟨f_clash, fd_clash, m_clash, F_clash⟩ := D_clash
  obtain ⟨f_is_sure, fd_is_sure, m_is_sure, F_is_sure⟩ := D_is_sure
  obtain ⟨f_lowest, fd_lowest, m_lowest, F_lowest⟩ := D_lowest
  obtain ⟨f_plus, fd_plus, m_plus, F_plus⟩ := D_plus
  obtain ⟨f_times_root, fd_times_root, m_times_root, F_times_root⟩ := D_times_root
  obtain ⟨f_through, fd_through, m_through, F_through⟩ := D_through
  obtain ⟨f_value_at, fd_value_at, m_value_at, F_value_at⟩ := D_value_at
  obtain ⟨f_sums_to, fd_sums_to, m_sums_to, F_sums_to⟩ := D_sums_to
  obtain ⟨f_line_of, fd_line_of, m_line_of, F_line_of⟩ := D_line_of
  obtain ⟨f_one_by_one, fd_one_by_one, m_one_by_one, F_one_by_one⟩ := D_one_by_one
  obtain ⟨f_formula, fd_formula, m_formula, F_formula⟩ := D_formula
  obtain ⟨f_sure_sum, fd_sure_sum, m_sure_sum, F_sure_sum⟩ := D_sure_sum
  obtain ⟨f_even_by, fd_even_by, m_even_by, F_even_by⟩ := D_even_by
  obtain ⟨f_evenly, fd_evenly, m_evenly, F_evenly⟩ := D_evenly
  obtain ⟨f_one_off, fd_one_off, m_one_off, F_one_off⟩ := D_one_off
  obtain ⟨f_last_off, fd_last_off, m_last_off, F_last_off⟩ := D_last_off
  obtain ⟨f_styled, fd_styled, m_styled, F_styled⟩ := D_styled
  obtain ⟨f_first_better, fd_first_better, m_first_better, F_first_better⟩ := D_first_better
  obtain ⟨f_check_sums, fd_check_sums, m_check_sums, F_check_sums⟩ := D_check_sums
  obtain ⟨f_due_at, fd_due_at, m_due_at, F_due_at⟩ := D_due_at
  obtain ⟨f_sure_table, fd_sure_table, m_sure_table, F_sure_table⟩ := D_sure_table
  obtain ⟨f_unlike_places, fd_unlike_places, m_unlike_places, F_unlike_places⟩ := D_unlike_places
  obtain ⟨f_ways_by, fd_ways_by, m_ways_by, F_ways_by⟩ := D_ways_by
  obtain ⟨f_told_ways, fd_told_ways, m_told_ways, F_told_ways⟩ := D_told_ways
  obtain ⟨f__law_random, fd__law_random, m__law_random, F__law_random⟩ := D__law_random
  obtain ⟨f__law_below, fd__law_below, m__law_below, F__law_below⟩ := D__law_below
  obtain ⟨f__law_sure_told, fd__law_sure_told, m__law_sure_told, F__law_sure_told⟩ := D__law_sure_told
  obtain ⟨f__law_ways_told, fd__law_ways_told, m__law_ways_told, F__law_ways_told⟩ := D__law_ways_told
  obtain ⟨f__law_extremes_told, fd__law_extremes_told, m__law_extremes_told, F__law_extremes_told⟩ := D__law_extremes_told
  obtain ⟨f__law_styles_told, fd__law_styles_told, m__law_styles_told, F__law_styles_told⟩ := D__law_styles_told
  obtain ⟨fd_RuleU_initU, F_RuleU_initU⟩ := F_RuleU_initU
  obtain ⟨pd_Rule_parts, pF_Rule_parts⟩ := pF_Rule_parts
  refine ⟨fdl, fun s v => ?_, fun base kin kns => ?_⟩
  · obtain ⟨_, _, _, _, _, _, _, _, _, rfl, _, _⟩ := Fl.ex
    exact .of_eq rfl
  have p_Rule_parts : CalP l.prog w Γ.K mg base Γ.cRule "parts" "body" 1 := by
    obtain ⟨_, _, _, _, _, _, _, _, _, rfl, lk, hcd⟩ := pF_Rule_parts.ex
    exact ⟨cls_Rule, pp_Rule_parts, pg__Rule_parts, _, ⟨pf_Rule_parts, ps_Rule_parts, pt_Rule_parts, ⟨_, pr_Rule_parts⟩⟩, fn_getter (k := 0) (N := ["self"]) lk hcd ⟨rfl, rfl, rfl, by decide +kernel, rfl, by decide +kernel, by decide +kernel⟩ rfl rfl cls_Rule T.rule.nB, pF_Rule_parts.binds (ps := ["self"]) fun _ _ _ _ _ _ us hl => match us, hl with | [_], _ => rfl⟩
  have c_is_integer : Cal l.prog w Γ.K mg base CX0 "is_integer" 1 ["value"] (sp_is_integer Γ) := ⟨f_is_integer, fd_is_integer, ok_is_integer F_is_integer T , m_is_integer, F_is_integer.kp, b_is_integer F_is_integer⟩
  have c_is_from : Cal l.prog w Γ.K mg base CX0 "is_from" 2 ["value", "low", "high"] (sp_is_from Γ) := ⟨f_is_from, fd_is_from, ok_is_from F_is_from T c_is_integer, m_is_from, F_is_from.kp, b_is_from F_is_from⟩
  have c_are_rows : Cal l.prog w Γ.K mg base CX0 "are_rows" 3 ["value"] (sp_are_rows Γ) := ⟨f_are_rows, fd_are_rows, ok_are_rows F_are_rows T c_is_from, m_are_rows, F_are_rows.kp, b_are_rows F_are_rows⟩
  have c_is_term : Cal l.prog w Γ.K mg base CX0 "is_term" 3 ["value"] (sp_is_term Γ) := ⟨f_is_term, fd_is_term, ok_is_term F_is_term T c_is_from, m_is_term, F_is_term.kp, b_is_term F_is_term⟩
  have c_are_terms : Cal l.prog w Γ.K mg base CX0 "are_terms" 4 ["value"] (sp_are_terms Γ) := ⟨f_are_terms, fd_are_terms, ok_are_terms F_are_terms T c_is_term, m_are_terms, F_are_terms.kp, b_are_terms F_are_terms⟩
  have c_RuleU_initU : CalC l.prog w Γ.K mg base (L2.CX l.prog w) Γ.cRule "Rule" 5 ["self", "kind", "parts"] (sp_RuleU_initU Γ) := ⟨PySem.W.mg_of X G a_Rule, f_RuleU_initU, fd_RuleU_initU, ok_RuleU_initU F_RuleU_initU T c_are_rows c_are_terms, ⟨mk_RuleU_initU, f_RuleU_initU_at, i_RuleU_initU, kc_RuleU_initU⟩, b_RuleU_initU F_RuleU_initU⟩
  have c_most_of : Cal l.prog w Γ.K mg base CX0 "most_of" 1 ["rule"] (sp_most_of Γ) := ⟨f_most_of, fd_most_of, ok_most_of F_most_of T , m_most_of, F_most_of.kp, b_most_of F_most_of⟩
  have c_raised : Cal l.prog w Γ.K mg base CX0 "raised" 1 ["base", "exponent"] (sp_raised Γ) := ⟨f_raised, fd_raised, ok_raised F_raised T , m_raised, F_raised.kp, b_raised F_raised⟩
  have c_points_by : Cal l.prog w Γ.K mg base CX0 "points_by" 2 ["rule", "first", "second"] (sp_points_by Γ) := ⟨f_points_by, fd_points_by, ok_points_by F_points_by T c_raised, m_points_by, F_points_by.kp, b_points_by F_points_by⟩
  have c_check_heap : Cal l.prog w Γ.K mg base (L2.CX l.prog w) "check_heap" 3 ["rule", "heap", "most"] (sp_check_heap Γ) := ⟨f_check_heap, fd_check_heap, ok_check_heap F_check_heap T c_is_from c_most_of, m_check_heap, F_check_heap.kp, b_check_heap F_check_heap⟩
  have c_points : Cal l.prog w Γ.K mg base (L2.CX l.prog w) "points" 3 ["rule", "first", "second"] (sp_points Γ) := ⟨f_points, fd_points, ok_points F_points T c_is_from c_most_of c_points_by, m_points, F_points.kp, b_points F_points⟩
  have c_things_in : Cal l.prog w Γ.K mg base CX0 "things_in" 47 ["value"] (sp_things_in Γ) := ⟨f_things_in, fd_things_in, ok_things_in F_things_in T m_things_in c_is_integer 45, m_things_in, F_things_in.kp, b_things_in F_things_in⟩
  have c_is_way : Cal l.prog w Γ.K mg base CX0 "is_way" 48 ["value"] (sp_is_way Γ) := ⟨f_is_way, fd_is_way, ok_is_way F_is_way T c_things_in, m_is_way, F_is_way.kp, b_is_way F_is_way⟩
  have c_check_way : Cal l.prog w Γ.K mg base (L2.CX l.prog w) "check_way" 49 ["way"] (sp_check_way Γ) := ⟨f_check_way, fd_check_way, ok_check_way F_check_way T c_is_way, m_check_way, F_check_way.kp, b_check_way F_check_way⟩
  have c_splits_of : Cal l.prog w Γ.K mg base CX0 "splits_of" 93 ["way"] (sp_splits_of Γ) := ⟨f_splits_of, fd_splits_of, ok_splits_of F_splits_of T m_splits_of c_things_in 45, m_splits_of, F_splits_of.kp, b_splits_of F_splits_of⟩
  have c_row_by : Cal l.prog w Γ.K mg base CX0 "row_by" 94 ["rule", "way"] (sp_row_by Γ) := ⟨f_row_by, fd_row_by, ok_row_by F_row_by T c_points_by c_splits_of, m_row_by, F_row_by.kp, b_row_by F_row_by⟩
  have c_check_way_of : Cal l.prog w Γ.K mg base (L2.CX l.prog w) "check_way_of" 50 ["rule", "way"] (sp_check_way_of Γ) := ⟨f_check_way_of, fd_check_way_of, ok_check_way_of F_check_way_of T c_check_way c_most_of c_things_in, m_check_way_of, F_check_way_of.kp, b_check_way_of F_check_way_of⟩
  have c_row_of : Cal l.prog w Γ.K mg base (L2.CX l.prog w) "row_of" 95 ["rule", "way"] (sp_row_of Γ) := ⟨f_row_of, fd_row_of, ok_row_of F_row_of T c_check_way_of c_row_by, m_row_of, F_row_of.kp, b_row_of F_row_of⟩
  have c_counts_to : Cal l.prog w Γ.K mg base CX0 "counts_to" 1 ["heap"] (sp_counts_to Γ) := ⟨f_counts_to, fd_counts_to, ok_counts_to F_counts_to T , m_counts_to, F_counts_to.kp, b_counts_to F_counts_to⟩
  have c_how_many : Cal l.prog w Γ.K mg base (L2.CX l.prog w) "how_many" 3 ["heap"] (sp_how_many Γ) := ⟨f_how_many, fd_how_many, ok_how_many F_how_many T c_counts_to c_is_from, m_how_many, F_how_many.kp, b_how_many F_how_many⟩
  have c_way_at : Cal l.prog w Γ.K mg base CX0 "way_at" 46 ["counts", "heap", "k"] (sp_way_at Γ) := ⟨f_way_at, fd_way_at, ok_way_at F_way_at T m_way_at  45, m_way_at, F_way_at.kp, b_way_at F_way_at⟩
  have c_kth : Cal l.prog w Γ.K mg base (L2.CX l.prog w) "kth" 47 ["heap", "k"] (sp_kth Γ) := ⟨f_kth, fd_kth, ok_kth F_kth T c_counts_to c_is_from c_way_at, m_kth, F_kth.kp, b_kth F_kth⟩
  have c_rank_by : Cal l.prog w Γ.K mg base CX0 "rank_by" 93 ["counts", "way"] (sp_rank_by Γ) := ⟨f_rank_by, fd_rank_by, ok_rank_by F_rank_by T m_rank_by c_things_in 45, m_rank_by, F_rank_by.kp, b_rank_by F_rank_by⟩
  have c_rank : Cal l.prog w Γ.K mg base (L2.CX l.prog w) "rank" 94 ["way"] (sp_rank Γ) := ⟨f_rank, fd_rank, ok_rank F_rank T c_check_way c_counts_to c_rank_by c_things_in, m_rank, F_rank.kp, b_rank F_rank⟩
  have c_turned_at : Cal l.prog w Γ.K mg base CX0 "turned_at" 46 ["way", "path"] (sp_turned_at Γ) := ⟨f_turned_at, fd_turned_at, ok_turned_at F_turned_at T m_turned_at  45, m_turned_at, F_turned_at.kp, b_turned_at F_turned_at⟩
  have c_turned : Cal l.prog w Γ.K mg base (L2.CX l.prog w) "turned" 50 ["way", "path"] (sp_turned Γ) := ⟨f_turned, fd_turned, ok_turned F_turned T c_check_way c_is_from c_turned_at, m_turned, F_turned.kp, b_turned F_turned⟩
  have c_table_of : Cal l.prog w Γ.K mg base CX0 "table_of" 3 ["rule", "heap", "sign"] (sp_table_of Γ) := ⟨f_table_of, fd_table_of, ok_table_of F_table_of T c_points_by, m_table_of, F_table_of.kp, b_table_of F_table_of⟩
  have c_least : Cal l.prog w Γ.K mg base (L2.CX l.prog w) "least" 4 ["rule", "heap"] (sp_least Γ) := ⟨f_least, fd_least, ok_least F_least T c_check_heap c_table_of, m_least, F_least.kp, b_least F_least⟩
  have c_greatest : Cal l.prog w Γ.K mg base (L2.CX l.prog w) "greatest" 4 ["rule", "heap"] (sp_greatest Γ) := ⟨f_greatest, fd_greatest, ok_greatest F_greatest T c_check_heap c_table_of, m_greatest, F_greatest.kp, b_greatest F_greatest⟩
  have c_firsts_of : Cal l.prog w Γ.K mg base CX0 "firsts_of" 3 ["rule", "table", "heap", "sign"] (sp_firsts_of Γ) := ⟨f_firsts_of, fd_firsts_of, ok_firsts_of F_firsts_of T c_points_by, m_firsts_of, F_firsts_of.kp, b_firsts_of F_firsts_of⟩
  have c_first_way : Cal l.prog w Γ.K mg base CX0 "first_way" 49 ["rule", "table", "heap", "sign"] (sp_first_way Γ) := ⟨f_first_way, fd_first_way, ok_first_way F_first_way T m_first_way c_firsts_of 45, m_first_way, F_first_way.kp, b_first_way F_first_way⟩
  have c_least_way : Cal l.prog w Γ.K mg base (L2.CX l.prog w) "least_way" 50 ["rule", "heap"] (sp_least_way Γ) := ⟨f_least_way, fd_least_way, ok_least_way F_least_way T c_check_heap c_first_way c_table_of, m_least_way, F_least_way.kp, b_least_way F_least_way⟩
  have c_greatest_way : Cal l.prog w Γ.K mg base (L2.CX l.prog w) "greatest_way" 50 ["rule", "heap"] (sp_greatest_way Γ) := ⟨f_greatest_way, fd_greatest_way, ok_greatest_way F_greatest_way T c_check_heap c_first_way c_table_of, m_greatest_way, F_greatest_way.kp, b_greatest_way F_greatest_way⟩
  have c_counted : Cal l.prog w Γ.K mg base CX0 "counted" 4 ["rule", "heap", "sign"] (sp_counted Γ) := ⟨f_counted, fd_counted, ok_counted F_counted T c_firsts_of c_table_of, m_counted, F_counted.kp, b_counted F_counted⟩
  have c_count_least : Cal l.prog w Γ.K mg base (L2.CX l.prog w) "count_least" 5 ["rule", "heap"] (sp_count_least Γ) := ⟨f_count_least, fd_count_least, ok_count_least F_count_least T c_check_heap c_counted, m_count_least, F_count_least.kp, b_count_least F_count_least⟩
  have c_sums_by : Cal l.prog w Γ.K mg base CX0 "sums_by" 3 ["rule", "heap"] (sp_sums_by Γ) := ⟨f_sums_by, fd_sums_by, ok_sums_by F_sums_by T c_points_by, m_sums_by, F_sums_by.kp, b_sums_by F_sums_by⟩
  have c_all_sums : Cal l.prog w Γ.K mg base (L2.CX l.prog w) "all_sums" 4 ["rule", "heap"] (sp_all_sums Γ) := ⟨f_all_sums, fd_all_sums, ok_all_sums F_all_sums T c_check_heap c_sums_by, m_all_sums, F_all_sums.kp, b_all_sums F_all_sums⟩
  have c_triples_of : Cal l.prog w Γ.K mg base CX0 "triples_of" 2 ["rule"] (sp_triples_of Γ) := ⟨f_triples_of, fd_triples_of, ok_triples_of F_triples_of T c_most_of, m_triples_of, F_triples_of.kp, b_triples_of F_triples_of⟩
  have c_is_even : Cal l.prog w Γ.K mg base CX0 "is_even" 3 ["rule", "first", "second", "third"] (sp_is_even Γ) := ⟨f_is_even, fd_is_even, ok_is_even F_is_even T c_points_by, m_is_even, F_is_even.kp, b_is_even F_is_even⟩
  have c_clash : Cal l.prog w Γ.K mg base CX0 "clash" 4 ["rule"] (sp_clash Γ) := ⟨f_clash, fd_clash, ok_clash F_clash T c_is_even c_triples_of, m_clash, F_clash.kp, b_clash F_clash⟩
  have c_is_sure : Cal l.prog w Γ.K mg base CX0 "is_sure" 5 ["rule"] (sp_is_sure Γ) := ⟨f_is_sure, fd_is_sure, ok_is_sure F_is_sure T c_clash, m_is_sure, F_is_sure.kp, b_is_sure F_is_sure⟩
  have c_lowest : Cal l.prog w Γ.K mg base CX0 "lowest" 1 ["over", "under"] (sp_lowest Γ) := ⟨f_lowest, fd_lowest, ok_lowest F_lowest T , m_lowest, F_lowest.kp, b_lowest F_lowest⟩
  have c_plus : Cal l.prog w Γ.K mg base CX0 "plus" 2 ["one", "other"] (sp_plus Γ) := ⟨f_plus, fd_plus, ok_plus F_plus T c_lowest, m_plus, F_plus.kp, b_plus F_plus⟩
  have c_times_root : Cal l.prog w Γ.K mg base CX0 "times_root" 3 ["row", "root"] (sp_times_root Γ) := ⟨f_times_root, fd_times_root, ok_times_root F_times_root T c_plus, m_times_root, F_times_root.kp, b_times_root F_times_root⟩
  have c_through : Cal l.prog w Γ.K mg base CX0 "through" 4 ["values"] (sp_through Γ) := ⟨f_through, fd_through, ok_through F_through T c_lowest c_plus c_times_root, m_through, F_through.kp, b_through F_through⟩
  have c_value_at : Cal l.prog w Γ.K mg base CX0 "value_at" 3 ["row", "number"] (sp_value_at Γ) := ⟨f_value_at, fd_value_at, ok_value_at F_value_at T c_plus, m_value_at, F_value_at.kp, b_value_at F_value_at⟩
  have c_sums_to : Cal l.prog w Γ.K mg base CX0 "sums_to" 3 ["rule", "most", "is_first"] (sp_sums_to Γ) := ⟨f_sums_to, fd_sums_to, ok_sums_to F_sums_to T c_points_by, m_sums_to, F_sums_to.kp, b_sums_to F_sums_to⟩
  have c_line_of : Cal l.prog w Γ.K mg base CX0 "line_of" 5 ["rule", "is_first"] (sp_line_of Γ) := ⟨f_line_of, fd_line_of, ok_line_of F_line_of T c_sums_to c_through, m_line_of, F_line_of.kp, b_line_of F_line_of⟩
  have c_one_by_one : Cal l.prog w Γ.K mg base CX0 "one_by_one" 6 ["rule", "heap", "is_first"] (sp_one_by_one Γ) := ⟨f_one_by_one, fd_one_by_one, ok_one_by_one F_one_by_one T c_line_of c_sums_to c_value_at, m_one_by_one, F_one_by_one.kp, b_one_by_one F_one_by_one⟩
  have c_formula : Cal l.prog w Γ.K mg base (L2.CX l.prog w) "formula" 6 ["rule"] (sp_formula Γ) := ⟨f_formula, fd_formula, ok_formula F_formula T c_clash c_line_of, m_formula, F_formula.kp, b_formula F_formula⟩
  have c_sure_sum : Cal l.prog w Γ.K mg base (L2.CX l.prog w) "sure_sum" 7 ["rule", "heap"] (sp_sure_sum Γ) := ⟨f_sure_sum, fd_sure_sum, ok_sure_sum F_sure_sum T c_check_heap c_clash c_one_by_one, m_sure_sum, F_sure_sum.kp, b_sure_sum F_sure_sum⟩
  have c_even_by : Cal l.prog w Γ.K mg base CX0 "even_by" 108 ["rule", "heap"] (sp_even_by Γ) := ⟨f_even_by, fd_even_by, ok_even_by F_even_by T m_even_by c_most_of c_points_by 105, m_even_by, F_even_by.kp, b_even_by F_even_by⟩
  have c_evenly : Cal l.prog w Γ.K mg base (L2.CX l.prog w) "evenly" 109 ["rule", "heap"] (sp_evenly Γ) := ⟨f_evenly, fd_evenly, ok_evenly F_evenly T c_check_heap c_even_by, m_evenly, F_evenly.kp, b_evenly F_evenly⟩
  have c_one_off : Cal l.prog w Γ.K mg base (L2.CX l.prog w) "one_off" 7 ["rule", "heap"] (sp_one_off Γ) := ⟨f_one_off, fd_one_off, ok_one_off F_one_off T c_check_heap c_one_by_one, m_one_off, F_one_off.kp, b_one_off F_one_off⟩
  have c_last_off : Cal l.prog w Γ.K mg base (L2.CX l.prog w) "last_off" 7 ["rule", "heap"] (sp_last_off Γ) := ⟨f_last_off, fd_last_off, ok_last_off F_last_off T c_check_heap c_one_by_one, m_last_off, F_last_off.kp, b_last_off F_last_off⟩
  have c_styled : Cal l.prog w Γ.K mg base CX0 "styled" 109 ["rule", "style", "heap"] (sp_styled Γ) := ⟨f_styled, fd_styled, ok_styled F_styled T c_even_by c_one_by_one, m_styled, F_styled.kp, b_styled F_styled⟩
  have c_first_better : Cal l.prog w Γ.K mg base (L2.CX l.prog w) "first_better" 110 ["rule", "style", "most"] (sp_first_better Γ) := ⟨f_first_better, fd_first_better, ok_first_better F_first_better T c_is_from c_most_of c_styled c_table_of, m_first_better, F_first_better.kp, b_first_better F_first_better⟩
  have c_check_sums : Cal l.prog w Γ.K mg base (L2.CX l.prog w) "check_sums" 3 ["sums"] (sp_check_sums Γ) := ⟨f_check_sums, fd_check_sums, ok_check_sums F_check_sums T c_is_from, m_check_sums, F_check_sums.kp, b_check_sums F_check_sums⟩
  have c_due_at : Cal l.prog w Γ.K mg base CX0 "due_at" 1 ["row", "first", "second"] (sp_due_at Γ) := ⟨f_due_at, fd_due_at, ok_due_at F_due_at T , m_due_at, F_due_at.kp, b_due_at F_due_at⟩
  have c_sure_table : Cal l.prog w Γ.K mg base (L2.CX l.prog w) "sure_table" 7 ["sums"] (sp_sure_table Γ) := ⟨f_sure_table, fd_sure_table, ok_sure_table F_sure_table T c_RuleU_initU c_check_sums c_due_at, m_sure_table, F_sure_table.kp, b_sure_table F_sure_table⟩
  have c_unlike_places : Cal l.prog w Γ.K mg base (L2.CX l.prog w) "unlike_places" 4 ["rule", "sums"] (sp_unlike_places Γ) := ⟨f_unlike_places, fd_unlike_places, ok_unlike_places F_unlike_places T c_check_sums c_due_at c_most_of c_points_by, m_unlike_places, F_unlike_places.kp, b_unlike_places F_unlike_places⟩
  have c_ways_by : Cal l.prog w Γ.K mg base CX0 "ways_by" 48 ["rule", "heap", "row"] (sp_ways_by Γ) := ⟨f_ways_by, fd_ways_by, ok_ways_by F_ways_by T m_ways_by c_points_by 45, m_ways_by, F_ways_by.kp, b_ways_by F_ways_by⟩
  have c_told_ways : Cal l.prog w Γ.K mg base (L2.CX l.prog w) "told_ways" 49 ["rule", "heap", "row"] (sp_told_ways Γ) := ⟨f_told_ways, fd_told_ways, ok_told_ways F_told_ways T c_check_heap c_is_integer c_ways_by, m_told_ways, F_told_ways.kp, b_told_ways F_told_ways⟩
  have c__law_random : Cal l.prog w Γ.K mg base CX0 "_law_random" 1 ["_law_script", "_law_salt"] (sp__law_random Γ) := ⟨f__law_random, fd__law_random, ok__law_random F__law_random T , m__law_random, F__law_random.kp, b__law_random F__law_random⟩
  have c__law_below : Cal l.prog w Γ.K mg base CX0 "_law_below" 1 ["_law_d", "_law_size"] (sp__law_below Γ) := ⟨f__law_below, fd__law_below, ok__law_below F__law_below T , m__law_below, F__law_below.kp, b__law_below F__law_below⟩
  have c__law_sure_told : Cal l.prog w Γ.K mg base CX0 "_law_sure_told" 8 [] (sp__law_sure_told Γ) := ⟨f__law_sure_told, fd__law_sure_told, ok__law_sure_told F__law_sure_told T c_RuleU_initU c_clash c_formula c_is_sure c_points c_sure_sum, m__law_sure_told, F__law_sure_told.kp, b__law_sure_told F__law_sure_told⟩
  have c__law_ways_told : Cal l.prog w Γ.K mg base CX0 "_law_ways_told" 96 [] (sp__law_ways_told Γ) := ⟨f__law_ways_told, fd__law_ways_told, ok__law_ways_told F__law_ways_told T c_RuleU_initU c_how_many c_kth c_rank c_row_of c_told_ways c_turned, m__law_ways_told, F__law_ways_told.kp, b__law_ways_told F__law_ways_told⟩
  have c__law_extremes_told : Cal l.prog w Γ.K mg base CX0 "_law_extremes_told" 51 [] (sp__law_extremes_told Γ) := ⟨f__law_extremes_told, fd__law_extremes_told, ok__law_extremes_told F__law_extremes_told T c_RuleU_initU c_all_sums c_count_least c_greatest c_greatest_way c_least c_least_way, m__law_extremes_told, F__law_extremes_told.kp, b__law_extremes_told F__law_extremes_told⟩
  have c__law_styles_told : Cal l.prog w Γ.K mg base CX0 "_law_styles_told" 111 [] (sp__law_styles_told Γ) := ⟨f__law_styles_told, fd__law_styles_told, ok__law_styles_told F__law_styles_told T c_RuleU_initU c_evenly c_first_better c_last_off c_one_off c_sure_table c_unlike_places p_Rule_parts, m__law_styles_told, F__law_styles_told.kp, b__law_styles_told F__law_styles_told⟩
  exact ok_law Fl T c__law_below c__law_extremes_told c__law_random c__law_styles_told c__law_sure_told c__law_ways_told
theorem walk {l : PySem.W.OpenLaw} {q : Program} {loose : List Str} {XP : (Str → Option Value) → Heap → Prop} {YP : World → Heap → Prop} {d : DefRec} {K : Params → PySem.W.Frag} (hn : l.most = some 63) (hdf : d.params.defaults = [])
    (hY : ∀ (w : World) (h : Heap), YP w h → (K w.params).In h)
    (F : ∀ (w : World) (mg : Str → Option Value) (fa : Addr) (h : Heap), (K w.params).In h → h.Ns mainGlobals mg → mg d.name = some (.ref fa) →
      ∃ fd : FuncData, (∀ (s : Shared) (u : Value), BindsTo s fd ⟨[u], []⟩ [("_law_script", u)]) ∧ ∀ base : Heap, (K w.params).In base → base.Ns mainGlobals mg → FnOk l.prog w (K w.params) mg base CX0 112 fa fd ["_law_script"] (spLaw (K w.params))) :
    PySem.W.WalkO q loose XP YP l.row.toRowW d [] (fun f vs => PySem.call f vs) :=
  L2.walk_of (n := 63) (k := 112) (x := "_law_script") (CX := fun _ => CX0) (sp := fun w => spLaw (K w.params)) hn (by decide) hdf ⟨rfl, by decide, by decide⟩ hY F (fun _ _ a ns hl _ hS => ⟨a, ns, rfl, hS, hl, fun _ => rfl⟩) fun _ _ _ _ _ z => z

end Spt
open PySem PySem.W PyProof.Rows
set_option maxRecDepth 100000 in
set_option maxHeartbeats 0 in
theorem PySem.Challenge.cw_splitpoints_k26_known_rules_holds : PySem.Challenge.rw_splitpoints_k26_known_rules.Holds := by
  w_on; o_law; k_head; (case hw => w_witness2)
  k_fill
  refine Spt.walk (l := PySem.Challenge.rw_splitpoints_k26_known_rules) rfl rfl (fun w h Y => PySem.W.kIn_of Y) ?F
  case F =>
    intro w mg fa h KX G hmg
    refine' Spt.all KX G hmg ?D_is_integer ?D_is_from ?D_are_rows ?D_is_term ?D_are_terms ?D_most_of ?D_raised ?D_points_by ?D_check_heap ?D_points ?D_things_in ?D_is_way ?D_check_way ?D_splits_of ?D_row_by ?D_check_way_of ?D_row_of ?D_counts_to ?D_how_many ?D_way_at ?D_kth ?D_rank_by ?D_rank ?D_turned_at ?D_turned ?D_table_of ?D_least ?D_greatest ?D_firsts_of ?D_first_way ?D_least_way ?D_greatest_way ?D_counted ?D_count_least ?D_sums_by ?D_all_sums ?D_triples_of ?D_is_even ?D_clash ?D_is_sure ?D_lowest ?D_plus ?D_times_root ?D_through ?D_value_at ?D_sums_to ?D_line_of ?D_one_by_one ?D_formula ?D_sure_sum ?D_even_by ?D_evenly ?D_one_off ?D_last_off ?D_styled ?D_first_better ?D_check_sums ?D_due_at ?D_sure_table ?D_unlike_places ?D_ways_by ?D_told_ways ?D__law_random ?D__law_below ?D__law_sure_told ?D__law_ways_told ?D__law_extremes_told ?D__law_styles_told ?D_law ?b_abs ?b_all ?b_bool ?b_enumerate ?b_int ?b_isinstance ?b_len ?b_list ?b_min ?b_range ?b_sorted ?b_str ?b_sum ?b_tuple ?b_zip ?g_MOST_TABLE ?g_MOST_HEAP ?g_MOST_POINTS ?g_MOST_TERMS ?g_MOST_EXPONENT ?g_MOST_THINGS ?g_MOST_SUMS ?g_STYLES ?g_MOST_STYLED ?g_MOST_SUM ?g_MOST_BACK ?a_BadHeap ?a_BadNumber ?a_BadRow ?a_BadRule ?a_BadSplit ?a_BadStyle ?a_BadSums ?a_BadWay ?a_NoTable ?a_NoTerms ?a_Rule ?a_TooGreat ?pg_Rule ?hd_Rule ?po_Rule ?sa_Rule ?nF_Rule ?nB_Rule ?f_RuleU_initU_at ?i_RuleU_initU ?F_RuleU_initU ?mk_RuleU_initU ?kc_RuleU_initU ?pf_Rule_parts ?ps_Rule_parts ?pt_Rule_parts ?pr_Rule_parts ?pF_Rule_parts ?xx_BadHeap ?xk_BadHeap ?xb_BadHeap ?xt_BadHeap ?xx_BadNumber ?xk_BadNumber ?xb_BadNumber ?xt_BadNumber ?xx_BadRow ?xk_BadRow ?xb_BadRow ?xt_BadRow ?xx_BadRule ?xk_BadRule ?xb_BadRule ?xt_BadRule ?xx_BadSplit ?xk_BadSplit ?xb_BadSplit ?xt_BadSplit ?xx_BadStyle ?xk_BadStyle ?xb_BadStyle ?xt_BadStyle ?xx_BadSums ?xk_BadSums ?xb_BadSums ?xt_BadSums ?xx_BadWay ?xk_BadWay ?xb_BadWay ?xt_BadWay ?xx_NoTable ?xk_NoTable ?xb_NoTable ?xt_NoTable ?xx_NoTerms ?xk_NoTerms ?xb_NoTerms ?xt_NoTerms ?xx_TooGreat ?xk_TooGreat ?xb_TooGreat ?xt_TooGreat ?st_at
    (case a_BadHeap => k_is)
    (case a_BadNumber => k_is)
    (case a_BadRow => k_is)
    (case a_BadRule => k_is)
    (case a_BadSplit => k_is)
    (case a_BadStyle => k_is)
    (case a_BadSums => k_is)
    (case a_BadWay => k_is)
    (case a_NoTable => k_is)
    (case a_NoTerms => k_is)
    (case a_Rule => k_is)
    (case a_TooGreat => k_is)
    (case g_MOST_TABLE => k_is)
    (case g_MOST_HEAP => k_is)
    (case g_MOST_POINTS => k_is)
    (case g_MOST_TERMS => k_is)
    (case g_MOST_EXPONENT => k_is)
    (case g_MOST_THINGS => k_is)
    (case g_MOST_SUMS => k_is)
    (case g_STYLES => k_is)
    (case g_MOST_STYLED => k_is)
    (case g_MOST_SUM => k_is)
    (case g_MOST_BACK => k_is)
    (case f_RuleU_initU_at => k_is)
    (case pf_Rule_parts => k_is)
    (case pr_Rule_parts => k_is)
    (case D_is_integer => (refine' Spt.def_mk KX G ?a ?l ?c ?k; (case a => k_is); (case l => k_is); (case c => k_is); (case k => k_is)))
    (case D_is_from => (refine' Spt.def_mk KX G ?a ?l ?c ?k; (case a => k_is); (case l => k_is); (case c => k_is); (case k => k_is)))
    (case D_are_rows => (refine' Spt.def_mk KX G ?a ?l ?c ?k; (case a => k_is); (case l => k_is); (case c => k_is); (case k => k_is)))
    (case D_is_term => (refine' Spt.def_mk KX G ?a ?l ?c ?k; (case a => k_is); (case l => k_is); (case c => k_is); (case k => k_is)))
    (case D_are_terms => (refine' Spt.def_mk KX G ?a ?l ?c ?k; (case a => k_is); (case l => k_is); (case c => k_is); (case k => k_is)))
    (case D_most_of => (refine' Spt.def_mk KX G ?a ?l ?c ?k; (case a => k_is); (case l => k_is); (case c => k_is); (case k => k_is)))
    (case D_raised => (refine' Spt.def_mk KX G ?a ?l ?c ?k; (case a => k_is); (case l => k_is); (case c => k_is); (case k => k_is)))
    (case D_points_by => (refine' Spt.def_mk KX G ?a ?l ?c ?k; (case a => k_is); (case l => k_is); (case c => k_is); (case k => k_is)))
    (case D_check_heap => (refine' Spt.def_mk KX G ?a ?l ?c ?k; (case a => k_is); (case l => k_is); (case c => k_is); (case k => k_is)))
    (case D_points => (refine' Spt.def_mk KX G ?a ?l ?c ?k; (case a => k_is); (case l => k_is); (case c => k_is); (case k => k_is)))
    (case D_things_in => (refine' Spt.def_mk KX G ?a ?l ?c ?k; (case a => k_is); (case l => k_is); (case c => k_is); (case k => k_is)))
    (case D_is_way => (refine' Spt.def_mk KX G ?a ?l ?c ?k; (case a => k_is); (case l => k_is); (case c => k_is); (case k => k_is)))
    (case D_check_way => (refine' Spt.def_mk KX G ?a ?l ?c ?k; (case a => k_is); (case l => k_is); (case c => k_is); (case k => k_is)))
    (case D_splits_of => (refine' Spt.def_mk KX G ?a ?l ?c ?k; (case a => k_is); (case l => k_is); (case c => k_is); (case k => k_is)))
    (case D_row_by => (refine' Spt.def_mk KX G ?a ?l ?c ?k; (case a => k_is); (case l => k_is); (case c => k_is); (case k => k_is)))
    (case D_check_way_of => (refine' Spt.def_mk KX G ?a ?l ?c ?k; (case a => k_is); (case l => k_is); (case c => k_is); (case k => k_is)))
    (case D_row_of => (refine' Spt.def_mk KX G ?a ?l ?c ?k; (case a => k_is); (case l => k_is); (case c => k_is); (case k => k_is)))
    (case D_counts_to => (refine' Spt.def_mk KX G ?a ?l ?c ?k; (case a => k_is); (case l => k_is); (case c => k_is); (case k => k_is)))
    (case D_how_many => (refine' Spt.def_mk KX G ?a ?l ?c ?k; (case a => k_is); (case l => k_is); (case c => k_is); (case k => k_is)))
    (case D_way_at => (refine' Spt.def_mk KX G ?a ?l ?c ?k; (case a => k_is); (case l => k_is); (case c => k_is); (case k => k_is)))
    (case D_kth => (refine' Spt.def_mk KX G ?a ?l ?c ?k; (case a => k_is); (case l => k_is); (case c => k_is); (case k => k_is)))
    (case D_rank_by => (refine' Spt.def_mk KX G ?a ?l ?c ?k; (case a => k_is); (case l => k_is); (case c => k_is); (case k => k_is)))
    (case D_rank => (refine' Spt.def_mk KX G ?a ?l ?c ?k; (case a => k_is); (case l => k_is); (case c => k_is); (case k => k_is)))
    (case D_turned_at => (refine' Spt.def_mk KX G ?a ?l ?c ?k; (case a => k_is); (case l => k_is); (case c => k_is); (case k => k_is)))
    (case D_turned => (refine' Spt.def_mk KX G ?a ?l ?c ?k; (case a => k_is); (case l => k_is); (case c => k_is); (case k => k_is)))
    (case D_table_of => (refine' Spt.def_mk KX G ?a ?l ?c ?k; (case a => k_is); (case l => k_is); (case c => k_is); (case k => k_is)))
    (case D_least => (refine' Spt.def_mk KX G ?a ?l ?c ?k; (case a => k_is); (case l => k_is); (case c => k_is); (case k => k_is)))
    (case D_greatest => (refine' Spt.def_mk KX G ?a ?l ?c ?k; (case a => k_is); (case l => k_is); (case c => k_is); (case k => k_is)))
    (case D_firsts_of => (refine' Spt.def_mk KX G ?a ?l ?c ?k; (case a => k_is); (case l => k_is); (case c => k_is); (case k => k_is)))
    (case D_first_way => (refine' Spt.def_mk KX G ?a ?l ?c ?k; (case a => k_is); (case l => k_is); (case c => k_is); (case k => k_is)))
    (case D_least_way => (refine' Spt.def_mk KX G ?a ?l ?c ?k; (case a => k_is); (case l => k_is); (case c => k_is); (case k => k_is)))
    (case D_greatest_way => (refine' Spt.def_mk KX G ?a ?l ?c ?k; (case a => k_is); (case l => k_is); (case c => k_is); (case k => k_is)))
    (case D_counted => (refine' Spt.def_mk KX G ?a ?l ?c ?k; (case a => k_is); (case l => k_is); (case c => k_is); (case k => k_is)))
    (case D_count_least => (refine' Spt.def_mk KX G ?a ?l ?c ?k; (case a => k_is); (case l => k_is); (case c => k_is); (case k => k_is)))
    (case D_sums_by => (refine' Spt.def_mk KX G ?a ?l ?c ?k; (case a => k_is); (case l => k_is); (case c => k_is); (case k => k_is)))
    (case D_all_sums => (refine' Spt.def_mk KX G ?a ?l ?c ?k; (case a => k_is); (case l => k_is); (case c => k_is); (case k => k_is)))
    (case D_triples_of => (refine' Spt.def_mk KX G ?a ?l ?c ?k; (case a => k_is); (case l => k_is); (case c => k_is); (case k => k_is)))
    (case D_is_even => (refine' Spt.def_mk KX G ?a ?l ?c ?k; (case a => k_is); (case l => k_is); (case c => k_is); (case k => k_is)))
    (case D_clash => (refine' Spt.def_mk KX G ?a ?l ?c ?k; (case a => k_is); (case l => k_is); (case c => k_is); (case k => k_is)))
    (case D_is_sure => (refine' Spt.def_mk KX G ?a ?l ?c ?k; (case a => k_is); (case l => k_is); (case c => k_is); (case k => k_is)))
    (case D_lowest => (refine' Spt.def_mk KX G ?a ?l ?c ?k; (case a => k_is); (case l => k_is); (case c => k_is); (case k => k_is)))
    (case D_plus => (refine' Spt.def_mk KX G ?a ?l ?c ?k; (case a => k_is); (case l => k_is); (case c => k_is); (case k => k_is)))
    (case D_times_root => (refine' Spt.def_mk KX G ?a ?l ?c ?k; (case a => k_is); (case l => k_is); (case c => k_is); (case k => k_is)))
    (case D_through => (refine' Spt.def_mk KX G ?a ?l ?c ?k; (case a => k_is); (case l => k_is); (case c => k_is); (case k => k_is)))
    (case D_value_at => (refine' Spt.def_mk KX G ?a ?l ?c ?k; (case a => k_is); (case l => k_is); (case c => k_is); (case k => k_is)))
    (case D_sums_to => (refine' Spt.def_mk KX G ?a ?l ?c ?k; (case a => k_is); (case l => k_is); (case c => k_is); (case k => k_is)))
    (case D_line_of => (refine' Spt.def_mk KX G ?a ?l ?c ?k; (case a => k_is); (case l => k_is); (case c => k_is); (case k => k_is)))
    (case D_one_by_one => (refine' Spt.def_mk KX G ?a ?l ?c ?k; (case a => k_is); (case l => k_is); (case c => k_is); (case k => k_is)))
    (case D_formula => (refine' Spt.def_mk KX G ?a ?l ?c ?k; (case a => k_is); (case l => k_is); (case c => k_is); (case k => k_is)))
    (case D_sure_sum => (refine' Spt.def_mk KX G ?a ?l ?c ?k; (case a => k_is); (case l => k_is); (case c => k_is); (case k => k_is)))
    (case D_even_by => (refine' Spt.def_mk KX G ?a ?l ?c ?k; (case a => k_is); (case l => k_is); (case c => k_is); (case k => k_is)))
    (case D_evenly => (refine' Spt.def_mk KX G ?a ?l ?c ?k; (case a => k_is); (case l => k_is); (case c => k_is); (case k => k_is)))
    (case D_one_off => (refine' Spt.def_mk KX G ?a ?l ?c ?k; (case a => k_is); (case l => k_is); (case c => k_is); (case k => k_is)))
    (case D_last_off => (refine' Spt.def_mk KX G ?a ?l ?c ?k; (case a => k_is); (case l => k_is); (case c => k_is); (case k => k_is)))
    (case D_styled => (refine' Spt.def_mk KX G ?a ?l ?c ?k; (case a => k_is); (case l => k_is); (case c => k_is); (case k => k_is)))
    (case D_first_better => (refine' Spt.def_mk KX G ?a ?l ?c ?k; (case a => k_is); (case l => k_is); (case c => k_is); (case k => k_is)))
    (case D_check_sums => (refine' Spt.def_mk KX G ?a ?l ?c ?k; (case a => k_is); (case l => k_is); (case c => k_is); (case k => k_is)))
    (case D_due_at => (refine' Spt.def_mk KX G ?a ?l ?c ?k; (case a => k_is); (case l => k_is); (case c => k_is); (case k => k_is)))
    (case D_sure_table => (refine' Spt.def_mk KX G ?a ?l ?c ?k; (case a => k_is); (case l => k_is); (case c => k_is); (case k => k_is)))
    (case D_unlike_places => (refine' Spt.def_mk KX G ?a ?l ?c ?k; (case a => k_is); (case l => k_is); (case c => k_is); (case k => k_is)))
    (case D_ways_by => (refine' Spt.def_mk KX G ?a ?l ?c ?k; (case a => k_is); (case l => k_is); (case c => k_is); (case k => k_is)))
    (case D_told_ways => (refine' Spt.def_mk KX G ?a ?l ?c ?k; (case a => k_is); (case l => k_is); (case c => k_is); (case k => k_is)))
    (case D__law_random => (refine' Spt.def_mk KX G ?a ?l ?c ?k; (case a => k_is); (case l => k_is); (case c => k_is); (case k => k_is)))
    (case D__law_below => (refine' Spt.def_mk KX G ?a ?l ?c ?k; (case a => k_is); (case l => k_is); (case c => k_is); (case k => k_is)))
    (case D__law_sure_told => (refine' Spt.def_mk KX G ?a ?l ?c ?k; (case a => k_is); (case l => k_is); (case c => k_is); (case k => k_is)))
    (case D__law_ways_told => (refine' Spt.def_mk KX G ?a ?l ?c ?k; (case a => k_is); (case l => k_is); (case c => k_is); (case k => k_is)))
    (case D__law_extremes_told => (refine' Spt.def_mk KX G ?a ?l ?c ?k; (case a => k_is); (case l => k_is); (case c => k_is); (case k => k_is)))
    (case D__law_styles_told => (refine' Spt.def_mk KX G ?a ?l ?c ?k; (case a => k_is); (case l => k_is); (case c => k_is); (case k => k_is)))
    (case D_law => (refine' Spt.def_mk KX G ?a ?l ?c ?k; (case a => k_is); (case l => k_is); (case c => k_is); (case k => k_is)))
    (case b_abs => k_is)
    (case b_all => k_is)
    (case b_bool => k_is)
    (case b_enumerate => k_is)
    (case b_int => k_is)
    (case b_isinstance => k_is)
    (case b_len => k_is)
    (case b_list => k_is)
    (case b_min => k_is)
    (case b_range => k_is)
    (case b_sorted => k_is)
    (case b_str => k_is)
    (case b_sum => k_is)
    (case b_tuple => k_is)
    (case b_zip => k_is)
    (case pg_Rule => k_is)
    (case hd_Rule => k_is)
    (case po_Rule => k_is)
    (case sa_Rule => k_is)
    (case nF_Rule => k_is)
    (case nB_Rule => k_is)
    (case i_RuleU_initU => k_is)
    (case F_RuleU_initU => (refine' Spt.funat_mk ?l ?c ?k; (case l => k_is); (case c => k_is); (case k => k_is)))
    (case mk_RuleU_initU => k_is)
    (case kc_RuleU_initU => k_is)
    (case ps_Rule_parts => k_is)
    (case pt_Rule_parts => k_is)
    (case pF_Rule_parts => (refine' Spt.funat_mk ?l ?c ?k; (case l => k_is); (case c => k_is); (case k => k_is)))
    (case xx_BadHeap => k_exc)
    (case xk_BadHeap => k_is)
    (case xb_BadHeap => k_is)
    (case xt_BadHeap => k_is)
    (case xx_BadNumber => k_exc)
    (case xk_BadNumber => k_is)
    (case xb_BadNumber => k_is)
    (case xt_BadNumber => k_is)
    (case xx_BadRow => k_exc)
    (case xk_BadRow => k_is)
    (case xb_BadRow => k_is)
    (case xt_BadRow => k_is)
    (case xx_BadRule => k_exc)
    (case xk_BadRule => k_is)
    (case xb_BadRule => k_is)
    (case xt_BadRule => k_is)
    (case xx_BadSplit => k_exc)
    (case xk_BadSplit => k_is)
    (case xb_BadSplit => k_is)
    (case xt_BadSplit => k_is)
    (case xx_BadStyle => k_exc)
    (case xk_BadStyle => k_is)
    (case xb_BadStyle => k_is)
    (case xt_BadStyle => k_is)
    (case xx_BadSums => k_exc)
    (case xk_BadSums => k_is)
    (case xb_BadSums => k_is)
    (case xt_BadSums => k_is)
    (case xx_BadWay => k_exc)
    (case xk_BadWay => k_is)
    (case xb_BadWay => k_is)
    (case xt_BadWay => k_is)
    (case xx_NoTable => k_exc)
    (case xk_NoTable => k_is)
    (case xb_NoTable => k_is)
    (case xt_NoTable => k_is)
    (case xx_NoTerms => k_exc)
    (case xk_NoTerms => k_is)
    (case xb_NoTerms => k_is)
    (case xt_NoTerms => k_is)
    (case xx_TooGreat => k_exc)
    (case xk_TooGreat => k_is)
    (case xb_TooGreat => k_is)
    (case xt_TooGreat => k_is)
    (case st_at => k_is)
