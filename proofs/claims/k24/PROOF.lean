import PyProof.Rows.All
import Wide.All
import OpenK.AllK
import Wide.FinOn
import HandS.ForMost
import HandS.Exc
import HandS.TryOnly
import HandS.TryMany
import HandS.ExcOwn
import HandS.WordsExc
import HandS.Wide
import HandS.IsInst
import HandS.Property
import HandS.Small
import HandS.Star
import HandS.Style
import HandS.TupAny
import HandS.TupMul
import KE.GoesEnum
import HandS.ExcInit
import HandS.ExcField
import HandS.ExcValue
import KE.KExcIs
import PySem.Challenge.RW_splitpoints_k24_errors_apart
set_option Elab.async false
set_option linter.all false
set_option maxRecDepth 100000
set_option maxHeartbeats 8000000
namespace Spt
open PySem PySem.Spec L2
open PyProof.Rows hiding St

/-! ### universal operators -/
section
variable {X : Cx}
def rAddS : R2 := fun x y H Q => ∃ i j, x = .str i ∧ y = .str j ∧ i.length + j.length ≤ sizeLine ∧ Q (.str (i ++ j)) H
def rAddI : R2 := rI0 fun i j => .int (i + j)
def rSubI : R2 := rI0 fun i j => .int (i - j)
def rAddU (K : PySem.W.Frag) : R2 := fun x y H Q => rAddI x y H Q ∨ rCat x y H Q ∨ rCatA K x y H Q ∨ rAddS x y H Q
theorem op_addU : OpR X (binaryOp .Add) (rAddU X.K) := by
  intro pins s σ H x y v u Q I rx ry h
  rcases h with h | h | h | h
  · exact op_add pins s σ H x y v u Q I rx ry h
  · exact op_cat pins s σ H x y v u Q I rx ry h
  · exact op_catA pins s σ H x y v u Q I rx ry h
  · exact op_add_str pins s σ H x y v u Q I rx ry h
theorem op_subU : OpR X (binaryOp .Sub) rSubI := op_sub
def rMulI : R2 := rI CMulW fun i j => .int (i * j)
def rMulU (K : PySem.W.Frag) : R2 := fun x y H Q => rMulI x y H Q ∨ rRep x y H Q ∨ rRepT K x y H Q
theorem op_mulU : OpR X (binaryOp .Mult) (rMulU X.K) := by
  intro pins s σ H x y v u Q I rx ry h
  rcases h with h | h | h
  · exact op_mulW pins s σ H x y v u Q I rx ry h
  · exact op_rep pins s σ H x y v u Q I rx ry h
  · exact op_repT pins s σ H x y v u Q I rx ry h
def rDivI : R2 := rI CDivW fun i j => .int (i / j)
theorem op_divU : OpR X (binaryOp .FloorDiv) rDivI := op_fdivW
def rModI : R2 := rI (fun _ j => 0 < j) fun i j => .int (i % j)
theorem op_modU : OpR X (binaryOp .Mod) rModI := op_mod
def rPowI : R2 := rI CPow fun i j => .int (i ^ j.toNat)
theorem op_powU : OpR X (binaryOp .Pow) rPowI := op_pow
def rLt : R2 := rI0 fun i j => .bl (decide (i < j))
def rLe : R2 := rI0 fun i j => .bl (decide (i ≤ j))
def rGt : R2 := rI0 fun i j => .bl (decide (j < i))
def rGe : R2 := rI0 fun i j => .bl (decide (j ≤ i))
theorem op_ltU : OpR X (compareOp .Lt) rLt := op_lt
theorem op_leU : OpR X (compareOp .LtE) rLe := op_le
theorem op_gtU : OpR X (compareOp .Gt) rGt := op_gt
theorem op_geU : OpR X (compareOp .GtE) rGe := op_ge
def rEqU (K : PySem.W.Frag) : R2 := fun x y H Q => rEq x y H Q ∨ rEqD K x y H Q
def rNeU (K : PySem.W.Frag) : R2 := fun x y H Q => rNe x y H Q ∨ rNeD K x y H Q
theorem op_eqU (hu : X.A.units + 64 < cLine) : OpR X (compareOp .Eq) (rEqU X.K) := by
  intro pins s σ H x y v u Q I rx ry h
  rcases h with h | h
  · exact op_eq pins s σ H x y v u Q I rx ry h
  · exact op_eqD hu pins s σ H x y v u Q I rx ry h
theorem op_neU (hu : X.A.units + 64 < cLine) : OpR X (compareOp .NotEq) (rNeU X.K) := by
  intro pins s σ H x y v u Q I rx ry h
  rcases h with h | h
  · exact op_ne pins s σ H x y v u Q I rx ry h
  · exact op_neD hu pins s σ H x y v u Q I rx ry h
def rIsN : R2 := fun x y H Q => y = .non ∧ Q (.bl (decide (x = .non))) H
def rNotN : R2 := fun x y H Q => y = .non ∧ Q (.bl (!decide (x = .non))) H
def rIsU : R2 := fun x y H Q => rIsN x y H Q ∨ rIsB x y H Q
def rNotIsU : R2 := fun x y H Q => rNotN x y H Q ∨ rNotB x y H Q
theorem op_isU : OpR X (compareOp .Is) rIsU := by
  intro pins s σ H x y v u Q I rx ry h
  rcases h with h | h
  · exact op_isN pins s σ H x y v u Q I rx ry h
  · exact op_isBl pins s σ H x y v u Q I rx ry h
theorem op_notIsU : OpR X (compareOp .IsNot) rNotIsU := by
  intro pins s σ H x y v u Q I rx ry h
  rcases h with h | h
  · exact op_notN pins s σ H x y v u Q I rx ry h
  · exact op_notBl pins s σ H x y v u Q I rx ry h
def rInS : R2 := fun x y H Q => ∃ i j, x = .str i ∧ y = .str j ∧ Q (.bl (!(Builtin.Str.occurrences j i 0 j.length 1).isEmpty)) H
def rNotInS : R2 := fun x y H Q => ∃ i j, x = .str i ∧ y = .str j ∧ Q (.bl (!(!(Builtin.Str.occurrences j i 0 j.length 1).isEmpty))) H
def rInU (K : PySem.W.Frag) : R2 := fun x y H Q => rIn K false x y H Q ∨ rInS x y H Q
def rNotInU (K : PySem.W.Frag) : R2 := fun x y H Q => rIn K true x y H Q ∨ rNotInS x y H Q
theorem op_inU : OpR X (compareOp .In) (rInU X.K) := by
  intro pins s σ H x y v u Q I rx ry h
  rcases h with h | h
  · exact op_in_seq pins s σ H x y v u Q I rx ry h
  · exact op_in_str pins s σ H x y v u Q I rx ry h
theorem op_notInU : OpR X (compareOp .NotIn) (rNotInU X.K) := by
  intro pins s σ H x y v u Q I rx ry h
  rcases h with h | h
  · exact op_notIn_seq pins s σ H x y v u Q I rx ry h
  · exact op_notin_str pins s σ H x y v u Q I rx ry h
/-- slices of lists, tuples, texts -/
abbrev RSl := V → Option Int → Option Int → Hp → VK → Prop
def rSlU (K : PySem.W.Frag) : RSl := fun x lo hi H Q => rSlL K x lo hi H Q ∨ rSlA K x lo hi H Q ∨ rSlS x lo hi H Q
theorem sl_U : SlR X (rSlU X.K) := by
  intro pins s σ H x v vl vu lo hi sl Q I rx hs pl pu h
  rcases h with h | h | h
  · exact sl_list pins s σ H x v vl vu lo hi sl Q I rx hs pl pu h
  · exact sl_tupA pins s σ H x v vl vu lo hi sl Q I rx hs pl pu h
  · exact sl_str pins s σ H x v vl vu lo hi sl Q I rx hs pl pu h
/-- what a for walks: a list or a tuple -/
def kSeq (K : PySem.W.Frag) (x : V) (H : Hp) (R : It → Hp → Prop) : Prop := (∃ a, x = .ref a ∧ (∃ xs, SqL K H a xs) ∧ R (Itl K a) H) ∨ (∃ a, x = .ref a ∧ (∃ xs, SqT K H a xs) ∧ R (Itt K a) H)
def iSeq (K : PySem.W.Frag) (tl : TE) : TI := fun σ H R => tl σ H fun x H1 => kSeq K x H1 R
theorem pi_seq {tg l : Expr} {tl : TE} (hl : PE X l tl) : PI X tg l (iSeq X.K tl) := by
  refine ⟨fun pins s σ H R I h => ?_⟩
  refine thn (hl.run pins s σ H _ I h) fun v s1 ⟨x, H1, I1, r1, q1⟩ => ?_
  rcases q1 with ⟨a, e, ⟨xs, hq⟩, q⟩ | ⟨a, e, ⟨xs, hq⟩, q⟩
  · subst e
    cases r1
    obtain ⟨its, rv, p, hz⟩ := I1.list hq
    refine wpAny_pyIter_list p.isList ?_
    refine ⟨s1.heap.objs.size, [s1.heap.objs.size], _, _, H1, rfl, I1.kept (t' := s1.toks) fun b o e => Heap.get?_push_of_some _ e, turn_list a _, ⟨_, Heap.get?_push_size _ rfl, rfl, rfl⟩, fun b hb => ?_, q⟩
    have e : b = s1.heap.objs.size := by simpa using hb
    subst e
    exact I1.fpOk (Nat.le_refl _) (I1.hok.fresh (Nat.le_refl _))
  · subst e
    cases r1
    obtain ⟨its, rv, p, hz⟩ := I1.tuple hq
    refine wpAny_pyIter_tuple (show s1.heap.IsTuple a its.toArray from p) ?_
    refine ⟨s1.heap.objs.size, [s1.heap.objs.size], _, _, H1, rfl, I1.kept (t' := s1.toks) fun b o e => Heap.get?_push_of_some _ e, turn_tuple a _, ⟨_, Heap.get?_push_size _ rfl, rfl, rfl⟩, fun b hb => ?_, q⟩
    have e : b = s1.heap.objs.size := by simpa using hb
    subst e
    exact I1.fpOk (Nat.le_refl _) (I1.hok.fresh (Nat.le_refl _))
end

/-! ### calls -/
structure Cal (P : Program) (w : World) (K : PySem.W.Frag) (mg : Str → Option Value) (base : Heap) (CX : CXT) (x : Str) (k : Nat) (ps : List Str) (sp : Sp) : Prop where
  ex : ∃ (f : Addr) (fd : FuncData), FnOk P w K mg base CX k f fd ps sp ∧ mg x = some (.ref f) ∧ PySem.W.keepIn K (.ref f) = true ∧ Binds K fd ps []
def tCal (sp : Sp) (E : XK) (t : TA) : TE := fun σ H Q => t σ H fun vs H1 => sp vs H1 Q E
def tCalS (sp : Sp) (E : St → XK) (t : TA) : TE := fun σ H Q => t σ H fun vs H1 => sp vs H1 Q (E σ)
section
variable {X : Cx} {CX : CXT} {k : Nat} {ps : List Str} {sp : Sp} {E : XK} {x : Str} {p pos : Pos} {e : Expr} {es : List Expr} {t : TA}
theorem tCal_eq (t : TA) : tCall sp [] E t = tCal sp E t := by
  funext σ H Q
  unfold tCall tCal
  simp only [List.append_nil]
theorem pe_cal (c : Cal X.prog X.w X.K X.mg X.base CX x k ps sp) (hr : Room k X.A) (hg : Gl X x) (hx : Passes CX X E) (ha : PA X (e :: es) t) (hdb : (x == ("__debug__" : Str)) = false := by decide)
    (he : starEach (e :: es) X.env = (false, eval e X.env) :: starEach es X.env := by rfl) (hpl : (backTo pos (starEach es X.env)).any (·.1) = false := by rfl) :
    PE X (.Call (.Name x p) (e :: es) [] pos) (tCal sp E t) := by
  obtain ⟨f, fd, F, hm, hk, hb⟩ := c.ex
  have h := pe_call (p := p) (pos := pos) F hr hg hm hk hb .nil hx ha hdb he hpl
  rw [tCal_eq] at h
  exact h
theorem pe_cal0 (c : Cal X.prog X.w X.K X.mg X.base CX x k ps sp) (hr : Room k X.A) (hg : Gl X x) (hx : Passes CX X E) (hdb : (x == ("__debug__" : Str)) = false := by decide) :
    PE X (.Call (.Name x p) [] [] pos) (tCal sp E tNil) := by
  obtain ⟨f, fd, F, hm, hk, hb⟩ := c.ex
  have h := pe_call0 (p := p) (pos := pos) F hr hg hm hk hb .nil hx hdb
  rw [tCal_eq] at h
  exact h
theorem pe_calS {E : St → XK} (c : Cal X.prog X.w X.K X.mg X.base CX x k ps sp) (hr : Room k X.A) (hg : Gl X x) (hx : ∀ σ, PassesAt CX X σ (E σ)) (ha : PA X (e :: es) t) (hdb : (x == ("__debug__" : Str)) = false := by decide)
    (he : starEach (e :: es) X.env = (false, eval e X.env) :: starEach es X.env := by rfl) (hpl : (backTo pos (starEach es X.env)).any (·.1) = false := by rfl) :
    PE X (.Call (.Name x p) (e :: es) [] pos) (tCalS sp E t) := by
  obtain ⟨f, fd, F, hm, hk, hb⟩ := c.ex
  exact pe_callS (p := p) (pos := pos) F hr hg hm hk hb hx ha hdb he hpl
end

/-! ### methods, makers -/
structure CalM (P : Program) (w : World) (K : PySem.W.Frag) (mg : Str → Option Value) (base : Heap) (CX : CXT) (C : Addr) (m : Str) (k : Nat) (ps : List Str) (sp : Sp) : Prop where
  cls : Cls K C
  ex : ∃ (f : Addr) (fd : FuncData), FnOk P w K mg base CX k f fd ps sp ∧ Meth K C m f ∧ Binds K fd ps []
structure CalC (P : Program) (w : World) (K : PySem.W.Frag) (mg : Str → Option Value) (base : Heap) (CX : CXT) (C : Addr) (x : Str) (k : Nat) (ps : List Str) (sp : Sp) : Prop where
  m : mg x = some (.ref C)
  ex : ∃ (f : Addr) (fd : FuncData), FnOk P w K mg base CX k f fd ps sp ∧ Mk K C f ∧ Binds K fd ps []
def tMet (C : Addr) (m : Str) (sp : Sp) (E : XK) (ta : TE) (t : TA) : TE := fun σ H Q => ta σ H fun x H1 => ∃ a dx fs, x = .ref a ∧ H1 a = some (.ins C dx fs) ∧ fs.lookup m = none ∧
  t σ H1 fun vs H2 => sp (x :: vs) H2 Q E
def tMetS (C : Addr) (m : Str) (sp : Sp) (E : St → XK) (ta : TE) (t : TA) : TE := fun σ H Q => ta σ H fun x H1 => ∃ a dx fs, x = .ref a ∧ H1 a = some (.ins C dx fs) ∧ fs.lookup m = none ∧
  t σ H1 fun vs H2 => sp (x :: vs) H2 Q (E σ)
def tMak (C : Addr) (sp : Sp) (E : XK) (t : TA) : TE := fun σ H Q => t σ H fun vs H1 => ∀ x dx, H1 x = none → H1 dx = none → dx ≠ x →
  sp (.ref x :: vs) (upd (upd H1 dx (.own x)) x (.ins C dx [])) (fun v H2 => v = .non ∧ Q (.ref x) H2) E
def tMakS (C : Addr) (sp : Sp) (E : St → XK) (t : TA) : TE := fun σ H Q => t σ H fun vs H1 => ∀ x dx, H1 x = none → H1 dx = none → dx ≠ x →
  sp (.ref x :: vs) (upd (upd H1 dx (.own x)) x (.ins C dx [])) (fun v H2 => v = .non ∧ Q (.ref x) H2) (E σ)
section
variable {X : Cx} {CX : CXT} {k : Nat} {C : Addr} {ps : List Str} {sp : Sp} {E : XK} {x m : Str} {p pos apos : Pos} {o e : Expr} {es : List Expr} {ta : TE} {t : TA}
theorem tMet_eq (ta : TE) (t : TA) : tMeth C m sp [] E ta t = tMet C m sp E ta t := by
  funext σ H Q
  unfold tMeth tMet
  simp only [List.append_nil]
theorem tMak_eq (t : TA) : tMake C sp [] E t = tMak C sp E t := by
  funext σ H Q
  unfold tMake tMak
  simp only [List.append_nil]
theorem pe_met {pl : Sem Bool} (he : PE X o ta) (c : CalM X.prog X.w X.K X.mg X.base CX C m k ps sp) (hr : Room k X.A) (hx : Passes CX X E) (ha : PA X (e :: es) t)
    (hst : starEach (e :: es) X.env = (false, eval e X.env) :: starEach es X.env := by rfl) (hpl : (backTo pos (starEach es X.env)).any (·.1) = false := by rfl)
    (ht : eval (.Call (.Attribute o m apos) (e :: es) [] pos) X.env = (do
      let ov ← eval o X.env
      standAt apos.atName
      let (f, first) ← holding [ov] (getMethod ov m pl)
      callWith pos f first (backTo pos (starEach (e :: es) X.env)) (backToKw pos (keywordEach [] X.env))) := by rfl) :
    PE X (.Call (.Attribute o m apos) (e :: es) [] pos) (tMet C m sp E ta t) := by
  obtain ⟨f, fd, F, hm, hb⟩ := c.ex
  have h := pe_meth he c.cls hm F hr hb .nil hx ha hst hpl ht
  rw [tMet_eq] at h
  exact h
theorem pe_met0 {pl : Sem Bool} (he : PE X o ta) (c : CalM X.prog X.w X.K X.mg X.base CX C m k ps sp) (hr : Room k X.A) (hx : Passes CX X E)
    (ht : eval (.Call (.Attribute o m apos) [] [] pos) X.env = (do
      let ov ← eval o X.env
      standAt apos.atName
      let (f, first) ← holding [ov] (getMethod ov m pl)
      callWith pos f first (backTo pos (starEach [] X.env)) (backToKw pos (keywordEach [] X.env))) := by rfl) :
    PE X (.Call (.Attribute o m apos) [] [] pos) (tMet C m sp E ta tNil) := by
  obtain ⟨f, fd, F, hm, hb⟩ := c.ex
  have h := pe_meth0 he c.cls hm F hr hb .nil hx ht
  rw [tMet_eq] at h
  exact h
theorem pe_metS {E : St → XK} {pl : Sem Bool} (he : PE X o ta) (c : CalM X.prog X.w X.K X.mg X.base CX C m k ps sp) (hr : Room k X.A) (hx : ∀ σ, PassesAt CX X σ (E σ)) (ha : PA X (e :: es) t)
    (hst : starEach (e :: es) X.env = (false, eval e X.env) :: starEach es X.env := by rfl) (hpl : (backTo pos (starEach es X.env)).any (·.1) = false := by rfl)
    (ht : eval (.Call (.Attribute o m apos) (e :: es) [] pos) X.env = (do
      let ov ← eval o X.env
      standAt apos.atName
      let (f, first) ← holding [ov] (getMethod ov m pl)
      callWith pos f first (backTo pos (starEach (e :: es) X.env)) (backToKw pos (keywordEach [] X.env))) := by rfl) :
    PE X (.Call (.Attribute o m apos) (e :: es) [] pos) (tMetS C m sp E ta t) := by
  obtain ⟨f, fd, F, hm, hb⟩ := c.ex
  refine ⟨fun pins s σ H Q I h => ?_⟩
  refine PySem.W.methodCall_KW (pl := pl) (thn (he.run pins s σ H _ I h) fun u s1 ⟨x, H1, I1, rx, a, dx, fs, ex, ea, l, q⟩ => ?_) ht
  subst ex
  obtain rfl : u = Value.ref a := rx
  refine getmeth_ok I1 ea c.cls hm l ?_
  refine PySem.W.callWith_K (first := [.ref a]) (h₀ := X.base) I.ok.mod.kin hm.kp (thn (ha.run pos pins s1 σ H1 _ I1 q) fun us s2 ⟨vs, H2, I2, r, q2⟩ => ⟨I2.kIn, ?_⟩) hst hpl
  exact run_fnS (us := .ref a :: us) (vs := .ref a :: vs) F hr hb (hx σ) I2 (.cons rfl r) q2
theorem pe_mak (c : CalC X.prog X.w X.K X.mg X.base CX C x k ps sp) (hr : Room (k + 1) X.A) (hg : Gl X x) (hx : Passes CX X E)
    (ha : PA X (e :: es) t) (hdb : (x == ("__debug__" : Str)) = false := by decide) (he : starEach (e :: es) X.env = (false, eval e X.env) :: starEach es X.env := by rfl) (hpl : (backTo pos (starEach es X.env)).any (·.1) = false := by rfl) :
    PE X (.Call (.Name x p) (e :: es) [] pos) (tMak C sp E t) := by
  obtain ⟨f, fd, F, M, hb⟩ := c.ex
  have h := pe_make (p := p) (pos := pos) M F hr hg c.m hb .nil hx ha hdb he hpl
  rw [tMak_eq] at h
  exact h
/-- run_make at the slots σ -/
theorem run_makeS {E : XK} {f : Addr} {fd : FuncData} {pins : List (Addr × Obj)} {σ : St} {H : Hp} {s : Shared} {Q : VK} {us : List Value} {vs : List V} (M : Mk X.K C f) (F : FnOk X.prog X.w X.K X.mg X.base CX k f fd ps sp) (hr : Room (k + 1) X.A) (hb : Binds X.K fd ps [])
    (hx : ∀ (pins : List (Addr × Obj)) (H : Hp) (s : Shared) (e : Value) (s' : Shared), Inv X pins σ H s → CX X.stack H s E e s' → X.xe e s') (I : Inv X pins σ H s) (r : Vals vs us)
    (h : ∀ x dx, H x = none → H dx = none → dx ≠ x → sp (.ref x :: vs) (upd (upd H dx (.own x)) x (.ins C dx [])) (fun v H2 => v = .non ∧ Q (.ref x) H2) E) :
    wpAny (model X.prog X.w) X.A (call (.ref C) us) (EP X pins σ Q) X.xe s := by
  have hq := h (s.heap.objs.size + 1) s.heap.objs.size (I.hok.fresh (Nat.le_succ _)) (I.hok.fresh (Nat.le_refl _)) (Nat.ne_of_lt (Nat.lt_succ_self _))
  have I2 := Inv.made (C := C) I
  have r2 : Vals (V.ref (s.heap.objs.size + 1) :: vs) (Value.ref (s.heap.objs.size + 1) :: us) := .cons rfl r
  have hl : (Value.ref (s.heap.objs.size + 1) :: us ++ ([] : List Value)).length = ps.length := by
    have e := r2.length
    rw [F.len _ _ _ _ hq] at e
    simpa using e.symm
  have hbb := hb _ (Value.ref (s.heap.objs.size + 1) :: us) I2.kIn hl
  rw [List.append_nil] at hbb
  refine wpAny_call (make_map (f := f) I.kIn M.makes M.init (beq_iff_eq.mp M.fn) (codeAny_mono (F.run _ X.stack _ _ ⟨Value.ref (s.heap.objs.size + 1) :: us, []⟩ (Value.ref (s.heap.objs.size + 1) :: us) _ _ E (hr.make C us [])
    (I2.env0.make C us []) hbb r2 hq) fun r s' hq' => ?_))
  cases r with
  | error e => exact hx pins _ _ e s' I2 hq'
  | ok fl =>
    cases fl with
    | ret u =>
      obtain ⟨v, H', I3, rv, ev, q3⟩ := I2.after hq'
      subst ev
      exact ⟨rv, ⟨V.ref (s.heap.objs.size + 1), H', I3, rfl, q3⟩⟩
    | next => exact False.elim hq'
    | brk => exact False.elim hq'
    | cont => exact False.elim hq'
theorem pe_makS {E : St → XK} (c : CalC X.prog X.w X.K X.mg X.base CX C x k ps sp) (hr : Room (k + 1) X.A) (hg : Gl X x) (hx : ∀ σ, PassesAt CX X σ (E σ))
    (ha : PA X (e :: es) t) (hdb : (x == ("__debug__" : Str)) = false := by decide) (he : starEach (e :: es) X.env = (false, eval e X.env) :: starEach es X.env := by rfl) (hpl : (backTo pos (starEach es X.env)).any (·.1) = false := by rfl) :
    PE X (.Call (.Name x p) (e :: es) [] pos) (tMakS C sp E t) := by
  obtain ⟨f, fd, F, M, hb⟩ := c.ex
  refine ⟨fun pins s σ H Q I h => ?_⟩
  refine wpAny_Call_Name_kw (ld_glob I hg c.m ?_ hdb)
  refine PySem.W.callWith_K (h₀ := X.base) I.ok.mod.kin M.kp (thn (ha.run pos pins s σ H _ I h) fun us s1 ⟨vs, H1, I1, r, q⟩ => ⟨I1.kIn, ?_⟩) he hpl
  exact run_makeS M F hr hb (hx σ) I1 r q
end

/-! ### a statement, then the rest, with a word between them -/
def tCut (t u : TS) : TS := fun D σ H => ∃ Mid : St → Hp → Prop, t { D with nx := Mid } σ H ∧ ∀ σ' H', Mid σ' H' → u D σ' H'
theorem pss_cut {X : Cx} {st : Stmt} {rest : List Stmt} {t u : TS} (h1 : PS X st t) (h2 : PSs X rest u) : PSs X (st :: rest) (tCut t u) := by
  refine ⟨fun pins s σ H D I h => ?_⟩
  obtain ⟨Mid, hm, hu⟩ := h
  refine wpAny_execs_cons (thn (h1.run pins s σ H { D with nx := Mid } I hm) fun f s1 q => ?_)
  cases f with
  | next =>
    obtain ⟨σ', H', I', q⟩ := q
    exact h2.run pins s1 σ' H' D I' (hu σ' H' q)
  | ret v => exact q
  | brk => exact q
  | cont => exact q
def tIfT (t u v : TT) : TT := fun σ H Q => t σ H fun c H1 => if c = true then u σ H1 Q else v σ H1 Q
theorem pt_ifExp {X : Cx} {c a b : Expr} {pos : Pos} {t u v : TT} (hc : PT X c t) (ha : PT X a u) (hb : PT X b v) : PT X (.IfExp c a b pos) (tIfT t u v) := by
  refine ⟨fun pins s σ H Q I h => ?_⟩
  refine PyProof.Rows.isTrue_IfExp (thn (hc.run pins s σ H _ I h) fun d s1 ⟨H1, I1, q1⟩ => ?_)
  cases d with
  | true => exact ha.run pins s1 σ H1 Q I1 q1
  | false => exact hb.run pins s1 σ H1 Q I1 q1
/-! ### a property that hands back an attribute -/
structure CalP (P : Program) (w : World) (K : PySem.W.Frag) (mg : Str → Option Value) (base : Heap) (C : Addr) (f fld : Str) (k : Nat) : Prop where
  cls : Cls K C
  ex : ∃ (p g : Addr) (fd : FuncData), PropOf K C f p g ∧ FnOk P w K mg base CX0 k g fd ["self"] (getSp C fld) ∧ Binds K fd ["self"] []
def kPrp (C : Addr) (fld : Str) (x : V) (H : Hp) (Q : VK) : Prop := ∃ a dx fs v, x = .ref a ∧ H a = some (.ins C dx fs) ∧ fs.lookup fld = some v ∧ Q v H
def tPrp (C : Addr) (fld : Str) (ta : TE) : TE := fun σ H Q => ta σ H fun x H1 => kPrp C fld x H1 Q
theorem pe_prp {X : Cx} {C : Addr} {f fld : Str} {k : Nat} {e : Expr} {ta : TE} {pos : Pos} (c : CalP X.prog X.w X.K X.mg X.base C f fld k) (hr : Room (k + 1) X.A) (he : PE X e ta)
    (hab : attributeBase e f X.env (eval e X.env) = eval e X.env) : PE X (.Attribute e f pos) (tPrp C fld ta) := by
  obtain ⟨p, g, fd, hp, F, hb⟩ := c.ex
  have h := pe_prop (pos := pos) (E := E0) he c.cls hp F hr hb .nil pass0 hab
  have e : tProp C (getSp C fld) [] E0 ta = tPrp C fld ta := by
    funext σ H Q
    show ta σ H _ = ta σ H _
    congr 1
    funext x H1
    refine propext ⟨fun ⟨a, dx, fs, ex, ea, a', dx', fs', v, e1, e2, l, q⟩ => ?_, fun ⟨a, dx, fs, v, ex, ea, l, q⟩ => ⟨a, dx, fs, ex, ea, a, dx, fs, v, rfl, ea, l, q⟩⟩
    cases e1
    exact ⟨a, dx', fs', v, ex, e2, l, q⟩
  rw [e] at h
  exact h

/-! ### raise X() of an own class without __init__ -/
structure ExcF (K : PySem.W.Frag) (mg : Str → Option Value) (x : Str) (C : Addr) : Prop where
  ex : ∃ bm, PySem.W.excIn K C bm "ValueError.__new__" = true ∧ (∃ B I, ExcBaseFacts B "ValueError.__new__" I bm)
  g : mg x = some (.ref C)
  k : PySem.W.keepIn K (.ref C) = true
  b : PySem.W.subIn K (.ref C) (.type "BaseException") = some true
  t : PySem.W.typeIn K (.ref C) = some (.type "type")
section
variable {X : Cx} {C : Addr} {x : Str} {p pos : Pos}
theorem pmk_own0 (F : ExcF X.K X.mg x C) (hg : Gl X x) (hdb : (x == ("__debug__" : Str)) = false := by decide) : PMk X (.Call (.Name x p) [] [] pos) (fun _ H Q => Q (.ref C) none H) := by
  obtain ⟨bm, q, B, I0, FB⟩ := F.ex
  intro pins s σ H Q I h
  refine wpAny_Call_Name_kw (ld_glob I hg F.g ?_ hdb)
  refine PySem.W.callWith_K0 I.kIn F.k ?_
  show wpAny _ _ (call (.ref C) []) _ _ _
  obtain ⟨bm, N, nm, qn, bs, hdct, sn, sub, ab, col, dd, k0, k1, k2, k3, k5, mN, hC, hN, hni, T⟩ := exc_obj I.kIn q
  refine wpAny_call_exc_subT FB T hC hN hni (fun h' e hm => ?_) (by show 0 ≤ sizeLine; exact Nat.zero_le _)
  exact mk_of I hm (raises_own F.b F.t) h (I.hok.gone hm.new)
/-- raise X() where W is wished of what is raised -/
def tRaise (C : Addr) (W : WX) : TS := fun _ σ H => W (.ref C) none σ H
theorem ps_raise0 {W : WX} {pos2 : Pos} (hc : X.calm = true) (tk : Takes X W) (F : ExcF X.K X.mg x C) (hg : Gl X x) (hdb : (x == ("__debug__" : Str)) = false := by decide) :
    PS X (.Raise (some (.Call (.Name x p) [] [] pos)) none pos2) (tRaise C W) := ps_raise hc tk (pmk_own0 F hg hdb)
end
def WE' (W : WX) : St → XK := fun σ cls d H => W cls d σ H
theorem passAt' {X : Cx} {W : WX} (tk : Takes X W) (σ : St) : PassesAt (L2.CX X.prog X.w) X σ (WE' W σ) := passAt tk σ

/-! ### a list of ints that is known by a word alone -/
def Plain : HO → Prop
  | .lst _ => True
  | .ext _ => True
  | _ => False
theorem inv_swap {X : Cx} {pins : List (Addr × Obj)} {σ : St} {H : Hp} {s : Shared} {d : Addr} {o o' : HO} (I : Inv X pins σ H s) (hd : H d = some o) (hp : Plain o) (new : ObjOk X.prog X.w (upd H d o') s.heap d o') :
    Inv X pins σ (upd H d o') s := by
  have ne : ∀ b u, H b = some u → ¬ Plain u → b ≠ d := fun b u e n z => by
    subst z
    rw [hd] at e
    cases e
    exact n hp
  have nn : ∀ b, H b = none → upd H d o' b = none := fun b e => by
    rw [upd_ne (fun z => by subst z; rw [hd] at e; cases e)]
    exact e
  refine ⟨I.ok, I.os, I.bare, ⟨fun b u e n hb hx => I.base.keep b u e n hb hx, fun b u e n hb hx => I.base.slot b u e n hb hx, fun b u e n hx => nn b (I.base.free b u e n hx), I.base.there, fun b xs e => ?_, fun b u v e => ?_, fun b ps e => ?_⟩, I.loc, I.cell, nn _ I.free, fun x c e => nn _ (I.freeC x c e), fun p hp' => ?_, fun b u q => ?_, I.len⟩
  · have e1 := I.base.tups b xs e
    rw [upd_ne (ne b _ e1 (fun z => z))]
    exact e1
  · have e1 := I.base.frzs b u v e
    rw [upd_ne (ne b _ e1 (fun z => z))]
    exact e1
  · obtain ⟨more, e1⟩ := I.base.tbls b ps e
    refine ⟨more, ?_⟩
    rw [upd_ne (ne b _ e1 (fun z => z))]
    exact e1
  · obtain ⟨h1, h2, h3⟩ := I.pin p hp'
    exact ⟨h1, nn _ h2, h3⟩
  · by_cases hb : b = d
    · subst hb
      rw [upd_same] at q
      cases q
      exact new
    · rw [upd_ne hb] at q
      refine (I.hok b u q).stay (fun c v _ r => r) (fun c r => ?_) (fun c xs r => ?_)
      · rw [upd_ne (ne c _ r (fun z => z))]
        exact r
      · rw [upd_ne (ne c _ r (fun z => z))]
        exact r
/-- an opaque list of ints -/
def opq (Pr : List Int → Prop) (d : Addr) : HO := .ext fun h => ∃ (ns : List Int) (its : List Value) (n : Nat), Pr ns ∧ Vals (ns.map V.int) its ∧ ns.length ≤ sizeLine ∧ h.get? d = some { cls := .type "list", data := .seq its.toArray n }
theorem inv_open {X : Cx} {pins : List (Addr × Obj)} {σ : St} {H : Hp} {s : Shared} {d : Addr} {Pr : List Int → Prop} (I : Inv X pins σ H s) (hd : H d = some (opq Pr d)) :
    ∃ ns, Pr ns ∧ Inv X pins σ (upd H d (.lst (ns.map V.int))) s := by
  obtain ⟨⟨ns, its, n, hp, hv, hl, hg⟩, _, _⟩ := I.hok d _ hd
  exact ⟨ns, hp, inv_swap I hd True.intro ⟨by rw [List.length_map]; exact hl, its, n, hv, hg⟩⟩
theorem inv_shut {X : Cx} {pins : List (Addr × Obj)} {σ : St} {H : Hp} {s : Shared} {d : Addr} {Pr : List Int → Prop} {ns : List Int} (I : Inv X pins σ H s) (hd : H d = some (.lst (ns.map V.int))) (hp : Pr ns) :
    Inv X pins σ (upd H d (opq Pr d)) s := by
  obtain ⟨hl, its, n, hv, hg⟩ := I.hok d _ hd
  rw [List.length_map] at hl
  exact inv_swap I hd True.intro ⟨⟨ns, its, n, hp, hv, hl, hg⟩, ⟨_, hg⟩, fun h1 h2 ⟨ns, its, n, a, b, c, e⟩ k => ⟨ns, its, n, a, b, c, k _ e⟩⟩
def shutE (Pr : List Int → Prop) (d : Addr) (D : Ends) : Ends where
  nx := fun σ H => ∃ ns, Pr ns ∧ H d = some (.lst (ns.map V.int)) ∧ D.nx σ (upd H d (opq Pr d))
  rt := fun v H => ∃ ns, Pr ns ∧ H d = some (.lst (ns.map V.int)) ∧ D.rt v (upd H d (opq Pr d))
  bk := fun σ H => ∃ ns, Pr ns ∧ H d = some (.lst (ns.map V.int)) ∧ D.bk σ (upd H d (opq Pr d))
  ct := fun σ H => ∃ ns, Pr ns ∧ H d = some (.lst (ns.map V.int)) ∧ D.ct σ (upd H d (opq Pr d))
theorem sp_shut {X : Cx} {pins : List (Addr × Obj)} {D : Ends} {f : Flow} {s' : Shared} {d : Addr} {Pr : List Int → Prop} (h : SP X pins (shutE Pr d D) f s') : SP X pins D f s' := by
  cases f with
  | next =>
    obtain ⟨σ', H', I, ns, hp, hd, q⟩ := h
    exact ⟨σ', _, inv_shut I hd hp, q⟩
  | brk =>
    obtain ⟨σ', H', I, ns, hp, hd, q⟩ := h
    exact ⟨σ', _, inv_shut I hd hp, q⟩
  | cont =>
    obtain ⟨σ', H', I, ns, hp, hd, q⟩ := h
    exact ⟨σ', _, inv_shut I hd hp, q⟩
  | ret u =>
    obtain ⟨v, σ', H', I, r, ns, hp, hd, q⟩ := h
    exact ⟨v, σ', _, inv_shut I hd hp, r, q⟩
/-- a block within which an opaque list is a plain one -/
def tOpen (Pr : List Int → Prop) (t : TS) : TS := fun D σ H => ∃ d, H d = some (opq Pr d) ∧ ∀ ns, Pr ns → t (shutE Pr d D) σ (upd H d (.lst (ns.map V.int)))
theorem pss_open {X : Cx} {b : List Stmt} {t : TS} (Pr : List Int → Prop) (h : PSs X b t) : PSs X b (tOpen Pr t) := by
  refine ⟨fun pins s σ H D I q => ?_⟩
  obtain ⟨d, hd, k⟩ := q
  obtain ⟨ns, hp, J⟩ := inv_open I hd
  exact thn (h.run pins s σ _ _ J (k ns hp)) fun f s' z => sp_shut z
/-- a block that hands back a list of ints, which is opaque from then on -/
def tShut (Pr : List Int → Prop) (t : TS) : TS := fun D σ H => t { nx := D.nx, bk := D.bk, ct := D.ct, rt := fun v H' => ∃ d ns, v = .ref d ∧ H' d = some (.lst (ns.map V.int)) ∧ Pr ns ∧ D.rt v (upd H' d (opq Pr d)) } σ H
theorem pss_shut {X : Cx} {b : List Stmt} {t : TS} (Pr : List Int → Prop) (h : PSs X b t) : PSs X b (tShut Pr t) := by
  refine ⟨fun pins s σ H D I q => thn (h.run pins s σ H _ I q) fun f s' z => ?_⟩
  cases f with
  | next => exact z
  | brk => exact z
  | cont => exact z
  | ret u =>
    obtain ⟨v, σ', H', I, r, d, ns, rfl, hd, hp, q⟩ := z
    exact ⟨.ref d, σ', _, inv_shut I hd hp, r, q⟩

/-! ### enumerate of a tuple -/
theorem meets_enumerate_newT (l : Addr) (items : Array Value) (n : Nat) (dct : Option Addr) (sl : Array (Option Value)) :
    Meets (Builtin.«enumerate.__new__» ⟨[.type "enumerate", .ref l], []⟩) (fun _ R s => s.heap.get? l = some { cls := .type "tuple", dict := dct, data := .seq items n, slots := sl } ∧
      R (.ok (.ret (.ref (s.heap.push { cls := .type "tuple_iterator", data := .fields #[.ref l, .int 0 0] }).objs.size)))
        { s with heap := (s.heap.push { cls := .type "tuple_iterator", data := .fields #[.ref l, .int 0 0] }).push { cls := .type "enumerate", data := .fields #[.none, .bool false, .ref s.heap.objs.size, rawInt 0, .none, .none] } }) :=
  .of_wp fun prog w A R s h => by
    obtain ⟨hp, g, d, tk, os⟩ := s; obtain ⟨hl, h⟩ := h
    have hsub := sub_enumerate
    have hL : Heap.IsTuple (Shared.heap ⟨hp, g, d, tk, os⟩) l items := ⟨_, hl, rfl, n, rfl⟩
    wp_walk using AutoSeq1.wpAny_loadPart' hl
    refine wpAny_stack_any fun st => wpAny_pure ?_
    split
    · rename_i c _ _ _ _ _
      cases (c == Value.type "enumerate")
      · wp_walk using AutoSeq1.wpAny_loadPart' hl, wpAny_pyIter_tuple hL
        exact ⟨_, rfl, h⟩
      · wp_walk using AutoSeq1.wpAny_loadPart' hl, wpAny_pyIter_tuple hL
        exact ⟨_, rfl, h⟩
    · wp_walk using AutoSeq1.wpAny_loadPart' hl, wpAny_pyIter_tuple hL
      exact ⟨_, rfl, h⟩
theorem call_enumerate_tuple {prog : Program} {w : World} {A : Around} {E : Value → Shared → Prop} {s : Shared} {l : Addr} {items : Array Value} {Q : Value → Shared → Prop} (hL : s.heap.IsTuple l items)
    (h : ∀ h', IsEnum h' (s.heap.objs.size + 1) s.heap.objs.size 0 .none → h'.IsTupleIter s.heap.objs.size l 0 → h'.objs.size = s.heap.objs.size + 2 →
      (∀ b o, s.heap.get? b = some o → h'.get? b = some o) → Q (.ref (s.heap.objs.size + 1)) { s with heap := h' }) :
    wpAny (model prog w) A (call (.type "enumerate") [.ref l]) Q E s := by
  obtain ⟨⟨c, dct, dt, sl⟩, hl, hc, n, hd⟩ := hL
  replace hc : c = .type "tuple" := hc
  replace hd : dt = .seq items n := hd
  subst hc hd
  refine callType_new F.called_enumerate (by decide) (F.typeCall_enumerate_1 _) (F.newCall_enumerate_1 _) (fun obj => F.args_object_init_2 obj _) F.entry_enumerate_new
    (meets_enumerate_newT l items n dct sl) ⟨hl, ?_⟩
  have hz : (s.heap.push { cls := .type "tuple_iterator", data := .fields #[.ref l, .int 0 0] }).objs.size = s.heap.objs.size + 1 := Heap.size_push ..
  show _ ∧ _
  rw [hz]
  have he : IsEnum ((s.heap.push { cls := .type "tuple_iterator", data := .fields #[.ref l, .int 0 0] }).push
      { cls := .type "enumerate", data := .fields #[.none, .bool false, .ref s.heap.objs.size, rawInt 0, .none, .none] }) (s.heap.objs.size + 1) s.heap.objs.size 0 .none := by
    have := Heap.get?_push_size (s.heap.push { cls := .type "tuple_iterator", data := .fields #[.ref l, .int 0 0] })
      (o := { cls := .type "enumerate", data := .fields #[.none, .bool false, .ref s.heap.objs.size, rawInt 0, .none, .none] }) rfl
    rw [hz] at this; exact this
  refine ⟨⟨_, he, rfl⟩, h _ he ⟨_, Heap.get?_push_of_some _ (Heap.get?_push_size _ rfl), rfl, rfl⟩ (by rw [Heap.size_push, hz]) fun b o x => Heap.get?_push_of_some _ (Heap.get?_push_of_some _ x)⟩
theorem wpAny_pyNext_enum_endT {prog : Program} {w : World} {A : Around} {E : Value → Shared → Prop} {s : Shared} {e it l : Addr} {i : Nat} {items : Array Value} {old : Value} {Q : Option Value → Shared → Prop} (hh : A.handled = none)
    (he : IsEnum s.heap e it i old) (hit : s.heap.IsTupleIter it l i) (hl : s.heap.IsTuple l items) (hx : items[i]? = none)
    (hQ : ∀ h', Heap.ExtBut it s.heap h' → Q none { s with heap := h' }) : wpAny (model prog w) A (pyNext (.ref e)) Q E s := by
  have hT : s.TypeIs (.ref e) "enumerate" := ⟨_, he, rfl⟩
  unfold pyNext
  refine wpAny_bind (wpAny_attempt (wpAny_callSpecial?_slot (name := Str.ofString "__next__") hT F.slot_enumerate_next
    (wpAny_call_entry F.slot_enumerate_next hT F.entry_enumerate_next ?_ (F.args_enumerate_next_1 _))))
  show wpAny _ _ (field (.ref e) 2 >>= _) _ _ _
  refine wpAny_bind (wpAny_field he rfl (x := .ref it) rfl ?_)
  refine wpAny_bind (wpAny_nextOf_tuple_end hh hit hl hx fun h' x he' hx' => ?_)
  obtain ⟨o, ho, hc⟩ := hx'
  refine wpAny_bind (wpAny_isInstance (T := "StopIteration") (b := true) ⟨o, ho, hc⟩ isSubtype_stop ?_)
  exact wpAny_pure (hQ _ he')
/-- the tuple at a, each item in a new pair -/
def Itet (K : PySem.W.Frag) (a : Addr) : It :=
  ⟨fun i H => ∃ (xs : List V) (x : V), SqT K H a xs ∧ xs[i]? = some x, fun i H v H' => ∃ T x, v = .ref T ∧ H T = none ∧ H' = upd H T (.tup [.int (i : Nat), x]) ∧ ∀ xs, SqT K H a xs → xs[i]? = some x, fun i H => ∃ xs : List V, SqT K H a xs ∧ xs.length ≤ i⟩
theorem turn_enumT {P : Program} {w : World} {K : PySem.W.Frag} {elts : List Expr} {kk : Nat} {tpos : Pos} (a e it : Addr) :
    Turn P w K (.Tuple elts kk tpos) (Itet K a) [e, it] e (fun i h => (∃ old, IsEnum h e it ((i : Nat) : Int) old) ∧ h.IsTupleIter it a i ∧ e ≠ it) where
  mem := by simp
  obj := fun i h st b hb => by
    obtain ⟨⟨old, he⟩, ⟨o, ho, hc, hd⟩, _⟩ := st
    have e' : b = e ∨ b = it := by simpa using hb
    rcases e' with z | z
    · rw [z]; exact ⟨_, he, fun v q => nomatch q⟩
    · rw [z]; exact ⟨o, ho, fun v q => by rw [hd] at q; cases q⟩
  keep := fun i h h' st k => let ⟨⟨old, he⟩, hi, hne⟩ := st; ⟨⟨old, k e (by simp) _ he⟩, hi.at fun o q => k it (by simp) o q, hne⟩
  item := by
    intro X hP hw hK hc i pins s σ H E I hf st hg
    subst hP hw hK
    obtain ⟨⟨old, he⟩, hit, hne⟩ := st
    obtain ⟨xs, x, hq, hx⟩ := hg
    obtain ⟨its, rv, p, hz⟩ := I.tuple hq
    have pt : s.heap.IsTuple a its.toArray := p
    obtain ⟨u, hu, ru⟩ := rv.get hx
    have hel : e < s.heap.objs.size := Heap.lt_size he
    have hil : it < s.heap.objs.size := by obtain ⟨_, q, _⟩ := hit; exact Heap.lt_size q
    have nai : a ≠ it := fun z => by
      obtain ⟨o1, q1, c1, _⟩ := hit
      obtain ⟨o2, q2, c2, _⟩ := pt
      rw [z, q1] at q2
      cases q2
      rw [c1] at c2
      exact absurd c2 (by decide)
    have nea : e ≠ a := fun z => by
      obtain ⟨o2, q2, c2, _⟩ := pt
      have he' : s.heap.get? e = _ := he
      rw [z, q2] at he'
      have e3 := congrArg Obj.cls (Option.some.inj he')
      rw [c2] at e3
      exact absurd (show Value.type "tuple" = Value.type "enumerate" from e3) (by decide)
    have D := Draws.tuple (prog := X.prog) (w := X.w) (A := X.A.in1) (I.ok.hd hc) it a nai its.toArray
    have hui : i < its.length := (List.getElem?_eq_some_iff.mp hu).1
    refine wpAny_pyNext_enum_itemD D he ⟨hit, pt⟩ (by simpa using hui) hne (by simp [hne, nea]) fun x' h' tk hP' ho hst' hT hsz hk => ?_
    have ex : x' = u := by
      have z : its.toArray[i]? = some x' := hP'
      rw [List.getElem?_toArray, hu] at z
      exact (Option.some.inj z).symm
    subst ex
    refine ⟨_, rfl, wpAny_letOwnedTupleGo_enum (s := { s with heap := h', toks := tk + 1 }) ho fun h'' he' sb => ?_⟩
    have hT2 : h''.get? s.heap.objs.size = some { cls := .type "tuple", data := .seq #[.int i tk, x'] } := (sb.2 _ (Nat.ne_of_gt hel)).trans hT
    have new : ObjOk X.prog X.w (upd H s.heap.objs.size (.tup [.int (i : Nat), x])) h'' s.heap.objs.size (.tup [.int (i : Nat), x]) :=
      ⟨by show 2 ≤ sizeLine; decide, [.int i tk, x'], .cons ⟨_, rfl⟩ (.cons ru .nil), ⟨_, hT2, rfl, _, rfl⟩⟩
    have I1 : Inv X pins σ (upd H s.heap.objs.size (.tup [.int (i : Nat), x])) { s with heap := h'', toks := tk + 1 } :=
      I.turnedNew (ch := [e, it]) (fun b ob hb q => (sb.2 b (fun z => hb (by simp [z]))).trans (hk b ob (fun z => hb (by simp [z])) (fun z => hb (by simp [z])) q)) hf (Nat.le_refl _) new
    refine ⟨.ref s.heap.objs.size, _, I1, rfl, ⟨_, x, rfl, I.hok.fresh (Nat.le_refl _), rfl, fun ys hy => by rw [I.tuple_inj hy hq]; exact hx⟩, ⟨⟨x', ?_⟩, hst'.1.at fun o q => (sb.2 it (Ne.symm hne)).trans q, hne⟩, fun b hb => ?_⟩
    · have e1 : ((i + 1 : Nat) : Int) = (i : Int) + 1 := by omega
      rw [e1]; exact he'
    · have hb' : b < s.heap.objs.size := by
        have e' : b = e ∨ b = it := by simpa using hb
        rcases e' with z | z
        · rw [z]; exact hel
        · rw [z]; exact hil
      rw [upd_ne (Nat.ne_of_lt hb')]
      exact (hf b hb).1
  done := by
    intro X hP hw hK hc i pins s σ H E I hf st hg
    subst hP hw hK
    obtain ⟨⟨old, he⟩, hit, hne⟩ := st
    obtain ⟨xs, hq, hx⟩ := hg
    obtain ⟨its, rv, p, hz⟩ := I.tuple hq
    have pt : s.heap.IsTuple a its.toArray := p
    have nai : a ≠ it := fun z => by
      obtain ⟨o1, q1, c1, _⟩ := hit
      obtain ⟨o2, q2, c2, _⟩ := pt
      rw [z, q1] at q2
      cases q2
      rw [c1] at c2
      exact absurd c2 (by decide)
    obtain ⟨f0, f1, f2, f3, f4, f5⟩ := hf it (by simp)
    have hl := rv.length
    refine wpAny_pyNext_enum_endT (I.ok.hd hc) he hit pt (by simp; omega) fun h' eb => ⟨rfl, I.turned (t' := s.toks) (fun b o hb q => eb b o hb q) f0 f1 f3 f4 f5⟩
  self := fun A i s Q E st h => let ⟨⟨_, he⟩, _⟩ := st; wpAny_pyIter_enum he h
/-- enumerate of a list or a tuple -/
def kEnum (K : PySem.W.Frag) (vs : List V) (H : Hp) (R : It → Hp → Prop) : Prop := (∃ a xs, vs = [.ref a] ∧ SqL K H a xs ∧ R (Ite K a) H) ∨ (∃ a xs, vs = [.ref a] ∧ SqT K H a xs ∧ R (Itet K a) H)
def iEnumS (K : PySem.W.Frag) (ta : TA) : TI := fun σ H R => ta σ H fun vs H1 => kEnum K vs H1 R
theorem pi_enumS {X : Cx} {e : Expr} {ta : TA} {p pos tpos : Pos} {elts : List Expr} {kk : Nat} (hg : Gl X "enumerate") (hm : X.mg "enumerate" = none) (ha : PA X [e] ta) (hs : starEach [e] X.env = [(false, eval e X.env)] := by rfl) :
    PI X (.Tuple elts kk tpos) (.Call (.Name "enumerate" p) [e] [] pos) (iEnumS X.K ta) := by
  refine ⟨fun pins s σ H R I h => ?_⟩
  refine Call_ (ld_blt I hg hm boot_enumerate (PyProof.Rows.callWith_type1 (thn (ha.run pos pins s σ H _ I h) fun us s1 ⟨vs, H1, I1, r1, q1⟩ => ?_) hs rfl))
  rcases q1 with ⟨a, xs, ex, hq, q⟩ | ⟨a, xs, ex, hq, q⟩
  · subst ex
    cases r1 with
    | cons r rr =>
      cases rr
      cases r
      obtain ⟨its, rv, p', hz⟩ := I1.list hq
      refine call_enumerate_list p'.isList fun h' he hit hsz hk => wpAny_pyIter_enum he ?_
      have I2 : Inv X pins σ H1 { s1 with heap := h' } := I1.kept (t' := s1.toks) hk
      refine ⟨s1.heap.objs.size + 1, [s1.heap.objs.size + 1, s1.heap.objs.size], _, _, H1, rfl, I2, turn_enum a (s1.heap.objs.size + 1) s1.heap.objs.size, ⟨⟨.none, he⟩, hit, Nat.succ_ne_self _⟩, fun b hb => ?_, q⟩
      have e' : b = s1.heap.objs.size + 1 ∨ b = s1.heap.objs.size := by simpa using hb
      have hle : s1.heap.objs.size ≤ b := by
        rcases e' with z | z
        · rw [z]; exact Nat.le_add_right _ _
        · rw [z]; exact Nat.le_refl _
      exact I1.fpOk hle (I1.hok.fresh hle)
  · subst ex
    cases r1 with
    | cons r rr =>
      cases rr
      cases r
      obtain ⟨its, rv, p', hz⟩ := I1.tuple hq
      refine call_enumerate_tuple (show s1.heap.IsTuple a its.toArray from p') fun h' he hit hsz hk => wpAny_pyIter_enum he ?_
      have I2 : Inv X pins σ H1 { s1 with heap := h' } := I1.kept (t' := s1.toks) hk
      refine ⟨s1.heap.objs.size + 1, [s1.heap.objs.size + 1, s1.heap.objs.size], _, _, H1, rfl, I2, turn_enumT a (s1.heap.objs.size + 1) s1.heap.objs.size, ⟨⟨.none, he⟩, hit, Nat.succ_ne_self _⟩, fun b hb => ?_, q⟩
      have e' : b = s1.heap.objs.size + 1 ∨ b = s1.heap.objs.size := by simpa using hb
      have hle : s1.heap.objs.size ≤ b := by
        rcases e' with z | z
        · rw [z]; exact Nat.le_add_right _ _
        · rw [z]; exact Nat.le_refl _
      exact I1.fpOk hle (I1.hok.fresh hle)
/-- for i, x in enumerate(t): t a tuple that stands -/
theorem for_enumT {K : PySem.W.Frag} {a : Addr} {xs : List V} {g : TG} {tb : TS} {D : Ends} {σ : St} {H : Hp} (Pv : Nat → St → Hp → Prop) (h0 : Pv 0 σ H) (hl : ∀ i σ H, i ≤ xs.length → Pv i σ H → SqT K H a xs)
    (hs : ∀ i x σ H T, xs[i]? = some x → Pv i σ H → H T = none → g (.ref T) σ (upd H T (.tup [.int (i : Nat), x])) fun σ2 H2 => tb { D with nx := Pv (i + 1), ct := Pv (i + 1), bk := D.nx } σ2 H2) (hd : ∀ σ H, Pv xs.length σ H → D.nx σ H) :
    ∃ W : Nat → Nat → St → Hp → Prop, (∃ m, W 0 m σ H) ∧ ∀ i m σ H, W i m σ H →
      ((Itet K a).stop i H ∧ D.nx σ H) ∨ ((Itet K a).go i H ∧ ∃ N : St → Hp → Prop, (∀ σ' H', N σ' H' → ∃ m', m' < m ∧ W (i + 1) m' σ' H') ∧ ∀ x H', (Itet K a).yld i H x H' → g x σ H' fun σ2 H2 => tb { D with nx := N, ct := N, bk := D.nx } σ2 H2) := by
  refine ⟨fun i m σ H => m = xs.length - i ∧ i ≤ xs.length ∧ Pv i σ H, ⟨xs.length, by simp, Nat.zero_le _, h0⟩, ?_⟩
  rintro i m σ H ⟨rfl, hi, p⟩
  have q := hl i σ H hi p
  by_cases h : i < xs.length
  · refine .inr ⟨⟨xs, xs[i], q, List.getElem?_eq_getElem h⟩, Pv (i + 1), fun σ' H' z => ⟨xs.length - (i + 1), by omega, rfl, h, z⟩, ?_⟩
    rintro x H' ⟨T, y, rfl, hT, rfl, hy⟩
    exact hs i y σ H T (hy xs q) p hT
  · have e : i = xs.length := by omega
    subst e
    exact .inl ⟨⟨xs, q, Nat.le_refl _⟩, hd σ H p⟩

/-! ### the written part by names -/
structure Gm where
  K : PySem.W.Frag
  cRule : Addr
  cGame : Addr
  cSplitError : Addr
  cBadRule : Addr
  cBadHeap : Addr
  cBadSplit : Addr
  cNoTerms : Addr
  cNoTable : Addr
  cNotSure : Addr
  cBadWay : Addr
  cBadStyle : Addr
  cBadSums : Addr
  cBadNumber : Addr
  cTooGreat : Addr
  cBadRow : Addr
  cBadPlace : Addr
  cBadText : Addr
  aSTYLES : Addr
/-! ### built-ins by name -/
def rLen (K : PySem.W.Frag) : List V → Hp → VK → Prop := fun xs H Q => ∃ x n, xs = [x] ∧ LenV K x H n ∧ Q (.int n) H
def rAbs : List V → Hp → VK → Prop := fun xs H Q => ∃ i, xs = [.int i] ∧ Q (.int (if i < 0 then -i else i)) H
def rMin2 : List V → Hp → VK → Prop := fun xs H Q => ∃ i j, xs = [.int i, .int j] ∧ Q (.int (if j < i then j else i)) H
def rMax2 : List V → Hp → VK → Prop := fun xs H Q => ∃ i j, xs = [.int i, .int j] ∧ Q (.int (if j > i then j else i)) H
def rInt1 : List V → Hp → VK → Prop := fun xs H Q => (∃ i, xs = [.int i] ∧ Q (.int i) H) ∨ ∃ k, xs = [.bl k] ∧ Q (.int (if k then 1 else 0)) H
def rStr1 : List V → Hp → VK → Prop := fun xs H Q => ∃ i, xs = [.int i] ∧ i.natAbs.log2 < 1920 ∧ Q (.str (toString i)) H
def rTupOf (K : PySem.W.Frag) : List V → Hp → VK → Prop := fun xs H Q => ∃ p ys, xs = [.ref p] ∧ ((SqL K H p ys ∧ ∀ l, H l = none → Q (.ref l) (upd H l (.tup ys))) ∨ (SqT K H p ys ∧ Q (.ref p) H))
def rListOf (K : PySem.W.Frag) : List V → Hp → VK → Prop := fun xs H Q => ∃ p ys, xs = [.ref p] ∧ (SqL K H p ys ∨ SqT K H p ys) ∧ ∀ l, H l = none → Q (.ref l) (upd H l (.lst ys))
theorem pe_gint {X : Cx} {x : Str} {n : Int} {pos : Pos} (h : ∃ t, X.mg x = some (.int n t)) (hg : Gl X x) (hd : (x == ("__debug__" : Str)) = false := by decide) : PE X (.Name x pos) (tC (.int n)) := by
  obtain ⟨t, e⟩ := h
  exact pe_glob hg e ⟨t, rfl⟩ hd
theorem pe_gstr {X : Cx} {x s : Str} {pos : Pos} (h : ∃ t, X.mg x = some (.str s t)) (hg : Gl X x) (hd : (x == ("__debug__" : Str)) = false := by decide) : PE X (.Name x pos) (tC (.str s)) := by
  obtain ⟨t, e⟩ := h
  exact pe_glob hg e ⟨t, rfl⟩ hd
def tTry1 (K : PySem.W.Frag) (c : Value) (tb : WX → TS) (ts : Addr → Value → Option Addr → TS) : TS := fun D σ H => tb (wOnly K c ts (fun _ _ _ _ => False) D) D σ H
def tTryN (K : PySem.W.Frag) (tb : WX → TS) (l : List (Value × (Addr → Value → Option Addr → TS))) : TS := fun D σ H => tb (wMany K (fun _ _ _ _ => False) D l) D σ H
def startN (n : Nat) (vs : List V) : St := vs.map some ++ List.replicate (n - vs.length) none

theorem log2_le {n k : Nat} (h : n ≤ 2 ^ k) : n.log2 ≤ k := by
  by_cases z : n = 0
  · subst z; simp
  · have : n.log2 < k + 1 := (Nat.log2_lt z).mpr (by rw [Nat.pow_succ]; have := Nat.two_pow_pos k; omega)
    omega
theorem pow_nat {b : Int} {k m : Nat} (h : b.natAbs ≤ 2 ^ m) : (b ^ k).natAbs ≤ 2 ^ (m * k) := by
  rw [Int.natAbs_pow, Nat.pow_mul]
  exact Nat.pow_le_pow_left h k
theorem mul_nat {a b : Int} {m n : Nat} (ha : a.natAbs ≤ 2 ^ m) (hb : b.natAbs ≤ 2 ^ n) : (a * b).natAbs ≤ 2 ^ (m + n) := by
  rw [Int.natAbs_mul, Nat.pow_add]
  exact Nat.mul_le_mul ha hb
theorem cmul_of {a b : Int} {m n : Nat} (ha : a.natAbs ≤ 2 ^ m) (hb : b.natAbs ≤ 2 ^ n) (h : m + n < 1000000 := by omega) : CMulW a b := by
  have h1 := log2_le ha
  have h2 := log2_le hb
  unfold CMulW
  omega
/-! ### the heap grows -/
theorem _root_.L2.Same.new {H : Hp} {p : Addr} {o : HO} (h : H p = none) : Same H (upd H p o) := fun a u e => by
  rw [upd_ne (ne_of_none e h)]
  exact e
theorem _root_.L2.Same.mut {H H' : Hp} {p : Addr} {o : HO} (e : Same H H') (h : H p = none) : Same H (upd H' p o) := fun a u ha => by
  rw [upd_ne (ne_of_none ha h)]
  exact e a u ha
theorem _root_.L2.Same.seqT {K : PySem.W.Frag} {H H' : Hp} {a : Addr} {xs : List V} (e : Same H H') (h : SqT K H a xs) : SqT K H' a xs := by
  rcases h with (h | ⟨o, h⟩) | h
  · exact .inl (.inl (e _ _ h))
  · exact .inl (.inr ⟨o, e _ _ h⟩)
  · exact .inr h
theorem SqL.of {K : PySem.W.Frag} {H : Hp} {a : Addr} {xs : List V} (h : H a = some (.lst xs)) : SqL K H a xs := .inl (.inl h)
theorem SqT.of {K : PySem.W.Frag} {H : Hp} {a : Addr} {xs : List V} (h : H a = some (.tup xs)) : SqT K H a xs := .inl (.inl h)
/-- a new object at p, all else as before -/
theorem alloc {H : Hp} {o : HO} {R : Addr → Hp → Prop} (k : ∀ p H', H p = none → Same H H' → H' p = some o → R p H') : ∀ p, H p = none → R p (upd H p o) := fun p hp => k p _ hp (Same.new hp) upd_same

/-! ### one step of a reading -/
theorem w_iteT {A B : Prop} (h : A) : if true = true then A else B := by rw [if_pos rfl]; exact h
theorem w_iteF {A B : Prop} (h : B) : if false = true then A else B := by rw [if_neg Bool.false_ne_true]; exact h
theorem w_iteNT {A B : Prop} (h : B) : if (!true) = true then A else B := by rw [if_neg (by decide)]; exact h
theorem w_iteNF {A B : Prop} (h : A) : if (!false) = true then A else B := by rw [if_pos (by decide)]; exact h
theorem w_ite {b : Bool} {A B : Prop} (h1 : b = true → A) (h2 : b = false → B) : if b = true then A else B := by
  cases b with
  | true => exact w_iteT (h1 rfl)
  | false => exact w_iteF (h2 rfl)
section
variable {K : PySem.W.Frag} {σ : St} {H : Hp} {Q : VK} {QB : Bool → Hp → Prop} {QA : List V → Hp → Prop} {QO : Option Int → Hp → Prop} {nx bk ct : St → Hp → Prop} {rt : VK} {t u : TS} {c d : TT} {ta tb te to : TE} {r r' : R2} {tr : TA} {x y v : V} {g : TG} {gs : TGs}
theorem w_seq (h : t ⟨u ⟨nx, rt, bk, ct⟩, rt, bk, ct⟩ σ H) : tSeq t u ⟨nx, rt, bk, ct⟩ σ H := h
theorem w_thru (h : t ⟨u ⟨nx, rt, bk, ct⟩, rt, bk, ct⟩ σ H) : tCut t u ⟨nx, rt, bk, ct⟩ σ H := ⟨_, h, fun _ _ z => z⟩
theorem w_cut (Mid : St → Hp → Prop) (h : t ⟨Mid, rt, bk, ct⟩ σ H) (h2 : ∀ σ' H', Mid σ' H' → u ⟨nx, rt, bk, ct⟩ σ' H') : tCut t u ⟨nx, rt, bk, ct⟩ σ H := ⟨Mid, h, h2⟩
theorem w_prp {C : Addr} {fld : Str} (h : ta σ H fun x H1 => kPrp C fld x H1 Q) : tPrp C fld ta σ H Q := h
def kMak (C : Addr) (sp : Sp) (E : XK) (vs : List V) (H : Hp) (Q : VK) : Prop := ∀ x dx, H x = none → H dx = none → dx ≠ x → sp (.ref x :: vs) (upd (upd H dx (.own x)) x (.ins C dx [])) (fun v H2 => v = .non ∧ Q (.ref x) H2) E
theorem w_mak {C : Addr} {sp : Sp} {E : XK} (h : tr σ H fun vs H1 => kMak C sp E vs H1 Q) : tMak C sp E tr σ H Q := h
def kMakS (C : Addr) (sp : Sp) (E : XK) (vs : List V) (H : Hp) (Q : VK) : Prop := ∀ x dx, H x = none → H dx = none → dx ≠ x → sp (.ref x :: vs) (upd (upd H dx (.own x)) x (.ins C dx [])) (fun v H2 => v = .non ∧ Q (.ref x) H2) E
theorem w_makS {C : Addr} {sp : Sp} {E : St → XK} (h : tr σ H fun vs H1 => kMak C sp (E σ) vs H1 Q) : tMakS C sp E tr σ H Q := h
theorem w_next (h : nx σ H) : tNext ⟨nx, rt, bk, ct⟩ σ H := h
theorem w_brk (h : bk σ H) : tBreak ⟨nx, rt, bk, ct⟩ σ H := h
theorem w_cont (h : ct σ H) : tCont ⟨nx, rt, bk, ct⟩ σ H := h
theorem w_ret (h : te σ H rt) : tRet te ⟨nx, rt, bk, ct⟩ σ H := h
theorem w_retN (h : rt .non H) : tRetN ⟨nx, rt, bk, ct⟩ σ H := h
theorem w_asg (h : te σ H fun x H1 => g x σ H1 nx) : tAsg te g ⟨nx, rt, bk, ct⟩ σ H := h
theorem w_drop (h : te σ H fun _ H1 => nx σ H1) : tDrop te ⟨nx, rt, bk, ct⟩ σ H := h
theorem w_ifS (h : c σ H fun b H1 => if b = true then t ⟨nx, rt, bk, ct⟩ σ H1 else u ⟨nx, rt, bk, ct⟩ σ H1) : tIfS c t u ⟨nx, rt, bk, ct⟩ σ H := h
theorem w_gName {i : Nat} {k : St → Hp → Prop} (h : k (σ.set i (some v)) H) : gName i v σ H k := h
theorem w_gNil {k : St → Hp → Prop} (h : k σ H) : gNil [] σ H k := ⟨rfl, h⟩
theorem w_gCons {vs : List V} {k : St → Hp → Prop} (h : g v σ H fun σ' H' => gs vs σ' H' k) : gCons g gs (v :: vs) σ H k := ⟨v, vs, rfl, h⟩
theorem w_gTup {n : Nat} {a : Addr} {xs : List V} {k : St → Hp → Prop} (hs : SqT K H a xs) (hl : xs.length = n) (h : gs xs σ H k) : gTup K n gs (.ref a) σ H k := ⟨a, xs, rfl, hs, hl, h⟩
theorem w_gSub {ti : TE} {s : TSet} {k : St → Hp → Prop} (h : to σ H fun o H1 => ti σ H1 fun i H2 => s o i v H2 fun H3 => k σ H3) : gSub to ti s v σ H k := h
theorem w_setL {p : Addr} {xs : List V} {i : Int} {j : Nat} {k : Hp → Prop} (hp : H p = some (.lst xs)) (hi : ixN xs.length i = some j) (h : k (upd H p (.lst (xs.set j v)))) : rSetL (.ref p) (.int i) v H k := ⟨p, xs, i, j, rfl, rfl, hp, hi, h⟩
theorem w_par {i j : Nat} (h : tr σ H fun vs H1 => ∃ v w, vs = [v, w] ∧ nx ((σ.set i (some v)).set j (some w)) H1) : tPar i j tr ⟨nx, rt, bk, ct⟩ σ H := h
theorem w_par3 {i j l : Nat} (h : tr σ H fun vs H1 => ∃ u v w, vs = [u, v, w] ∧ nx (((σ.set i (some u)).set j (some v)).set l (some w)) H1) : tPar3 i j l tr ⟨nx, rt, bk, ct⟩ σ H := h
theorem w_two {v w : V} {k : V → V → Prop} (h : k v w) : ∃ a b, [v, w] = [a, b] ∧ k a b := ⟨v, w, rfl, h⟩
theorem w_three {u v w : V} {k : V → V → V → Prop} (h : k u v w) : ∃ a b c, [u, v, w] = [a, b, c] ∧ k a b c := ⟨u, v, w, rfl, h⟩
theorem w_aug {i : Nat} {f : Int → Int → Int} {m : Int} (hx : σ[i]? = some (some (.int m))) (h : te σ H fun y H1 => ipI f (.int m) y H1 fun z H2 => nx (σ.set i (some z)) H2) : tAug i te (ipI f) ⟨nx, rt, bk, ct⟩ σ H := ⟨_, hx, h⟩
theorem w_ipI {f : Int → Int → Int} {i j : Int} (h : Q (.int (f i j)) H) : ipI f (.int i) (.int j) H Q := ⟨i, j, rfl, rfl, h⟩
/-- what a for asks once its iterator has come -/
def forK (J : It) (g : TG) (t : TS) (nx : St → Hp → Prop) (rt : VK) (σ : St) (H : Hp) : Prop := ∃ W : Nat → Nat → St → Hp → Prop, (∃ m, W 0 m σ H) ∧ ∀ i m σ H, W i m σ H →
    (J.stop i H ∧ nx σ H) ∨ (J.go i H ∧ ∃ N : St → Hp → Prop, (∀ σ' H', N σ' H' → ∃ m', m' < m ∧ W (i + 1) m' σ' H') ∧ ∀ x H', J.yld i H x H' → g x σ H' fun σ2 H2 => t ⟨N, rt, nx, N⟩ σ2 H2)
theorem w_for {wi : TI} (h : wi σ H fun J H1 => forK J g t nx rt σ H1) : tFor wi g t ⟨nx, rt, bk, ct⟩ σ H := h
theorem k_range {lo : Int} {n : Nat} (Pv : Nat → St → Hp → Prop) (h0 : Pv 0 σ H) (hs : ∀ i σ H, i < n → Pv i σ H → g (.int (lo + i)) σ H fun σ2 H2 => t ⟨Pv (i + 1), rt, nx, Pv (i + 1)⟩ σ2 H2) (hd : ∀ σ H, Pv n σ H → nx σ H) : forK (Itr lo n) g t nx rt σ H :=
  for_range (D := ⟨nx, rt, fun _ _ => False, fun _ _ => False⟩) Pv h0 hs hd
theorem k_list {a : Addr} {xs : List V} (Pv : Nat → St → Hp → Prop) (h0 : Pv 0 σ H) (hl : ∀ i σ H, i ≤ xs.length → Pv i σ H → SqL K H a xs) (hs : ∀ i x σ H, xs[i]? = some x → Pv i σ H → g x σ H fun σ2 H2 => t ⟨Pv (i + 1), rt, nx, Pv (i + 1)⟩ σ2 H2) (hd : ∀ σ H, Pv xs.length σ H → nx σ H) : forK (Itl K a) g t nx rt σ H :=
  for_list (D := ⟨nx, rt, fun _ _ => False, fun _ _ => False⟩) Pv h0 hl hs hd
theorem k_tup {a : Addr} {xs : List V} (Pv : Nat → St → Hp → Prop) (h0 : Pv 0 σ H) (hl : ∀ i σ H, i ≤ xs.length → Pv i σ H → SqT K H a xs) (hs : ∀ i x σ H, xs[i]? = some x → Pv i σ H → g x σ H fun σ2 H2 => t ⟨Pv (i + 1), rt, nx, Pv (i + 1)⟩ σ2 H2) (hd : ∀ σ H, Pv xs.length σ H → nx σ H) : forK (Itt K a) g t nx rt σ H :=
  for_tup (D := ⟨nx, rt, fun _ _ => False, fun _ _ => False⟩) Pv h0 hl hs hd
theorem k_enumT {a : Addr} {xs : List V} (Pv : Nat → St → Hp → Prop) (h0 : Pv 0 σ H) (hl : ∀ i σ H, i ≤ xs.length → Pv i σ H → SqT K H a xs) (hs : ∀ i x σ H T, xs[i]? = some x → Pv i σ H → H T = none → g (.ref T) σ (upd H T (.tup [.int (i : Nat), x])) fun σ2 H2 => t ⟨Pv (i + 1), rt, nx, Pv (i + 1)⟩ σ2 H2) (hd : ∀ σ H, Pv xs.length σ H → nx σ H) : forK (Itet K a) g t nx rt σ H :=
  for_enumT (D := ⟨nx, rt, fun _ _ => False, fun _ _ => False⟩) Pv h0 hl hs hd
/-- what a list comprehension asks once its iterator has come -/
def lcK (J : It) (g : TG) (tt : TT) (te : TE) (vs : List Nat) (σ : St) (H1 : Hp) (Q : VK) : Prop := ∀ D, H1 D = none → ∃ W : Nat → Nat → Hp → Prop, (∃ m, W 0 m (upd H1 D (.lst []))) ∧ ∀ i m H, W i m H →
  (J.stop i H ∧ Q (.ref D) H) ∨ (J.go i H ∧ ∃ Nx : Hp → Prop, (∀ H', Nx H' → ∃ m', m' < m ∧ W (i + 1) m' H') ∧ ∀ x H', J.yld i H x H' → g x (wipe σ vs) H' fun σ2 H2 => wipe σ2 vs = wipe σ vs ∧ tt σ2 H2 fun b H3 =>
    if b = true then te σ2 H3 fun y H4 => ∃ acc, H4 D = some (.lst acc) ∧ acc.length < sizeLine ∧ Nx (upd H4 D (.lst (acc ++ [y]))) else Nx H3)
theorem w_lc {wi : TI} {vs : List Nat} (h : wi σ H fun J H1 => lcK J g c te vs σ H1 Q) : tLc wi g c te vs σ H Q := h
/-- one turn's end in a comprehension over the heap H0: the list so far, all else as it stood -/
def lcAt (H0 : Hp) (D : Addr) (P : List V → Hp → Prop) (H : Hp) : Prop := ∃ acc, H0 D = none ∧ Same H0 H ∧ H D = some (.lst acc) ∧ P acc H
/-- what a turn of a comprehension is to give: a value y with P of the list one longer -/
def lcTurn (H0 : Hp) (D : Addr) (P : List V → Hp → Prop) (y : V) (H4 : Hp) : Prop := ∃ acc, H4 D = some (.lst acc) ∧ acc.length < sizeLine ∧ lcAt H0 D P (upd H4 D (.lst (acc ++ [y])))
theorem lcTurn.mk {H0 : Hp} {D : Addr} {acc : List V} {P : List V → Hp → Prop} {y : V} {H4 : Hp} (hD : H0 D = none) (e : Same H0 H4) (ha : H4 D = some (.lst acc)) (hz : acc.length ≤ 100000) (hp : P (acc ++ [y]) (upd H4 D (.lst (acc ++ [y])))) : lcTurn H0 D P y H4 :=
  ⟨acc, ha, Nat.lt_of_le_of_lt hz (by decide), _, hD, Same.mut e hD, upd_same, hp⟩
theorem k_lcRange {lo : Int} {n : Nat} {vs : List Nat} (P : Nat → List V → Hp → Prop) (h0 : ∀ H', Same H H' → P 0 [] H')
    (hs : ∀ i D acc H', i < n → H D = none → Same H H' → H' D = some (.lst acc) → P i acc H' → g (.int (lo + i)) (wipe σ vs) H' fun σ2 H2 => wipe σ2 vs = wipe σ vs ∧ te σ2 H2 (lcTurn H D (P (i + 1))))
    (hd : ∀ D acc H', H D = none → Same H H' → H' D = some (.lst acc) → P n acc H' → Q (.ref D) H') : lcK (Itr lo n) g tYes te vs σ H Q := fun D hD =>
  lc_range (lo := lo) (n := n) (fun i H' => lcAt H D (P i) H') ⟨[], hD, Same.new hD, upd_same, h0 _ (Same.new hD)⟩ (fun i H' hi ⟨acc, _, e, ha, p⟩ => hs i D acc H' hi hD e ha p) fun H' ⟨acc, _, e, ha, p⟩ => hd D acc H' hD e ha p
theorem k_lcList {a : Addr} {xs : List V} {vs : List Nat} (P : Nat → List V → Hp → Prop) (hx : SqL K H a xs) (h0 : ∀ H', Same H H' → P 0 [] H')
    (hs : ∀ i x D acc H', xs[i]? = some x → H D = none → Same H H' → H' D = some (.lst acc) → P i acc H' → g x (wipe σ vs) H' fun σ2 H2 => wipe σ2 vs = wipe σ vs ∧ te σ2 H2 (lcTurn H D (P (i + 1))))
    (hd : ∀ D acc H', H D = none → Same H H' → H' D = some (.lst acc) → P xs.length acc H' → Q (.ref D) H') : lcK (Itl K a) g tYes te vs σ H Q := fun D hD =>
  lc_list (xs := xs) (fun i H' => lcAt H D (P i) H') ⟨[], hD, Same.new hD, upd_same, h0 _ (Same.new hD)⟩ (fun i H' _ ⟨_, _, e, _⟩ => e.seq hx) (fun i x H' hi ⟨acc, _, e, ha, p⟩ => hs i x D acc H' hi hD e ha p) fun H' ⟨acc, _, e, ha, p⟩ => hd D acc H' hD e ha p
theorem k_lcTup {a : Addr} {xs : List V} {vs : List Nat} (P : Nat → List V → Hp → Prop) (hx : SqT K H a xs) (h0 : ∀ H', Same H H' → P 0 [] H')
    (hs : ∀ i x D acc H', xs[i]? = some x → H D = none → Same H H' → H' D = some (.lst acc) → P i acc H' → g x (wipe σ vs) H' fun σ2 H2 => wipe σ2 vs = wipe σ vs ∧ te σ2 H2 (lcTurn H D (P (i + 1))))
    (hd : ∀ D acc H', H D = none → Same H H' → H' D = some (.lst acc) → P xs.length acc H' → Q (.ref D) H') : lcK (Itt K a) g tYes te vs σ H Q := fun D hD =>
  lc_tup (xs := xs) (fun i H' => lcAt H D (P i) H') ⟨[], hD, Same.new hD, upd_same, h0 _ (Same.new hD)⟩ (fun i H' _ ⟨_, _, e, _⟩ => e.seqT hx) (fun i x H' hi ⟨acc, _, e, ha, p⟩ => hs i x D acc H' hi hD e ha p) fun H' ⟨acc, _, e, ha, p⟩ => hd D acc H' hD e ha p
/-- the same with a test: b i x, and the value of what is kept -/
theorem k_lcListT {a : Addr} {xs : List V} {vs : List Nat} (P : Nat → List V → Hp → Prop) (hx : SqL K H a xs) (h0 : ∀ H', Same H H' → P 0 [] H')
    (hs : ∀ i x D acc H', xs[i]? = some x → H D = none → Same H H' → H' D = some (.lst acc) → P i acc H' → g x (wipe σ vs) H' fun σ2 H2 => wipe σ2 vs = wipe σ vs ∧ c σ2 H2 fun b H3 => if b = true then te σ2 H3 (lcTurn H D (P (i + 1))) else lcAt H D (P (i + 1)) H3)
    (hd : ∀ D acc H', H D = none → Same H H' → H' D = some (.lst acc) → P xs.length acc H' → Q (.ref D) H') : lcK (Itl K a) g c te vs σ H Q := fun D hD =>
  lc_list (xs := xs) (fun i H' => lcAt H D (P i) H') ⟨[], hD, Same.new hD, upd_same, h0 _ (Same.new hD)⟩ (fun i H' _ ⟨_, _, e, _⟩ => e.seq hx) (fun i x H' hi ⟨acc, _, e, ha, p⟩ => hs i x D acc H' hi hD e ha p) fun H' ⟨acc, _, e, ha, p⟩ => hd D acc H' hD e ha p
theorem k_lcRangeT {lo : Int} {n : Nat} {vs : List Nat} (P : Nat → List V → Hp → Prop) (h0 : ∀ H', Same H H' → P 0 [] H')
    (hs : ∀ i D acc H', i < n → H D = none → Same H H' → H' D = some (.lst acc) → P i acc H' → g (.int (lo + i)) (wipe σ vs) H' fun σ2 H2 => wipe σ2 vs = wipe σ vs ∧ c σ2 H2 fun b H3 => if b = true then te σ2 H3 (lcTurn H D (P (i + 1))) else lcAt H D (P (i + 1)) H3)
    (hd : ∀ D acc H', H D = none → Same H H' → H' D = some (.lst acc) → P n acc H' → Q (.ref D) H') : lcK (Itr lo n) g c te vs σ H Q := fun D hD =>
  lc_range (lo := lo) (n := n) (fun i H' => lcAt H D (P i) H') ⟨[], hD, Same.new hD, upd_same, h0 _ (Same.new hD)⟩ (fun i H' hi ⟨acc, _, e, ha, p⟩ => hs i D acc H' hi hD e ha p) fun H' ⟨acc, _, e, ha, p⟩ => hd D acc H' hD e ha p
def kRng1 (vs : List V) (H : Hp) (R : It → Hp → Prop) : Prop := ∃ j : Int, vs = [.int j] ∧ -(2 ^ 62) ≤ j ∧ j < 2 ^ 62 ∧ R (Itr 0 j.toNat) H
def kRng2 (vs : List V) (H : Hp) (R : It → Hp → Prop) : Prop := ∃ i j : Int, vs = [.int i, .int j] ∧ (-(2 ^ 62) ≤ i ∧ i < 2 ^ 62 ∧ -(2 ^ 62) ≤ j ∧ j < 2 ^ 62) ∧ R (Itr i (j - i).toNat) H
theorem w_rng1 {R : It → Hp → Prop} (h : tr σ H fun vs H1 => kRng1 vs H1 R) : iRng1 tr σ H R := h
theorem w_rng2 {R : It → Hp → Prop} (h : tr σ H fun vs H1 => kRng2 vs H1 R) : iRng2 tr σ H R := h
theorem k_rng1 {j : Int} {R : It → Hp → Prop} (h1 : -(2 ^ 62) ≤ j ∧ j < 2 ^ 62) (h : R (Itr 0 j.toNat) H) : kRng1 [.int j] H R := ⟨j, rfl, h1.1, h1.2, h⟩
theorem k_rng2 {i j : Int} {R : It → Hp → Prop} (h1 : -(2 ^ 62) ≤ i ∧ i < 2 ^ 62 ∧ -(2 ^ 62) ≤ j ∧ j < 2 ^ 62) (h : R (Itr i (j - i).toNat) H) : kRng2 [.int i, .int j] H R := ⟨i, j, rfl, h1, h⟩
theorem w_iSeq {R : It → Hp → Prop} (h : te σ H fun x H1 => kSeq K x H1 R) : iSeq K te σ H R := h
theorem k_seqL {a : Addr} {xs : List V} {R : It → Hp → Prop} (hx : SqL K H a xs) (h : R (Itl K a) H) : kSeq K (.ref a) H R := .inl ⟨a, rfl, ⟨xs, hx⟩, h⟩
theorem k_seqT {a : Addr} {xs : List V} {R : It → Hp → Prop} (hx : SqT K H a xs) (h : R (Itt K a) H) : kSeq K (.ref a) H R := .inr ⟨a, rfl, ⟨xs, hx⟩, h⟩
theorem w_iEnum {R : It → Hp → Prop} (h : tr σ H fun vs H1 => kEnum K vs H1 R) : iEnumS K tr σ H R := h
theorem k_enT {a : Addr} {xs : List V} {R : It → Hp → Prop} (hx : SqT K H a xs) (h : R (Itet K a) H) : kEnum K [.ref a] H R := .inr ⟨a, xs, rfl, hx, h⟩
-- tests
theorem w_test (h : te σ H fun x H' => ∃ k, x = .bl k ∧ QB k H') : tTest te σ H QB := h
theorem w_B (h : te σ H fun x H' => ∃ k, x = .bl k ∧ QB k H') : tB te σ H QB := h
theorem w_bl {b : Bool} (h : QB b H) : ∃ k, V.bl b = .bl k ∧ QB k H := ⟨b, rfl, h⟩
theorem w_not (h : c σ H fun b H1 => QB (!b) H1) : tNot c σ H QB := h
theorem w_and (h : c σ H fun b H1 => if b = true then d σ H1 QB else QB false H1) : tAnd c d σ H QB := h
theorem w_or (h : c σ H fun b H1 => if b = true then QB true H1 else d σ H1 QB) : tOr c d σ H QB := h
theorem w_andV (h : ta σ H fun x H1 => ∃ k, x = .bl k ∧ if k = true then tb σ H1 Q else Q (.bl false) H1) : tAndV ta tb σ H Q := h
theorem w_orV (h : ta σ H fun x H1 => ∃ k, x = .bl k ∧ if k = true then Q (.bl true) H1 else tb σ H1 Q) : tOrV ta tb σ H Q := h
theorem w_notV (h : ta σ H fun x H1 => ∃ k, x = .bl k ∧ Q (.bl (!k)) H1) : tNotV ta σ H Q := h
theorem w_ifT {e : TT} (h : c σ H fun b H1 => if b = true then d σ H1 QB else e σ H1 QB) : tIfT c d e σ H QB := h
theorem w_if (h : c σ H fun b H1 => if b = true then ta σ H1 Q else tb σ H1 Q) : tIf c ta tb σ H Q := h
-- expressions
theorem w_var {i : Nat} (h : σ[i]? = some (some v)) (q : Q v H) : tVar i σ H Q := ⟨v, h, q⟩
theorem w_c (q : Q v H) : tC v σ H Q := q
theorem w_op (h : ta σ H fun x H1 => tb σ H1 fun y H2 => r x y H2 Q) : tOp r ta tb σ H Q := h
theorem w_un {r1 : V → Hp → VK → Prop} (h : ta σ H fun x H1 => r1 x H1 Q) : tUn r1 ta σ H Q := h
theorem w_rU {f : Int → V} {i : Int} (h : Q (f i) H) : rU f (.int i) H Q := ⟨i, rfl, h⟩
theorem w_chain (h : ta σ H fun x H1 => tb σ H1 fun y H2 => r x y H2 fun z H3 => ∃ k, z = .bl k ∧ (if k = true then te σ H3 fun w' H4 => r' y w' H4 Q else Q (.bl false) H3)) : tChain r r' ta tb te σ H Q := h
theorem w_blv {b : Bool} {k : Bool → Prop} (h : k b) : ∃ a, V.bl b = .bl a ∧ k a := ⟨b, rfl, h⟩
theorem w_addI {i j : Int} (h : Q (.int (i + j)) H) : rAddU K (.int i) (.int j) H Q := .inl ⟨i, j, rfl, rfl, h⟩
theorem w_addL {l b : Addr} {xs zs : List V} (hl : H l = some (.lst xs)) (hb : H b = some (.lst zs)) (hz : xs.length + zs.length ≤ sizeLine) (h : ∀ p H', H p = none → Same H H' → H' p = some (.lst (xs ++ zs)) → Q (.ref p) H') : rAddU K (.ref l) (.ref b) H Q :=
  .inr (.inl ⟨l, b, xs, zs, rfl, rfl, hl, hb, hz, alloc h⟩)
theorem w_addS {i j : Str} (hl : i.length + j.length ≤ sizeLine) (h : Q (.str (i ++ j)) H) : rAddU K (.str i) (.str j) H Q := .inr (.inr (.inr ⟨i, j, rfl, rfl, hl, h⟩))
theorem w_subI {i j : Int} (h : Q (.int (i - j)) H) : rSubI (.int i) (.int j) H Q := ⟨i, j, rfl, rfl, h⟩
theorem w_mulI {i j : Int} (hc : CMulW i j) (h : Q (.int (i * j)) H) : rMulU K (.int i) (.int j) H Q := .inl ⟨i, j, rfl, rfl, hc, h⟩
theorem w_divI {i j : Int} (hc : CDivW i j) (h : Q (.int (i / j)) H) : rDivI (.int i) (.int j) H Q := ⟨i, j, rfl, rfl, hc, h⟩
theorem w_modI {i j : Int} (hc : 0 < j) (h : Q (.int (i % j)) H) : rModI (.int i) (.int j) H Q := ⟨i, j, rfl, rfl, hc, h⟩
theorem w_powI {i j : Int} (hc : CPow i j) (h : Q (.int (i ^ j.toNat)) H) : rPowI (.int i) (.int j) H Q := ⟨i, j, rfl, rfl, hc, h⟩
theorem w_lt {i j : Int} (h : Q (.bl (decide (i < j))) H) : rLt (.int i) (.int j) H Q := ⟨i, j, rfl, rfl, h⟩
theorem w_le {i j : Int} (h : Q (.bl (decide (i ≤ j))) H) : rLe (.int i) (.int j) H Q := ⟨i, j, rfl, rfl, h⟩
theorem w_gt {i j : Int} (h : Q (.bl (decide (j < i))) H) : rGt (.int i) (.int j) H Q := ⟨i, j, rfl, rfl, h⟩
theorem w_ge {i j : Int} (h : Q (.bl (decide (j ≤ i))) H) : rGe (.int i) (.int j) H Q := ⟨i, j, rfl, rfl, h⟩
theorem w_eqI {i j : Int} (h : Q (.bl (decide (i = j))) H) : rEqU K (.int i) (.int j) H Q := .inl ⟨rfl, by rw [show decide (V.int i = V.int j) = decide (i = j) from by simp]; exact h⟩
theorem w_neI {i j : Int} (h : Q (.bl (!decide (i = j))) H) : rNeU K (.int i) (.int j) H Q := .inl ⟨rfl, by rw [show decide (V.int i = V.int j) = decide (i = j) from by simp]; exact h⟩
theorem w_eqS {i j : Str} (h : Q (.bl (decide (i = j))) H) : rEqU K (.str i) (.str j) H Q := .inl ⟨rfl, by rw [show decide (V.str i = V.str j) = decide (i = j) from by simp]; exact h⟩
theorem w_neS {i j : Str} (h : Q (.bl (!decide (i = j))) H) : rNeU K (.str i) (.str j) H Q := .inl ⟨rfl, by rw [show decide (V.str i = V.str j) = decide (i = j) from by simp]; exact h⟩
theorem w_eqB {i j : Bool} (h : Q (.bl (decide (i = j))) H) : rEqU K (.bl i) (.bl j) H Q := .inl ⟨rfl, by rw [show decide (V.bl i = V.bl j) = decide (i = j) from by simp]; exact h⟩
theorem w_neB {i j : Bool} (h : Q (.bl (!decide (i = j))) H) : rNeU K (.bl i) (.bl j) H Q := .inl ⟨rfl, by rw [show decide (V.bl i = V.bl j) = decide (i = j) from by simp]; exact h⟩
theorem w_isN (h : Q (.bl (decide (x = .non))) H) : rIsU x .non H Q := .inl ⟨rfl, h⟩
theorem w_notN (h : Q (.bl (!decide (x = .non))) H) : rNotIsU x .non H Q := .inl ⟨rfl, h⟩
theorem w_isB {a b : Bool} (h : Q (.bl (decide (a = b))) H) : rIsU (.bl a) (.bl b) H Q := .inr ⟨a, b, rfl, rfl, h⟩
theorem w_notB {a b : Bool} (h : Q (.bl (!decide (a = b))) H) : rNotIsU (.bl a) (.bl b) H Q := .inr ⟨a, b, rfl, rfl, h⟩
theorem w_ixL {p : Addr} {xs : List V} {i : Int} (hp : SqL K H p xs) (hi : atI xs i = some v) (h : Q v H) : rIx K (.ref p) (.int i) H Q := .inl ⟨p, xs, i, v, rfl, rfl, hp, hi, h⟩
theorem w_ixT {p : Addr} {xs : List V} {i : Int} (hp : SqT K H p xs) (hi : atI xs i = some v) (h : Q v H) : rIx K (.ref p) (.int i) H Q := .inr (.inl ⟨p, xs, i, v, rfl, rfl, hp, hi, h⟩)
theorem w_cal {sp : Sp} {E : XK} (h : tr σ H fun vs H1 => sp vs H1 Q E) : tCal sp E tr σ H Q := h
theorem w_calS {sp : Sp} {E : St → XK} (h : tr σ H fun vs H1 => sp vs H1 Q (E σ)) : tCalS sp E tr σ H Q := h
theorem w_met {C : Addr} {m : Str} {sp : Sp} {E : XK} (h : ta σ H fun x H1 => ∃ a dx fs, x = .ref a ∧ H1 a = some (.ins C dx fs) ∧ fs.lookup m = none ∧ tr σ H1 fun vs H2 => sp (x :: vs) H2 Q E) : tMet C m sp E ta tr σ H Q := h
theorem w_inT {neg : Bool} {p : Addr} {xs : List V} (hp : SqT K H p xs) (hx : flatV x = true) (ha : xs.all flatV = true) (h : Q (.bl (if neg then !inV x xs else inV x xs)) H) : rIn K neg x (.ref p) H Q := ⟨p, xs, rfl, .inr hp, hx, ha, h⟩
theorem w_inL {neg : Bool} {p : Addr} {xs : List V} (hp : SqL K H p xs) (hx : flatV x = true) (ha : xs.all flatV = true) (h : Q (.bl (if neg then !inV x xs else inV x xs)) H) : rIn K neg x (.ref p) H Q := ⟨p, xs, rfl, .inl hp, hx, ha, h⟩
theorem w_in1 (h : rIn K false x y H Q) : rInU K x y H Q := .inl h
theorem w_in2 (h : rIn K true x y H Q) : rNotInU K x y H Q := .inl h
theorem w_nil (h : QA [] H) : tNil σ H QA := h
theorem w_cons (h : ta σ H fun x H1 => tr σ H1 fun xs H2 => QA (x :: xs) H2) : tCons ta tr σ H QA := h
theorem w_cb {rb : List V → Hp → VK → Prop} (h : tr σ H fun vs H1 => rb vs H1 Q) : tCB rb tr σ H Q := h
def kTup (xs : List V) (H : Hp) (Q : VK) : Prop := xs.length ≤ sizeLine ∧ ∀ p, H p = none → Q (.ref p) (upd H p (.tup xs))
def kLst (xs : List V) (H : Hp) (Q : VK) : Prop := xs.length ≤ sizeLine ∧ ∀ p, H p = none → Q (.ref p) (upd H p (.lst xs))
theorem w_tup (h : tr σ H fun xs H1 => kTup xs H1 Q) : tTup tr σ H Q := h
theorem w_lst (h : tr σ H fun xs H1 => kLst xs H1 Q) : tLst tr σ H Q := h
theorem n_tup {xs : List V} (k : ∀ p H', H p = none → Same H H' → H' p = some (.tup xs) → Q (.ref p) H') (hz : xs.length ≤ 100000 := by first | decide | (simp only [List.length_cons, List.length_nil]; decide)) : kTup xs H Q := ⟨Nat.le_trans hz (by decide), fun p hp => k p _ hp (Same.new hp) upd_same⟩
theorem n_lst {xs : List V} (k : ∀ p H', H p = none → Same H H' → H' p = some (.lst xs) → Q (.ref p) H') (hz : xs.length ≤ 100000 := by first | decide | (simp only [List.length_cons, List.length_nil]; decide)) : kLst xs H Q := ⟨Nat.le_trans hz (by decide), fun p hp => k p _ hp (Same.new hp) upd_same⟩
def rFld (K : PySem.W.Frag) (f : Str) (x : V) (H : Hp) (Q : VK) : Prop := ∃ a C dx fs v, x = .ref a ∧ H a = some (.ins C dx fs) ∧ Cls K C ∧ NoAttr K C f ∧ fs.lookup f = some v ∧ Q v H
theorem w_fld {f : Str} (h : ta σ H fun x H1 => rFld K f x H1 Q) : tFld K ta f σ H Q := h
def kSfld (K : PySem.W.Frag) (f : Str) (y x : V) (H : Hp) (k : Hp → Prop) : Prop := ∃ a C dx fs, x = .ref a ∧ H a = some (.ins C dx fs) ∧ Cls K C ∧ NoAttr K C f ∧ fs.length < 1000 ∧ k (upd H a (.ins C dx (putF f y fs)))
theorem w_sFld {f : Str} {tv : TE} (h : tv σ H fun y H1 => ta σ H1 fun x H2 => kSfld K f y x H2 fun H3 => nx σ H3) : sFld K ta tv f ⟨nx, rt, bk, ct⟩ σ H := h
theorem k_sfld {f : Str} {y : V} {a C dx : Addr} {fs : List (Str × V)} {k : Hp → Prop} (h1 : H a = some (.ins C dx fs)) (h2 : Cls K C) (h3 : NoAttr K C f) (h4 : fs.length < 1000) (h : k (upd H a (.ins C dx (putF f y fs)))) : kSfld K f y (.ref a) H k := ⟨a, C, dx, fs, rfl, h1, h2, h3, h4, h⟩
theorem w_bm {T : String} {rm : V → List V → Hp → VK → Prop} (h : to σ H fun x H1 => tyV K T x H1 ∧ tr σ H1 fun xs H2 => rm x xs H2 Q) : tBM K T rm to tr σ H Q := h
theorem w_bm0 {T : String} {rm : V → List V → Hp → VK → Prop} (h : to σ H fun x H1 => tyV K T x H1 ∧ rm x [] H1 Q) : tBM0 K T rm to σ H Q := h
theorem w_tyL {p : Addr} {xs : List V} {A : Prop} (hp : H p = some (.lst xs)) (h : A) : tyV K "list" (.ref p) H ∧ A := ⟨.inl ⟨rfl, xs, SqL.of hp⟩, h⟩
theorem w_app {l : Addr} {xs : List V} (hl : H l = some (.lst xs)) (hz : xs.length ≤ 100000) (h : Q .non (upd H l (.lst (xs ++ [y])))) : rAppend (.ref l) [y] H Q := ⟨l, xs, y, rfl, rfl, hl, Nat.lt_of_le_of_lt hz (by decide), h⟩
theorem w_lenL {p : Addr} {xs : List V} (hp : SqL K H p xs) (h : Q (.int (xs.length : Int)) H) : rLen K [.ref p] H Q := ⟨_, _, rfl, .inl ⟨xs, hp, rfl⟩, h⟩
theorem w_lenT {p : Addr} {xs : List V} (hp : SqT K H p xs) (h : Q (.int (xs.length : Int)) H) : rLen K [.ref p] H Q := ⟨_, _, rfl, .inr ⟨xs, hp, rfl⟩, h⟩
theorem w_int1 {i : Int} (h : Q (.int i) H) : rInt1 [.int i] H Q := .inl ⟨i, rfl, h⟩
theorem w_abs {i : Int} (h : Q (.int (if i < 0 then -i else i)) H) : rAbs [.int i] H Q := ⟨i, rfl, h⟩
theorem w_min2 {i j : Int} (h : Q (.int (if j < i then j else i)) H) : rMin2 [.int i, .int j] H Q := ⟨i, j, rfl, h⟩
theorem w_tupL {p : Addr} {xs : List V} (hp : SqL K H p xs) (h : ∀ l H', H l = none → Same H H' → H' l = some (.tup xs) → Q (.ref l) H') : rTupOf K [.ref p] H Q := ⟨p, xs, rfl, .inl ⟨hp, alloc h⟩⟩
theorem w_tupT {p : Addr} {xs : List V} (hp : SqT K H p xs) (h : Q (.ref p) H) : rTupOf K [.ref p] H Q := ⟨p, xs, rfl, .inr ⟨hp, h⟩⟩
theorem w_listL {p : Addr} {xs : List V} (hp : SqL K H p xs ∨ SqT K H p xs) (h : ∀ l H', H l = none → Same H H' → H' l = some (.lst xs) → Q (.ref l) H') : rListOf K [.ref p] H Q := ⟨p, xs, rfl, hp, alloc h⟩
theorem w_sum {p : Addr} {ns : List Int} (hp : SqL K H p (ns.map V.int)) (h : Q (.int ns.sum) H) : rSum K [.ref p] H Q := ⟨p, ns, rfl, hp, h⟩
theorem w_all {p : Addr} {bs : List Bool} (hp : SqL K H p (bs.map V.bl)) (h : Q (.bl (bs.all id)) H) : rAll K [.ref p] H Q := ⟨p, bs, rfl, hp, h⟩
theorem w_sl {rs : RSl} {tl th : TO} (h : te σ H fun x H1 => tl σ H1 fun l H2 => th σ H2 fun u H3 => rs x l u H3 Q) : tSl rs te tl th σ H Q := h
theorem w_noPart (h : QO none H) : tNoPart σ H QO := h
theorem w_part (h : te σ H fun x H1 => ∃ i, x = .int i ∧ QO (some i) H1) : tPart te σ H QO := h
theorem w_parti {i : Int} {k : Int → Prop} (h : k i) : ∃ j, V.int i = .int j ∧ k j := ⟨i, rfl, h⟩
theorem w_yes (h : QB true H) : tYes σ H QB := h
theorem w_raise {C : Addr} {W : WX} (h : W (.ref C) none σ H) : tRaise C W ⟨nx, rt, bk, ct⟩ σ H := h
theorem w_try1 {cv : Value} {tbb : WX → TS} {ts : Addr → Value → Option Addr → TS} (h : tbb (wOnly K cv ts (fun _ _ _ _ => False) ⟨nx, rt, bk, ct⟩) ⟨nx, rt, bk, ct⟩ σ H) : tTry1 K cv tbb ts ⟨nx, rt, bk, ct⟩ σ H := h
theorem w_tryN {tbb : WX → TS} {l : List (Value × (Addr → Value → Option Addr → TS))} (h : tbb (wMany K (fun _ _ _ _ => False) ⟨nx, rt, bk, ct⟩ l) ⟨nx, rt, bk, ct⟩ σ H) : tTryN K tbb l ⟨nx, rt, bk, ct⟩ σ H := h
end

local macro_rules | `(tactic| walk_at "sq") => `(tactic| first
  | assumption
  | exact SqT.of (by assumption)
  | exact SqL.of (by assumption)
  | exact SqT.of upd_same
  | exact SqL.of upd_same
  | exact Same.seqT (by assumption) (by assumption)
  | exact Same.seq (by assumption) (by assumption)
  | exact Same.seqT (by assumption) (SqT.of (by assumption))
  | exact Same.seq (by assumption) (SqL.of (by assumption)))
local macro_rules | `(tactic| walk_at "s") => `(tactic| with_reducible first
  | refine w_seq ?_ | refine w_asg ?_ | refine w_gName ?_ | refine w_ret ?_ | refine w_ifS ?_ | refine w_drop ?_ | refine w_par ?_ | refine w_par3 ?_ | refine w_two ?_ | refine w_three ?_
  | refine w_test ?_ | refine w_B ?_ | refine w_not ?_ | refine w_and ?_ | refine w_or ?_ | refine w_andV ?_ | refine w_orV ?_ | refine w_notV ?_ | refine w_if ?_ | refine w_ifT ?_ | refine w_bl ?_ | refine w_blv ?_ | refine w_iteT ?_ | refine w_iteF ?_ | refine w_iteNT ?_ | refine w_iteNF ?_
  | refine w_var (by with_unfolding_all rfl) ?_ | refine w_c ?_ | refine w_op ?_ | refine w_un ?_ | refine w_rU ?_ | refine w_chain ?_
  | refine w_addI ?_ | refine w_subI ?_ | refine w_lt ?_ | refine w_le ?_ | refine w_gt ?_ | refine w_ge ?_ | refine w_eqI ?_ | refine w_neI ?_ | refine w_eqS ?_ | refine w_neS ?_ | refine w_eqB ?_ | refine w_neB ?_ | refine w_isN ?_ | refine w_notN ?_ | refine w_isB ?_ | refine w_notB ?_
  | refine w_cal ?_ | refine w_calS ?_ | refine w_nil ?_ | refine w_cons ?_ | refine w_cb ?_ | refine w_int1 ?_ | refine w_abs ?_ | refine w_min2 ?_ | refine w_ipI ?_ | refine w_gSub ?_
  | refine w_tup ?_ | refine w_lst ?_ | refine w_bm ?_ | refine w_bm0 ?_ | refine w_sl ?_ | refine w_noPart ?_ | refine w_part ?_ | refine w_parti ?_ | refine w_yes ?_ | refine w_raise ?_ | refine w_try1 ?_ | refine w_tryN ?_ | refine w_brk ?_ | refine w_cont ?_ | refine w_retN ?_ | refine w_gNil ?_ | refine w_gCons ?_
  | refine w_fld ?_ | refine w_prp ?_ | refine w_mak ?_ | refine w_makS ?_ | refine w_sFld ?_ | refine w_for ?_ | refine w_lc ?_ | refine w_rng1 ?_ | refine w_rng2 ?_ | refine w_iSeq ?_ | refine w_iEnum ?_ | refine w_met ?_
  | refine w_aug (by with_unfolding_all rfl) ?_
  | refine w_next ?_)
local macro_rules | `(tactic| walk_at "m") => `(tactic| first
  | ((with_reducible show rMulU _ (V.int _) (V.int _) _ _); refine w_mulI (cmul_of (m := 110) (n := 110) (by omega) (by omega)) ?_)
  | ((with_reducible show rModI (V.int _) (V.int _) _ _); refine w_modI (by omega) ?_))
local macro_rules | `(tactic| walk_at "ss") => `(tactic| repeat (first | walk_at "s" | walk_at "m"))
/-! ### any value -/
/-- a value of one of the kinds that the document names, as it stands in H -/
inductive Tag (K : PySem.W.Frag) (H : Hp) : V → Prop
  | non : Tag K H .non
  | bl (b : Bool) : Tag K H (.bl b)
  | int (i : Int) : Tag K H (.int i)
  | str (x : Str) : Tag K H (.str x)
  | lst {a : Addr} {xs : List V} (h : H a = some (.lst xs)) : Tag K H (.ref a)
  | tup {a : Addr} {xs : List V} (h : H a = some (.tup xs)) : Tag K H (.ref a)
  | dK {a : Addr} {kvs : List (Key × V)} (h : H a = some (.dK kvs)) : Tag K H (.ref a)
theorem Tag.mono {K : PySem.W.Frag} {H H' : Hp} {v : V} (e : Same H H') (h : Tag K H v) : Tag K H' v := by
  cases h with
  | non => exact .non
  | bl b => exact .bl b
  | int i => exact .int i
  | str x => exact .str x
  | lst h => exact .lst (e _ _ h)
  | tup h => exact .tup (e _ _ h)
  | dK h => exact .dK (e _ _ h)
/-- its built-in class -/
def tyN (H : Hp) : V → String
  | .non => "NoneType"
  | .bl _ => "bool"
  | .int _ => "int"
  | .str _ => "str"
  | .ref a => match H a with
    | some (.lst _) => "list"
    | some (.tup _) => "tuple"
    | some (.dK _) => "dict"
    | _ => "?"
  | _ => "?"
def tyTab (a n : String) : Bool := a == n || (a == "bool" && n == "int")
def isTy (H : Hp) (n : String) (v : V) : Bool := tyTab (tyN H v) n
def tyNames : List String := ["int", "bool", "str", "tuple", "list", "dict"]
theorem tyTab_all : ∀ a ∈ ["NoneType", "int", "bool", "str", "tuple", "list", "dict"], ∀ n ∈ tyNames, kitB a n = some (tyTab a n) := by decide +kernel
theorem w_isi {K : PySem.W.Frag} {H : Hp} {v : V} {n : String} {Q : VK} (h : Tag K H v) (hn : n ∈ tyNames) (q : Q (.bl (isTy H n v)) H) : rIsi K [v, .ty n] H Q := by
  have key : ∀ (a : String), TyX K H v (.type a) → tyN H v = a → a ∈ ["NoneType", "int", "bool", "str", "tuple", "list", "dict"] → rIsi K [v, .ty n] H Q := fun a t e m => ⟨v, .ty n, .type a, .type n, _, rfl, .ty n, t, kit_ty (tyTab_all a m n hn), by unfold isTy at q; rw [e] at q; exact q⟩
  cases h with
  | non => exact key "NoneType" (.base .non) rfl (by decide)
  | bl b => exact key "bool" (.base (.bl b)) rfl (by decide)
  | int i => exact key "int" (.base (.int i)) rfl (by decide)
  | str x => exact key "str" (.base (.str x)) rfl (by decide)
  | lst h => exact key "list" (.base (.lst h)) (by simp only [tyN, h]) (by decide)
  | tup h => exact key "tuple" (.base (.tup h)) (by simp only [tyN, h]) (by decide)
  | dK h => exact key "dict" (.base (.dK h)) (by simp only [tyN, h]) (by decide)
/-! ### is_integer, is_from -/
def isI : V → Bool
  | .int _ => true
  | _ => false
theorem isI_ty {K : PySem.W.Frag} {H : Hp} {v : V} (h : Tag K H v) : isI v = (isTy H "int" v && !isTy H "bool" v) := by
  cases h with
  | non => simp only [isTy, tyN, isI]; decide
  | bl b => simp only [isTy, tyN, isI]; decide
  | int i => simp only [isTy, tyN, isI]; decide
  | str x => simp only [isTy, tyN, isI]; decide
  | lst h => simp only [isTy, tyN, h, isI]; decide
  | tup h => simp only [isTy, tyN, h, isI]; decide
  | dK h => simp only [isTy, tyN, h, isI]; decide
/-- an int from lo to hi, no bool -/
def inR (lo hi : Int) : V → Bool
  | .int n => decide (lo ≤ n) && decide (n ≤ hi)
  | _ => false
def sp_is_integer (Γ : Gm) : Sp := fun vs H Q _ => ∃ v, vs = [v] ∧ Tag Γ.K H v ∧ Q (.bl (isI v)) H
def sp_is_from (Γ : Gm) : Sp := fun vs H Q _ => ∃ v lo hi, vs = [v, .int lo, .int hi] ∧ Tag Γ.K H v ∧ Q (.bl (inR lo hi v)) H
/-- is_integer: value -/
def t_is_integer (Γ : Gm) : TS := (tRet (tAndV (tCB (rIsi Γ.K) (tCons (tVar 0) (tCons (tC (.ty "int")) tNil))) (tNotV (tCB (rIsi Γ.K) (tCons (tVar 0) (tCons (tC (.ty "bool")) tNil))))))
theorem rd_is_integer (Γ : Gm) (vs : List V) (H : Hp) (Q : VK) (E : XK) (h : sp_is_integer Γ vs H Q E) : t_is_integer Γ ⟨fun _ H' => Q .non H', Q, fun _ _ => False, fun _ _ => False⟩ (startN 1 vs) H := by
  obtain ⟨v, rfl, ht, q⟩ := h
  unfold t_is_integer
  walk_at "ss"
  refine w_isi ht (by decide) ?_
  rw [isI_ty ht] at q
  walk_at "ss"
  refine w_ite (fun e => ?_) (fun e => ?_)
  · walk_at "ss"
    refine w_isi ht (by decide) ?_
    walk_at "ss"
    rw [e] at q
    exact q
  · rw [e] at q
    exact q
/-- is_from: value, low, high -/
def t_is_from (Γ : Gm) : TS := (tRet (tAndV (tCal (sp_is_integer Γ) E0 (tCons (tVar 0) tNil)) (tChain rLe rLe (tVar 1) (tVar 0) (tVar 2))))
theorem rd_is_from (Γ : Gm) (vs : List V) (H : Hp) (Q : VK) (E : XK) (h : sp_is_from Γ vs H Q E) : t_is_from Γ ⟨fun _ H' => Q .non H', Q, fun _ _ => False, fun _ _ => False⟩ (startN 3 vs) H := by
  obtain ⟨v, lo, hi, rfl, ht, q⟩ := h
  unfold t_is_from
  walk_at "ss"
  refine ⟨v, rfl, ht, ?_⟩
  walk_at "ss"
  cases v with
  | int n =>
    rw [if_pos (show isI (V.int n) = true from rfl)]
    walk_at "ss"
    refine w_ite (fun e => ?_) (fun e => ?_)
    · walk_at "ss"
      have e' : decide (lo ≤ n) = true := e
      simp only [inR, e', Bool.true_and] at q
      exact q
    · have e' : decide (lo ≤ n) = false := e
      simp only [inR, e', Bool.false_and] at q
      exact q
  | _ => exact w_iteF q
/-! ### drawing -/
/-- what a source of numbers holds -/
def DS (ns : List Int) : Prop := ∃ (s c : Int) (r : List Int), ns = s :: c :: r ∧ 0 ≤ s ∧ s < 2147483647 ∧ r.length ≤ 63
abbrev dO (d : Addr) : HO := opq DS d
def sp__law_below (Γ : Gm) : Sp := fun vs H Q _ => ∃ (d : Addr) (n : Int), vs = [.ref d, .int n] ∧ H d = some (dO d) ∧ 0 < n ∧ n < 2 ^ 200 ∧ ∀ r : Int, 0 ≤ r → r < n → Q (.int r) H
/-- law_below: _law_d, _law_size, _law_result -/
def t__law_below (Γ : Gm) : TS := tOpen DS (tCut (tIfS (tAnd (tTest (tOp (rEqU Γ.K) (tOp (rIx Γ.K) (tVar 0) (tC (.int 1))) (tC (.int 0)))) (tTest (tOp rGt (tCB (rLen Γ.K) (tCons (tVar 0) tNil)) (tC (.int 2))))) (tAsg (tBM Γ.K "list" rPopAt (tVar 0) (tCons (tC (.int 2)) tNil)) (gSub (tVar 0) (tC (.int 1)) rSetL)) tNext)
  (tSeq (tIfS (tTest (tOp rGt (tOp (rIx Γ.K) (tVar 0) (tC (.int 1))) (tC (.int 0)))) (tSeq (tAsg (tOp rModI (tCB rInt1 (tCons (tOp (rIx Γ.K) (tVar 0) (tC (.int 1))) tNil)) (tVar 1)) (gName 2))
  (tSeq (tAsg (tOp rDivI (tOp (rIx Γ.K) (tVar 0) (tC (.int 1))) (tVar 1)) (gSub (tVar 0) (tC (.int 1)) rSetL))
  (tRet (tVar 2)))) tNext)
  (tSeq (tAsg (tOp rModI (tCB rInt1 (tCons (tOp (rAddU Γ.K) (tOp (rMulU Γ.K) (tOp (rIx Γ.K) (tVar 0) (tC (.int 0))) (tC (.int 48271))) (tC (.int 11))) tNil)) (tC (.int 2147483647))) (gSub (tVar 0) (tC (.int 0)) rSetL))
  (tRet (tOp rModI (tCB rInt1 (tCons (tOp rDivI (tOp (rIx Γ.K) (tVar 0) (tC (.int 0))) (tC (.int 64))) tNil)) (tVar 1))))))
theorem upd_back {H : Hp} {d : Addr} {o u : HO} (h : H d = some o) : upd (upd H d u) d o = H := by
  rw [upd_upd]
  funext b
  unfold upd
  split
  · rename_i e; rw [e, h]
  · rfl
theorem atI0 {α : Type} (a : α) (l : List α) : atI (a :: l) 0 = some a := by simp [atI, ixN]
theorem atI1 {α : Type} (a b : α) (l : List α) : atI (a :: b :: l) 1 = some b := by
  unfold atI ixN
  rw [if_pos (by decide), if_pos (by simp only [List.length_cons]; omega)]
  rfl
theorem ixN0 (n : Nat) : ixN (n + 1) 0 = some 0 := by
  unfold ixN
  rw [if_pos (by decide), if_pos (by omega)]
  rfl
theorem ixN1 (n : Nat) : ixN (n + 1 + 1) 1 = some 1 := by
  unfold ixN
  rw [if_pos (by decide), if_pos (by omega)]
  rfl
theorem log_of {n : Int} {k : Nat} (h : n.natAbs < 2 ^ k) : n.natAbs.log2 < k + 1 := by
  by_cases z : n.natAbs = 0
  · rw [z]; simp
  · have := (Nat.log2_lt z).mpr h
    omega
theorem rd__law_below (Γ : Gm) (vs : List V) (H : Hp) (Q : VK) (E : XK) (h : sp__law_below Γ vs H Q E) : t__law_below Γ ⟨fun _ H' => Q .non H', Q, fun _ _ => False, fun _ _ => False⟩ (startN 3 vs) H := by
  obtain ⟨d, n, rfl, hd, hn, hn2, k⟩ := h
  refine ⟨d, hd, ?_⟩
  rintro _ ⟨s, c, r, rfl, hs, hs2, hr⟩
  have fin : ∀ (H1 : Hp) (v : Int) (ns : List Int), (∀ o, upd H1 d o = upd H d o) → H1 d = some (.lst (ns.map V.int)) → DS ns → 0 ≤ v → v < n → (shutE DS d ⟨fun _ H' => Q .non H', Q, fun _ _ => False, fun _ _ => False⟩).rt (.int v) H1 := fun H1 v ns e1 e2 e3 h1 h2 => by
    refine ⟨ns, e3, e2, ?_⟩
    rw [e1]
    have e4 : upd H d (dO d) = H := by
      have := upd_back (u := dO d) hd
      rwa [upd_upd] at this
    rw [e4]
    exact k v h1 h2
  have two : ∀ (c : Int) (r : List Int) (H1 : Hp), r.length ≤ 63 → H1 d = some (.lst ((s :: c :: r).map V.int)) → (∀ o, upd H1 d o = upd H d o) →
      (tSeq (tIfS (tTest (tOp rGt (tOp (rIx Γ.K) (tVar 0) (tC (.int 1))) (tC (.int 0)))) (tSeq (tAsg (tOp rModI (tCB rInt1 (tCons (tOp (rIx Γ.K) (tVar 0) (tC (.int 1))) tNil)) (tVar 1)) (gName 2))
  (tSeq (tAsg (tOp rDivI (tOp (rIx Γ.K) (tVar 0) (tC (.int 1))) (tVar 1)) (gSub (tVar 0) (tC (.int 1)) rSetL))
  (tRet (tVar 2)))) tNext)
  (tSeq (tAsg (tOp rModI (tCB rInt1 (tCons (tOp (rAddU Γ.K) (tOp (rMulU Γ.K) (tOp (rIx Γ.K) (tVar 0) (tC (.int 0))) (tC (.int 48271))) (tC (.int 11))) tNil)) (tC (.int 2147483647))) (gSub (tVar 0) (tC (.int 0)) rSetL))
  (tRet (tOp rModI (tCB rInt1 (tCons (tOp rDivI (tOp (rIx Γ.K) (tVar 0) (tC (.int 0))) (tC (.int 64))) tNil)) (tVar 1))))) (shutE DS d ⟨fun _ H' => Q .non H', Q, fun _ _ => False, fun _ _ => False⟩) (startN 3 [.ref d, .int n]) H1 := fun c r H1 hr hH hB => by
    unfold shutE
    walk_at "ss"
    refine w_ixL (SqL.of hH) (atI1 _ _ _) ?_
    walk_at "ss"
    refine w_ite (fun e => ?_) (fun e => ?_)
    · walk_at "ss"
      refine w_ixL (SqL.of hH) (atI1 _ _ _) ?_
      walk_at "ss"
      refine w_ixL (SqL.of hH) (atI1 _ _ _) ?_
      walk_at "ss"
      refine w_divI ⟨hn, by have := log_of (n := n) (k := 200) (by omega); omega⟩ ?_
      walk_at "ss"
      refine w_setL hH (ixN1 _) ?_
      walk_at "ss"
      refine fin _ (c % n) (s :: (c / n) :: r) (fun o => by rw [upd_upd]; exact hB o) (by rw [upd_same]; rfl) ⟨s, c / n, r, rfl, hs, hs2, hr⟩ (Int.emod_nonneg _ (by omega)) (Int.emod_lt_of_pos _ hn)
    · walk_at "ss"
      refine w_ixL (SqL.of hH) (atI0 _ _) ?_
      walk_at "ss"
      refine w_setL hH (ixN0 _) ?_
      walk_at "ss"
      refine w_ixL (SqL.of upd_same) (atI0 _ _) ?_
      walk_at "ss"
      refine w_divI ⟨by decide, by decide +kernel⟩ ?_
      walk_at "ss"
      refine fin _ _ ((s * 48271 + 11) % 2147483647 :: c :: r) (fun o => by rw [upd_upd]; exact hB o) (by rw [upd_same]; rfl) ⟨_, c, r, rfl, Int.emod_nonneg _ (by decide), Int.emod_lt_of_pos _ (by decide), hr⟩ (Int.emod_nonneg _ (by omega)) (Int.emod_lt_of_pos _ hn)
  unfold shutE
  refine w_thru ?_
  walk_at "ss"
  refine w_ixL (SqL.of upd_same) (atI1 _ _ _) ?_
  walk_at "ss"
  refine w_ite (fun e => ?_) (fun e => ?_)
  · walk_at "ss"
    refine w_lenL (SqL.of upd_same) ?_
    walk_at "ss"
    refine w_ite (fun e2 => ?_) (fun e2 => ?_)
    · have hl : ∃ c' r', r = c' :: r' := by
        cases r with
        | nil => simp at e2
        | cons a b => exact ⟨a, b, rfl⟩
      obtain ⟨c', r', rfl⟩ := hl
      walk_at "ss"
      refine w_tyL upd_same ?_
      walk_at "ss"
      refine ⟨d, _, 2, 2, .int c', rfl, rfl, upd_same, by decide, by decide, ?_, rfl, ?_⟩
      · simp [seqIndex?]
        omega
      walk_at "ss"
      refine w_setL upd_same (ixN1 _) ?_
      refine two c' r' _ (by simp only [List.length_cons] at hr; omega) (by rw [upd_same]; rfl) (fun o => by rw [upd_upd, upd_upd, upd_upd])
    · exact two c r _ hr upd_same (fun o => by rw [upd_upd])
  · exact two c r _ hr upd_same (fun o => by rw [upd_upd])

/-! ### data made of tuples -/
mutual
inductive Tp (H : Hp) : V → PyData → Prop
  | non : Tp H .non .none
  | bl (b : Bool) : Tp H (.bl b) (.bool b)
  | int (i : Int) : Tp H (.int i) (.int i)
  | str (x : Str) : Tp H (.str x) (.str x)
  | tup {a : Addr} {xs : List V} {ds : List PyData} : H a = some (.tup xs) → TpAll H xs ds → Tp H (.ref a) (.tuple ds)
inductive TpAll (H : Hp) : List V → List PyData → Prop
  | nil : TpAll H [] []
  | cons {v : V} {vs : List V} {d : PyData} {ds : List PyData} : Tp H v d → TpAll H vs ds → TpAll H (v :: vs) (d :: ds)
end
/-- the tuples stand -/
def Tups (H H' : Hp) : Prop := ∀ a xs, H a = some (.tup xs) → H' a = some (.tup xs)
theorem _root_.L2.Same.tups {H H' : Hp} (e : Same H H') : Tups H H' := fun a xs h => e a _ h
theorem Tups.upd {H H' : Hp} {l : Addr} {o : HO} (e : Tups H H') (h : ∀ xs, H' l ≠ some (.tup xs)) : Tups H (upd H' l o) := fun a xs q => by
  have q' := e a xs q
  rw [upd_ne (fun z => h xs (by rw [← z]; exact q'))]
  exact q'
theorem Tups.trans {H H1 H2 : Hp} (a : Tups H H1) (b : Tups H1 H2) : Tups H H2 := fun x xs h => b x xs (a x xs h)
mutual
theorem Tp.mono {H H' : Hp} (e : Tups H H') : ∀ {v : V} {d : PyData}, Tp H v d → Tp H' v d
  | _, _, .non => .non
  | _, _, .bl b => .bl b
  | _, _, .int i => .int i
  | _, _, .str x => .str x
  | _, _, .tup h k => .tup (e _ _ h) (TpAll.mono e k)
theorem TpAll.mono {H H' : Hp} (e : Tups H H') : ∀ {vs : List V} {ds : List PyData}, TpAll H vs ds → TpAll H' vs ds
  | _, _, .nil => .nil
  | _, _, .cons h k => .cons (Tp.mono e h) (TpAll.mono e k)
end
mutual
theorem Tp.dp {K : PySem.W.Frag} {H : Hp} : ∀ {v : V} {d : PyData}, Tp H v d → Dp K H v d
  | _, _, .non => .non
  | _, _, .bl b => .bl b
  | _, _, .int i => .int i
  | _, _, .str x => .str x
  | _, _, .tup h k => .tup (SqT.of h) (TpAll.dp k)
theorem TpAll.dp {K : PySem.W.Frag} {H : Hp} : ∀ {vs : List V} {ds : List PyData}, TpAll H vs ds → DpAll K H vs ds
  | _, _, .nil => .nil
  | _, _, .cons h k => .cons (Tp.dp h) (TpAll.dp k)
end
theorem TpAll.length {H : Hp} : ∀ {vs : List V} {ds : List PyData}, TpAll H vs ds → vs.length = ds.length
  | _, _, .nil => rfl
  | _, _, .cons _ k => by rw [List.length_cons, List.length_cons, TpAll.length k]
theorem TpAll.get {H : Hp} : ∀ {vs : List V} {ds : List PyData} {i : Nat} {d : PyData}, TpAll H vs ds → ds[i]? = some d → ∃ v, vs[i]? = some v ∧ Tp H v d
  | _, _, _, _, .nil, e => by simp at e
  | _, _, 0, _, .cons h _, e => by simp at e; subst e; exact ⟨_, rfl, h⟩
  | _, _, i + 1, _, .cons _ k, e => by
    obtain ⟨v, h1, h2⟩ := TpAll.get (i := i) k (by simpa using e)
    exact ⟨v, by simpa using h1, h2⟩
theorem TpAll.get' {H : Hp} : ∀ {vs : List V} {ds : List PyData} {i : Nat} {v : V}, TpAll H vs ds → vs[i]? = some v → ∃ d, ds[i]? = some d ∧ Tp H v d
  | _, _, _, _, .nil, e => by simp at e
  | _, _, 0, _, .cons h _, e => by simp at e; subst e; exact ⟨_, rfl, h⟩
  | _, _, i + 1, _, .cons _ k, e => by
    obtain ⟨v, h1, h2⟩ := TpAll.get' (i := i) k (by simpa using e)
    exact ⟨v, by simpa using h1, h2⟩
theorem TpAll.ints {H : Hp} : ∀ {vs : List V} {ns : List Int}, TpAll H vs (ns.map PyData.int) → vs = ns.map V.int
  | _, [], .nil => rfl
  | _, n :: ns, .cons h k => by
    cases h
    rw [List.map_cons, TpAll.ints k]
theorem TpAll.of_ints (H : Hp) : ∀ (ns : List Int), TpAll H (ns.map V.int) (ns.map PyData.int)
  | [] => .nil
  | n :: ns => .cons (.int n) (TpAll.of_ints H ns)
theorem TpAll.append {H : Hp} : ∀ {vs ws : List V} {ds es : List PyData}, TpAll H vs ds → TpAll H ws es → TpAll H (vs ++ ws) (ds ++ es)
  | _, _, _, _, .nil, k => k
  | _, _, _, _, .cons h k, q => .cons h (TpAll.append k q)
theorem Tp.inv {H : Hp} {v : V} {ds : List PyData} (h : Tp H v (.tuple ds)) : ∃ a xs, v = .ref a ∧ H a = some (.tup xs) ∧ TpAll H xs ds := by
  cases h with
  | tup h k => exact ⟨_, _, rfl, h, k⟩
theorem Tp.tag {K : PySem.W.Frag} {H : Hp} {v : V} {d : PyData} (h : Tp H v d) : Tag K H v := by
  cases h with
  | non => exact .non
  | bl b => exact .bl b
  | int i => exact .int i
  | str x => exact .str x
  | tup h k => exact .tup h
/-! ### rules -/
inductive R where
  | tab (rows : List (List Int))
  | trm (ts : List (Int × Nat × Nat))
abbrev tri (t : Int × Nat × Nat) : List Int := [t.1, (t.2.1 : Int), (t.2.2 : Int)]
def R.body : R → PyData
  | .tab rows => .tuple (rows.map fun r => .tuple (r.map PyData.int))
  | .trm ts => .tuple (ts.map fun t => .tuple ((tri t).map PyData.int))
def R.kind : R → Str
  | .tab _ => "table"
  | .trm _ => "terms"
def R.top : R → Int
  | .tab rows => (rows.length : Int) + 1
  | .trm _ => 1000000000000000000000000000000
def R.pts (r : R) (a b : Int) : Int := match r with
  | .tab rows => (rows.getD (a - 1).toNat []).getD (b - 1).toNat 0
  | .trm ts => (ts.map fun t => t.1 * a ^ t.2.1 * b ^ t.2.2).sum
/-- the rules that are -/
def R.ok : R → Prop
  | .tab rows => 1 ≤ rows.length ∧ rows.length < 40 ∧ ∀ i r, rows[i]? = some r → r.length = rows.length - i ∧ ∀ n ∈ r, -1000000 ≤ n ∧ n ≤ 1000000
  | .trm ts => ts.length ≤ 6 ∧ ∀ t ∈ ts, -1000000 ≤ t.1 ∧ t.1 ≤ 1000000 ∧ t.2.1 ≤ 4 ∧ t.2.2 ≤ 4
def rfl2 (s : Str) (b : Addr) : List (Str × V) := putF "body" (.ref b) (putF "form" (.str s) [])
theorem fb : ¬ (("form" : Str) = "body") := by decide +kernel
theorem rfl2_form (s : Str) (b : Addr) : (rfl2 s b).lookup ("form" : Str) = some (.str s) := by
  unfold rfl2
  rw [lookup_putF, if_neg fb, lookup_putF, if_pos rfl]
theorem rfl2_body (s : Str) (b : Addr) : (rfl2 s b).lookup ("body" : Str) = some (.ref b) := by
  unfold rfl2
  rw [lookup_putF, if_pos rfl]
/-- a rule's object -/
def RuleAt (Γ : Gm) (H : Hp) (v : V) (r : R) : Prop := ∃ p dx b, v = .ref p ∧ H p = some (.ins Γ.cRule dx (rfl2 r.kind b)) ∧ Tp H (.ref b) r.body ∧ r.ok
theorem RuleAt.mono {Γ : Gm} {H H' : Hp} {v : V} {r : R} (e : Same H H') (h : RuleAt Γ H v r) : RuleAt Γ H' v r := by
  obtain ⟨p, dx, b, h1, h2, h3, h4⟩ := h
  exact ⟨p, dx, b, h1, e _ _ h2, h3.mono (Same.tups e), h4⟩
/-- what is asked of the class Rule -/
structure RuleF (Γ : Gm) : Prop where
  cl : Cls Γ.K Γ.cRule
  nF : NoAttr Γ.K Γ.cRule "form"
  nB : NoAttr Γ.K Γ.cRule "body"
theorem w_form {Γ : Gm} (F : RuleF Γ) {H : Hp} {v : V} {r : R} {Q : VK} (h : RuleAt Γ H v r) (q : Q (.str r.kind) H) : rFld Γ.K "form" v H Q := by
  obtain ⟨p, dx, b, rfl, h2, h3, h4⟩ := h
  exact ⟨p, _, dx, _, _, rfl, h2, F.cl, F.nF, rfl2_form _ _, q⟩
theorem w_body {Γ : Gm} (F : RuleF Γ) {H : Hp} {v : V} {r : R} {Q : VK} (h : RuleAt Γ H v r) (q : ∀ b xs, H b = some (.tup xs) → Tp H (.ref b) r.body → Q (.ref b) H) : rFld Γ.K "body" v H Q := by
  obtain ⟨p, dx, b, rfl, h2, h3, h4⟩ := h
  refine ⟨p, _, dx, _, _, rfl, h2, F.cl, F.nB, rfl2_body _ _, ?_⟩
  cases r <;> (cases h3 with | tup h k => exact q b _ h (.tup h k))
theorem kind_tab (r : R) : decide (r.kind = ("table" : Str)) = match r with | .tab _ => true | .trm _ => false := by
  cases r with
  | tab _ => exact decide_eq_true rfl
  | trm _ => exact decide_eq_false (show ¬ ("terms" : Str) = "table" from by decide +kernel)
/-! ### most_of, raised, points_by, check_heap -/
def sp_most_of (Γ : Gm) : Sp := fun vs H Q _ => ∃ v r, vs = [v] ∧ RuleAt Γ H v r ∧ Q (.int r.top) H
/-- most_of: rule -/
def t_most_of (Γ : Gm) : TS := (tRet (tIf (tTest (tOp (rEqU Γ.K) (tFld Γ.K (tVar 0) "form") (tC (.str "table")))) (tOp (rAddU Γ.K) (tCB (rLen Γ.K) (tCons (tFld Γ.K (tVar 0) "body") tNil)) (tC (.int 1))) (tC (.int 1000000000000000000000000000000))))
theorem rd_most_of (Γ : Gm) (F : RuleF Γ) (vs : List V) (H : Hp) (Q : VK) (E : XK) (h : sp_most_of Γ vs H Q E) : t_most_of Γ ⟨fun _ H' => Q .non H', Q, fun _ _ => False, fun _ _ => False⟩ (startN 1 vs) H := by
  obtain ⟨v, r, rfl, hr, q⟩ := h
  unfold t_most_of
  walk_at "ss"
  refine w_form F hr ?_
  walk_at "ss"
  rw [kind_tab]
  cases r with
  | tab rows =>
    refine w_iteT ?_
    walk_at "ss"
    refine w_body F hr fun b xs hb ht => ?_
    walk_at "ss"
    refine w_lenT (SqT.of hb) ?_
    walk_at "ss"
    obtain ⟨a, ys, e1, e2, e3⟩ := ht.inv
    cases e1
    rw [hb] at e2
    cases e2
    rw [e3.length, List.length_map]
    exact q
  | trm ts =>
    refine w_iteF ?_
    walk_at "ss"
    exact q
def sp_raised (Γ : Gm) : Sp := fun vs H Q _ => ∃ (b : Int) (k : Nat), vs = [.int b, .int k] ∧ k ≤ 4 ∧ b.natAbs < 2 ^ 110 ∧ Q (.int (b ^ k)) H
def rg (j : Int) : Prop := -(2 ^ 62) ≤ j ∧ j < 2 ^ 62
/-- raised: base, exponent, found, lap -/
def t_raised (Γ : Gm) : TS := (tSeq (tAsg (tC (.int 1)) (gName 2))
  (tSeq (tFor (iRng1 (tCons (tVar 1) tNil)) (gName 3) (tAsg (tOp (rMulU Γ.K) (tVar 2) (tVar 0)) (gName 2)))
  (tRet (tVar 2))))
theorem rd_raised (Γ : Gm) (vs : List V) (H : Hp) (Q : VK) (E : XK) (h : sp_raised Γ vs H Q E) : t_raised Γ ⟨fun _ H' => Q .non H', Q, fun _ _ => False, fun _ _ => False⟩ (startN 4 vs) H := by
  obtain ⟨b, k, rfl, hk, hb, q⟩ := h
  unfold t_raised
  walk_at "ss"
  refine k_rng1 (by omega) ?_
  refine k_range (fun i σ H' => ∃ x, σ = [some (.int b), some (.int k), some (.int (b ^ i)), x] ∧ H' = H) ⟨none, by rw [Int.pow_zero]; rfl, rfl⟩ ?_ ?_
  · rintro i σ H' hi ⟨x, rfl, rfl⟩
    have hi' : i < k := by simpa using hi
    walk_at "ss"
    refine w_mulI (cmul_of (pow_nat (k := i) (Nat.le_of_lt hb)) (Nat.le_of_lt hb) (by have : 110 * i ≤ 110 * 4 := Nat.mul_le_mul_left _ (by omega); omega)) ?_
    walk_at "ss"
    exact ⟨_, by rw [Int.pow_succ]; rfl, rfl⟩
  · rintro σ H' ⟨x, rfl, rfl⟩
    walk_at "ss"
    simpa using q
def sp_points_by (Γ : Gm) : Sp := fun vs H Q _ => ∃ v r a b, vs = [v, .int a, .int b] ∧ RuleAt Γ H v r ∧ 1 ≤ a ∧ 1 ≤ b ∧ a + b ≤ r.top ∧ ∀ H', Same H H' → Q (.int (r.pts a b)) H'
theorem atI_of {α : Type} {l : List α} {i : Int} {x : α} (h0 : 0 ≤ i) (h : l[i.toNat]? = some x) : atI l i = some x := by
  unfold atI ixN
  have : i.toNat < l.length := (List.getElem?_eq_some_iff.mp h).1
  rw [if_pos h0, if_pos (by omega)]
  exact h
theorem tab_at {rows : List (List Int)} {a b : Int} (ok : (R.tab rows).ok) (ha : 1 ≤ a) (hb : 1 ≤ b) (hs : a + b ≤ (R.tab rows).top) : ∃ r, rows[(a - 1).toNat]? = some r ∧ r[(b - 1).toNat]? = some ((R.tab rows).pts a b) := by
  obtain ⟨h1, h2, h3⟩ := ok
  have hs' : a + b ≤ (rows.length : Int) + 1 := hs
  have hi : (a - 1).toNat < rows.length := by omega
  have e := List.getElem?_eq_getElem hi
  refine ⟨_, e, ?_⟩
  obtain ⟨hl, _⟩ := h3 _ _ e
  have hj : (b - 1).toNat < (rows[(a - 1).toNat]).length := by omega
  show _ = some ((rows.getD (a - 1).toNat []).getD (b - 1).toNat 0)
  rw [List.getD_eq_getElem?_getD, List.getD_eq_getElem?_getD, e]
  show _ = some ((rows[(a - 1).toNat][(b - 1).toNat]?).getD 0)
  rw [List.getElem?_eq_getElem hj]
  rfl
def tval (a b : Int) (t : Int × Nat × Nat) : Int := t.1 * a ^ t.2.1 * b ^ t.2.2
theorem take_succ {α : Type} {l : List α} {i : Nat} {x : α} (h : l[i]? = some x) : l.take (i + 1) = l.take i ++ [x] := by
  rw [List.take_succ, h]
  rfl
/-- points_by: rule, first, second, number, one, other -/
def t_points_by (Γ : Gm) : TS := (tSeq (tIfS (tTest (tOp (rEqU Γ.K) (tFld Γ.K (tVar 0) "form") (tC (.str "table")))) (tRet (tOp (rIx Γ.K) (tOp (rIx Γ.K) (tFld Γ.K (tVar 0) "body") (tOp rSubI (tVar 1) (tC (.int 1)))) (tOp rSubI (tVar 2) (tC (.int 1))))) tNext)
  (tRet (tCB (rSum Γ.K) (tCons (tLc (iSeq Γ.K (tFld Γ.K (tVar 0) "body")) (gTup Γ.K 3 (gCons (gName 3) (gCons (gName 4) (gCons (gName 5) gNil)))) tYes (tOp (rMulU Γ.K) (tOp (rMulU Γ.K) (tVar 3) (tCal (sp_raised Γ) E0 (tCons (tVar 1) (tCons (tVar 4) tNil)))) (tCal (sp_raised Γ) E0 (tCons (tVar 2) (tCons (tVar 5) tNil)))) [3, 4, 5]) tNil))))
theorem rd_points_by (Γ : Gm) (F : RuleF Γ) (vs : List V) (H : Hp) (Q : VK) (E : XK) (h : sp_points_by Γ vs H Q E) : t_points_by Γ ⟨fun _ H' => Q .non H', Q, fun _ _ => False, fun _ _ => False⟩ (startN 6 vs) H := by
  obtain ⟨v, r, a, b, rfl, hr, ha, hb, hs, q⟩ := h
  unfold t_points_by
  walk_at "ss"
  refine w_form F hr ?_
  walk_at "ss"
  rw [kind_tab]
  have hok : r.ok := by obtain ⟨_, _, _, _, _, _, h⟩ := hr; exact h
  cases r with
  | tab rows =>
    refine w_iteT ?_
    walk_at "ss"
    refine w_body F hr fun bb xs hx ht => ?_
    obtain ⟨row, e1, e2⟩ := tab_at hok ha hb hs
    obtain ⟨a', ys, z1, z2, z3⟩ := ht.inv
    cases z1
    rw [hx] at z2
    cases z2
    obtain ⟨w, hw, tw⟩ := z3.get (i := (a - 1).toNat) (d := .tuple (row.map PyData.int)) (by rw [List.getElem?_map, e1]; rfl)
    obtain ⟨c, zs, rfl, hc, tc⟩ := tw.inv
    walk_at "ss"
    refine w_ixT (SqT.of hx) (atI_of (by omega) hw) ?_
    walk_at "ss"
    have ez := tc.ints
    subst ez
    refine w_ixT (SqT.of hc) (atI_of (by omega) (by rw [List.getElem?_map, e2]; rfl)) ?_
    exact q H (Same.refl H)
  | trm ts =>
    refine w_iteF ?_
    walk_at "ss"
    refine w_body F hr fun bb xs hx ht => ?_
    obtain ⟨a', ys, z1, z2, z3⟩ := ht.inv
    cases z1
    rw [hx] at z2
    cases z2
    refine k_seqT (SqT.of hx) ?_
    have hlen : xs.length = ts.length := by rw [z3.length, List.length_map]
    refine k_lcTup (fun i acc H' => acc = ((ts.take i).map (fun t => V.int (tval a b t)))) (SqT.of hx) (fun _ _ => rfl) ?_ ?_
    · rintro i x D acc H' hi hD e ha' rfl
      obtain ⟨d, hd, tx⟩ := z3.get' hi
      rw [List.getElem?_map] at hd
      obtain ⟨t, ht', rfl⟩ := Option.map_eq_some_iff.mp hd
      obtain ⟨c, zs, rfl, hc, tc⟩ := tx.inv
      have ez := tc.ints
      subst ez
      obtain ⟨n, i1, j1⟩ := t
      refine w_gTup (xs := [V.int n, V.int i1, V.int j1]) (SqT.of (e _ _ hc)) rfl ?_
      walk_at "ss"
      refine ⟨rfl, ?_⟩
      obtain ⟨hl6, hb6⟩ := hok
      have hm := hb6 _ (List.mem_of_getElem? ht')
      dsimp only at hm
      have top : a + b ≤ 1000000000000000000000000000000 := hs
      have ba : a.natAbs ≤ 2 ^ 100 := by omega
      have bb' : b.natAbs ≤ 2 ^ 100 := by omega
      walk_at "ss"
      refine ⟨a, i1, rfl, hm.2.2.1, by omega, ?_⟩
      have k1 : 100 * i1 ≤ 100 * 4 := Nat.mul_le_mul_left _ hm.2.2.1
      have k2 : 100 * j1 ≤ 100 * 4 := Nat.mul_le_mul_left _ hm.2.2.2
      have n1 : n.natAbs ≤ 2 ^ 20 := by omega
      refine w_mulI (cmul_of n1 (pow_nat ba)) ?_
      walk_at "ss"
      refine ⟨b, j1, rfl, hm.2.2.2, by omega, ?_⟩
      refine w_mulI (cmul_of (mul_nat n1 (pow_nat ba)) (pow_nat bb')) ?_
      refine lcTurn.mk hD e ha' (by rw [List.length_map, List.length_take]; omega) ?_
      rw [take_succ ht', List.map_append]
      rfl
    · rintro D acc H' hD e hacc rfl
      walk_at "ss"
      rw [hlen, List.take_length] at hacc
      refine w_sum (ns := ts.map (tval a b)) (SqL.of (by rw [List.map_map]; exact hacc)) ?_
      exact q H' e

/-! ### any values, as data -/
mutual
inductive Dv (H : Hp) : V → PyData → Prop
  | non : Dv H .non .none
  | bl (b : Bool) : Dv H (.bl b) (.bool b)
  | int (i : Int) : Dv H (.int i) (.int i)
  | str (x : Str) : Dv H (.str x) (.str x)
  | lst {a : Addr} {xs : List V} {ds : List PyData} : H a = some (.lst xs) → DvAll H xs ds → Dv H (.ref a) (.list ds)
  | tup {a : Addr} {xs : List V} {ds : List PyData} : H a = some (.tup xs) → DvAll H xs ds → Dv H (.ref a) (.tuple ds)
  | dict {a : Addr} {kvs : List (Key × V)} : H a = some (.dK kvs) → Dv H (.ref a) (.dict [])
inductive DvAll (H : Hp) : List V → List PyData → Prop
  | nil : DvAll H [] []
  | cons {v : V} {vs : List V} {d : PyData} {ds : List PyData} : Dv H v d → DvAll H vs ds → DvAll H (v :: vs) (d :: ds)
end
mutual
theorem Dv.mono {H H' : Hp} (e : Same H H') : ∀ {v : V} {d : PyData}, Dv H v d → Dv H' v d
  | _, _, .non => .non
  | _, _, .bl b => .bl b
  | _, _, .int i => .int i
  | _, _, .str x => .str x
  | _, _, .lst h k => .lst (e _ _ h) (DvAll.mono e k)
  | _, _, .tup h k => .tup (e _ _ h) (DvAll.mono e k)
  | _, _, .dict h => .dict (e _ _ h)
theorem DvAll.mono {H H' : Hp} (e : Same H H') : ∀ {vs : List V} {ds : List PyData}, DvAll H vs ds → DvAll H' vs ds
  | _, _, .nil => .nil
  | _, _, .cons h k => .cons (Dv.mono e h) (DvAll.mono e k)
end
mutual
theorem Tp.dv {H : Hp} : ∀ {v : V} {d : PyData}, Tp H v d → Dv H v d
  | _, _, .non => .non
  | _, _, .bl b => .bl b
  | _, _, .int i => .int i
  | _, _, .str x => .str x
  | _, _, .tup h k => .tup h (TpAll.dv k)
theorem TpAll.dv {H : Hp} : ∀ {vs : List V} {ds : List PyData}, TpAll H vs ds → DvAll H vs ds
  | _, _, .nil => .nil
  | _, _, .cons h k => .cons (Tp.dv h) (TpAll.dv k)
end
theorem DvAll.length {H : Hp} : ∀ {vs : List V} {ds : List PyData}, DvAll H vs ds → vs.length = ds.length
  | _, _, .nil => rfl
  | _, _, .cons _ k => by rw [List.length_cons, List.length_cons, DvAll.length k]
theorem DvAll.get {H : Hp} : ∀ {vs : List V} {ds : List PyData} {i : Nat} {d : PyData}, DvAll H vs ds → ds[i]? = some d → ∃ v, vs[i]? = some v ∧ Dv H v d
  | _, _, _, _, .nil, e => by simp at e
  | _, _, 0, _, .cons h _, e => by simp at e; subst e; exact ⟨_, rfl, h⟩
  | _, _, i + 1, _, .cons _ k, e => by
    obtain ⟨v, h1, h2⟩ := DvAll.get (i := i) k (by simpa using e)
    exact ⟨v, by simpa using h1, h2⟩
theorem DvAll.get' {H : Hp} : ∀ {vs : List V} {ds : List PyData} {i : Nat} {v : V}, DvAll H vs ds → vs[i]? = some v → ∃ d, ds[i]? = some d ∧ Dv H v d
  | _, _, _, _, .nil, e => by simp at e
  | _, _, 0, _, .cons h _, e => by simp at e; subst e; exact ⟨_, rfl, h⟩
  | _, _, i + 1, _, .cons _ k, e => by
    obtain ⟨v, h1, h2⟩ := DvAll.get' (i := i) k (by simpa using e)
    exact ⟨v, by simpa using h1, h2⟩
theorem Dv.tag {K : PySem.W.Frag} {H : Hp} {v : V} {d : PyData} (h : Dv H v d) : Tag K H v := by
  cases h with
  | non => exact .non
  | bl b => exact .bl b
  | int i => exact .int i
  | str x => exact .str x
  | lst h k => exact .lst h
  | tup h k => exact .tup h
  | dict h => exact .dK h
def tyD : PyData → String
  | .none => "NoneType"
  | .bool _ => "bool"
  | .int _ => "int"
  | .str _ => "str"
  | .list _ => "list"
  | .tuple _ => "tuple"
  | .dict _ => "dict"
theorem Dv.ty {H : Hp} {v : V} {d : PyData} (h : Dv H v d) (n : String) : isTy H n v = tyTab (tyD d) n := by
  cases h <;> simp only [isTy, tyN, tyD, *]
def inD (lo hi : Int) : PyData → Bool
  | .int n => decide (lo ≤ n) && decide (n ≤ hi)
  | _ => false
theorem Dv.inR {H : Hp} {v : V} {d : PyData} (h : Dv H v d) (lo hi : Int) : inR lo hi v = inD lo hi d := by cases h <;> rfl
theorem Dv.tupInv {H : Hp} {v : V} {ds : List PyData} (h : Dv H v (.tuple ds)) : ∃ a xs, v = .ref a ∧ H a = some (.tup xs) ∧ DvAll H xs ds := by
  cases h with
  | tup h k => exact ⟨_, _, rfl, h, k⟩
/-! ### what are rows, terms, rules -/
def rowOk (n i : Nat) : PyData → Bool
  | .tuple es => decide (es.length = n - i) && es.all (inD (-1000000) 1000000)
  | _ => false
def areRows : PyData → Bool
  | .tuple ds => decide (1 ≤ ds.length) && decide (ds.length < 40) && (List.range ds.length).all fun i => rowOk ds.length i (ds.getD i .none)
  | _ => false
def isTerm : PyData → Bool
  | .tuple [a, b, c] => inD (-1000000) 1000000 a && inD 0 4 b && inD 0 4 c
  | _ => false
def areTerms : PyData → Bool
  | .tuple ds => decide (ds.length ≤ 6) && ds.all isTerm
  | _ => false
def intD : PyData → Int
  | .int n => n
  | _ => 0
def intsD : PyData → List Int
  | .tuple es => es.map intD
  | _ => []
def rowsD : PyData → List (List Int)
  | .tuple ds => ds.map intsD
  | _ => []
def termD (d : PyData) : Int × Nat × Nat := ((intsD d).getD 0 0, ((intsD d).getD 1 0).toNat, ((intsD d).getD 2 0).toNat)
def termsD : PyData → List (Int × Nat × Nat)
  | .tuple ds => ds.map termD
  | _ => []
theorem ints_back {lo hi : Int} : ∀ {es : List PyData}, es.all (inD lo hi) = true → es = (es.map intD).map PyData.int ∧ ∀ n ∈ es.map intD, lo ≤ n ∧ n ≤ hi
  | [], _ => ⟨rfl, fun _ h => nomatch h⟩
  | e :: es, h => by
    rw [List.all_cons, Bool.and_eq_true] at h
    obtain ⟨h1, h2⟩ := h
    obtain ⟨i1, i2⟩ := ints_back h2
    cases e with
    | int n =>
      simp only [inD, Bool.and_eq_true, decide_eq_true_eq] at h1
      refine ⟨by rw [List.map_cons, List.map_cons, ← i1]; rfl, fun m hm => ?_⟩
      rw [List.map_cons, List.mem_cons] at hm
      rcases hm with rfl | hm
      · exact h1
      · exact i2 m hm
    | _ => simp [inD] at h1
theorem areRows_ok {d : PyData} (h : areRows d = true) : (R.tab (rowsD d)).body = d ∧ (R.tab (rowsD d)).ok := by
  cases d with
  | tuple ds =>
    simp only [areRows, Bool.and_eq_true, decide_eq_true_eq, List.all_eq_true, List.mem_range] at h
    obtain ⟨⟨h1, h2⟩, h3⟩ := h
    have key : ∀ (i : Nat) (d : PyData), ds[i]? = some d → d = .tuple ((intsD d).map PyData.int) ∧ (intsD d).length = ds.length - i ∧ ∀ n ∈ intsD d, -1000000 ≤ n ∧ n ≤ 1000000 := fun i d hd => by
      have hi : i < ds.length := (List.getElem?_eq_some_iff.mp hd).1
      have z := h3 i hi
      rw [List.getD_eq_getElem?_getD, hd] at z
      simp only [Option.getD_some] at z
      cases d with
      | tuple es =>
        simp only [rowOk, Bool.and_eq_true, decide_eq_true_eq] at z
        obtain ⟨e1, e2⟩ := ints_back z.2
        exact ⟨congrArg PyData.tuple e1, by simp only [intsD, List.length_map]; exact z.1, e2⟩
      | _ => simp [rowOk] at z
    refine ⟨congrArg PyData.tuple ?_, by simp only [rowsD, List.length_map]; exact h1, by simp only [rowsD, List.length_map]; exact h2, fun i r hr => ?_⟩
    · show (ds.map intsD).map (fun r => PyData.tuple (r.map PyData.int)) = ds
      rw [List.map_map]
      refine List.ext_getElem? fun i => ?_
      rw [List.getElem?_map]
      cases e : ds[i]? with
      | none => rfl
      | some d => exact congrArg some (key i d e).1.symm
    · simp only [rowsD, List.getElem?_map, List.length_map] at hr ⊢
      cases e : ds[i]? with
      | none => rw [e] at hr; cases hr
      | some d =>
        rw [e] at hr
        cases hr
        exact (key i d e).2
  | _ => simp [areRows] at h
theorem areTerms_ok {d : PyData} (h : areTerms d = true) : (R.trm (termsD d)).body = d ∧ (R.trm (termsD d)).ok := by
  cases d with
  | tuple ds =>
    simp only [areTerms, Bool.and_eq_true, decide_eq_true_eq, List.all_eq_true] at h
    obtain ⟨h1, h2⟩ := h
    have key : ∀ d ∈ ds, PyData.tuple ((tri (termD d)).map PyData.int) = d ∧ -1000000 ≤ (termD d).1 ∧ (termD d).1 ≤ 1000000 ∧ (termD d).2.1 ≤ 4 ∧ (termD d).2.2 ≤ 4 := fun d hd => by
      have z := h2 d hd
      unfold isTerm at z
      split at z
      · rename_i a b c
        simp only [Bool.and_eq_true] at z
        obtain ⟨⟨za, zb⟩, zc⟩ := z
        cases a with
        | int a =>
          cases b with
          | int b =>
            cases c with
            | int c =>
              simp only [inD, Bool.and_eq_true, decide_eq_true_eq] at za zb zc
              simp only [termD, intsD, intD, tri, List.map_cons, List.map_nil, List.getD_cons_zero, List.getD_cons_succ]
              refine ⟨?_, za.1, za.2, by omega, by omega⟩
              rw [Int.toNat_of_nonneg zb.1, Int.toNat_of_nonneg zc.1]
            | _ => simp [inD] at zc
          | _ => simp [inD] at zb
        | _ => simp [inD] at za
      · cases z
    refine ⟨congrArg PyData.tuple ?_, by simp only [termsD, List.length_map]; exact h1, fun t ht => ?_⟩
    · show (ds.map termD).map (fun t => PyData.tuple ((tri t).map PyData.int)) = ds
      rw [List.map_map]
      conv => rhs; rw [← List.map_id ds]
      exact List.map_congr_left fun d hd => (key d hd).1
    · simp only [termsD, List.mem_map] at ht
      obtain ⟨d, hd, rfl⟩ := ht
      exact (key d hd).2
  | _ => simp [areTerms] at h
def ruleOf (k d : PyData) : Option R := match k with
  | .str s => if s = "table" then (if areRows d then some (.tab (rowsD d)) else none) else if s = "terms" then (if areTerms d then some (.trm (termsD d)) else none) else none
  | _ => none
/-! ### are_rows, is_term, are_terms -/
def RetB (b : Bool) (H : Hp) (Q : VK) : Prop := ∀ H', Same H H' → Q (.bl b) H'
def sp_are_rows (Γ : Gm) : Sp := fun vs H Q _ => ∃ v d, vs = [v] ∧ Dv H v d ∧ RetB (areRows d) H Q
def sp_is_term (Γ : Gm) : Sp := fun vs H Q _ => ∃ v d, vs = [v] ∧ Dv H v d ∧ RetB (isTerm d) H Q
def sp_are_terms (Γ : Gm) : Sp := fun vs H Q _ => ∃ v d, vs = [v] ∧ Dv H v d ∧ RetB (areTerms d) H Q
theorem tupTy {d : PyData} (h : tyTab (tyD d) "tuple" = true) : ∃ ds, d = .tuple ds := by
  cases d with
  | tuple ds => exact ⟨ds, rfl⟩
  | _ => simp [tyD, tyTab] at h
theorem all_take {α : Type} {f : α → Bool} {l : List α} {i : Nat} {x : α} (h : l[i]? = some x) : (l.take (i + 1)).map f = (l.take i).map f ++ [f x] := by rw [take_succ h, List.map_append]; rfl
/-- are_rows: value, index, row, number -/
def t_are_rows (Γ : Gm) : TS := (tSeq (tIfS (tOr (tNot (tB (tCB (rIsi Γ.K) (tCons (tVar 0) (tCons (tC (.ty "tuple")) tNil))))) (tNot (tTest (tChain rLe rLt (tC (.int 1)) (tCB (rLen Γ.K) (tCons (tVar 0) tNil)) (tC (.int 40)))))) (tRet (tC (.bl false))) tNext)
  (tSeq (tFor (iEnumS Γ.K (tCons (tVar 0) tNil)) (gTup Γ.K 2 (gCons (gName 1) (gCons (gName 2) gNil))) (tSeq (tIfS (tOr (tNot (tB (tCB (rIsi Γ.K) (tCons (tVar 2) (tCons (tC (.ty "tuple")) tNil))))) (tTest (tOp (rNeU Γ.K) (tCB (rLen Γ.K) (tCons (tVar 2) tNil)) (tOp rSubI (tCB (rLen Γ.K) (tCons (tVar 0) tNil)) (tVar 1))))) (tRet (tC (.bl false))) tNext)
  (tIfS (tNot (tB (tCB (rAll Γ.K) (tCons (tLc (iSeq Γ.K (tVar 2)) (gName 3) tYes (tCal (sp_is_from Γ) E0 (tCons (tVar 3) (tCons (tOp rSubI (tC (.int 0)) (tC (.int 1000000))) (tCons (tC (.int 1000000)) tNil)))) [3]) tNil)))) (tRet (tC (.bl false))) tNext)))
  (tRet (tC (.bl true)))))
theorem rd_are_rows (Γ : Gm) (vs : List V) (H : Hp) (Q : VK) (E : XK) (h : sp_are_rows Γ vs H Q E) : t_are_rows Γ ⟨fun _ H' => Q .non H', Q, fun _ _ => False, fun _ _ => False⟩ (startN 4 vs) H := by
  obtain ⟨v, d, rfl, hd, q⟩ := h
  unfold t_are_rows
  walk_at "ss"
  refine w_isi hd.tag (by decide) ?_
  rw [hd.ty]
  walk_at "ss"
  refine w_ite (fun e => ?_) (fun e => ?_)
  · walk_at "ss"
    have : areRows d = false := by
      cases d with
      | tuple ds => exact absurd (show (!tyTab "tuple" "tuple") = true from e) (by decide)
      | _ => rfl
    rw [this] at q
    exact q H (Same.refl H)
  obtain ⟨ds, rfl⟩ := tupTy (by simpa using e)
  obtain ⟨a, xs, rfl, hx, tx⟩ := hd.tupInv
  have hl := tx.length
  walk_at "ss"
  refine w_lenT (SqT.of hx) ?_
  walk_at "ss"
  rw [hl]
  refine w_ite (fun e1 => ?_) (fun e1 => ?_)
  rotate_left
  · walk_at "ss"
    have : areRows (.tuple ds) = false := by
      simp only [decide_eq_false_iff_not] at e1
      simp only [areRows]
      rw [decide_eq_false (by omega)]
      rfl
    rw [this] at q
    exact q H (Same.refl H)
  walk_at "ss"
  simp only [decide_eq_true_eq] at e1
  refine w_ite (fun e2 => ?_) (fun e2 => ?_)
  · walk_at "ss"
    have : areRows (.tuple ds) = false := by
      simp only [Bool.not_eq_true', decide_eq_false_iff_not] at e2
      simp only [areRows]
      rw [decide_eq_true (by omega), decide_eq_false (by omega)]
      rfl
    rw [this] at q
    exact q H (Same.refl H)
  walk_at "ss"
  simp only [Bool.not_eq_false', decide_eq_true_eq] at e2
  refine k_enT (SqT.of hx) ?_
  refine k_enumT (fun i σ H' => ∃ x y z, σ = [some (.ref a), x, y, z] ∧ Same H H' ∧ ∀ j, j < i → rowOk ds.length j (ds.getD j .none) = true) ⟨none, none, none, rfl, Same.refl H, fun j hj => absurd hj (Nat.not_lt_zero _)⟩ (fun i σ H' _ ⟨_, _, _, _, e, _⟩ => SqT.of (e _ _ hx)) ?_ ?_
  · rintro i x σ H' T hi ⟨_, _, _, rfl, e, all⟩ hT
    obtain ⟨dx, hdx, tdx⟩ := tx.get' hi
    have hil : i < ds.length := (List.getElem?_eq_some_iff.mp hdx).1
    have eT := Same.new (o := .tup [.int (i : Nat), x]) hT
    refine w_gTup (xs := [.int (i : Nat), x]) (SqT.of upd_same) rfl ?_
    have tdx' := tdx.mono (e.trans eT)
    generalize upd H' T (.tup [.int (i : Nat), x]) = H1 at eT tdx' ⊢
    have e1' := e.trans eT
    have bad : rowOk ds.length i dx = false → Q (.bl false) H1 := fun z => by
      have : areRows (.tuple ds) = false := by
        simp only [areRows]
        rw [Bool.and_eq_false_iff]
        right
        rw [List.all_eq_false]
        refine ⟨i, List.mem_range.mpr hil, ?_⟩
        rw [List.getD_eq_getElem?_getD, hdx]
        simp [z]
      rw [this] at q
      exact q _ e1'
    walk_at "ss"
    refine w_isi tdx'.tag (by decide) ?_
    rw [tdx'.ty]
    walk_at "ss"
    refine w_ite (fun e => ?_) (fun e => ?_)
    · walk_at "ss"
      refine bad ?_
      cases dx with
      | tuple ds => exact absurd (show (!tyTab "tuple" "tuple") = true from e) (by decide)
      | _ => rfl
    obtain ⟨es, rfl⟩ := tupTy (by simpa using e)
    obtain ⟨c, ys, rfl, hy, ty⟩ := tdx'.tupInv
    walk_at "ss"
    refine w_lenT (SqT.of hy) ?_
    walk_at "ss"
    refine w_lenT (SqT.of (e1' _ _ hx)) ?_
    walk_at "ss"
    rw [hl, ty.length]
    refine w_ite (fun e3 => ?_) (fun e3 => ?_)
    · walk_at "ss"
      refine bad ?_
      simp only [Bool.not_eq_true', decide_eq_false_iff_not] at e3
      simp only [rowOk]
      rw [decide_eq_false (by omega)]
      rfl
    simp only [Bool.not_eq_false', decide_eq_true_eq] at e3
    walk_at "ss"
    refine k_seqT (SqT.of hy) ?_
    refine k_lcTup (fun i acc H' => acc = ((es.take i).map (inD (-1000000) 1000000)).map V.bl) (SqT.of hy) (fun _ _ => rfl) ?_ ?_
    · rintro j z D acc H2 hj hD e4 hacc rfl
      obtain ⟨dz, hdz, tdz⟩ := ty.get' hj
      walk_at "ss"
      refine ⟨rfl, ?_⟩
      walk_at "ss"
      refine ⟨z, _, _, rfl, (tdz.mono e4).tag, ?_⟩
      rw [tdz.inR]
      refine lcTurn.mk hD e4 hacc (by rw [List.length_map, List.length_map, List.length_take]; omega) ?_
      rw [all_take hdz, List.map_append]
      rfl
    · rintro D acc H2 hD e4 hacc rfl
      rw [ty.length, List.take_length] at hacc
      walk_at "ss"
      refine w_all (SqL.of hacc) ?_
      walk_at "ss"
      have ea : (es.map (inD (-1000000) 1000000)).all id = es.all (inD (-1000000) 1000000) := by rw [List.all_map]; rfl
      rw [ea]
      refine w_ite (fun e5 => ?_) (fun e5 => ?_)
      · walk_at "ss"
        have : areRows (.tuple ds) = false := by
          simp only [areRows]
          rw [Bool.and_eq_false_iff]
          right
          rw [List.all_eq_false]
          refine ⟨i, List.mem_range.mpr hil, ?_⟩
          rw [List.getD_eq_getElem?_getD, hdx]
          simp only [Option.getD_some, rowOk]
          simp only [Bool.not_eq_true'] at e5
          rw [e5, Bool.and_false]
          decide
        rw [this] at q
        exact q _ (e1'.trans e4)
      · walk_at "ss"
        refine ⟨_, _, _, rfl, e1'.trans e4, fun k hk => ?_⟩
        by_cases hki : k < i
        · exact all k hki
        · have : k = i := by omega
          subst this
          rw [List.getD_eq_getElem?_getD, hdx]
          simp only [Option.getD_some, rowOk]
          simp only [Bool.not_eq_false'] at e5
          rw [e5, decide_eq_true (by omega)]
          rfl
  · rintro σ H' ⟨_, _, _, rfl, e, all⟩
    walk_at "ss"
    have : areRows (.tuple ds) = true := by
      simp only [areRows]
      rw [decide_eq_true (by omega), decide_eq_true (by omega)]
      simp only [Bool.true_and, List.all_eq_true, List.mem_range]
      intro j hj
      exact all j (by omega)
    rw [this] at q
    exact q _ e
/-- is_term: value -/
def t_is_term (Γ : Gm) : TS := (tSeq (tIfS (tOr (tNot (tB (tCB (rIsi Γ.K) (tCons (tVar 0) (tCons (tC (.ty "tuple")) tNil))))) (tOr (tTest (tOp (rNeU Γ.K) (tCB (rLen Γ.K) (tCons (tVar 0) tNil)) (tC (.int 3)))) (tNot (tB (tCal (sp_is_from Γ) E0 (tCons (tOp (rIx Γ.K) (tVar 0) (tC (.int 0))) (tCons (tOp rSubI (tC (.int 0)) (tC (.int 1000000))) (tCons (tC (.int 1000000)) tNil)))))))) (tRet (tC (.bl false))) tNext)
  (tRet (tAndV (tCal (sp_is_from Γ) E0 (tCons (tOp (rIx Γ.K) (tVar 0) (tC (.int 1))) (tCons (tC (.int 0)) (tCons (tC (.int 4)) tNil)))) (tCal (sp_is_from Γ) E0 (tCons (tOp (rIx Γ.K) (tVar 0) (tC (.int 2))) (tCons (tC (.int 0)) (tCons (tC (.int 4)) tNil)))))))
theorem rd_is_term (Γ : Gm) (vs : List V) (H : Hp) (Q : VK) (E : XK) (h : sp_is_term Γ vs H Q E) : t_is_term Γ ⟨fun _ H' => Q .non H', Q, fun _ _ => False, fun _ _ => False⟩ (startN 1 vs) H := by
  obtain ⟨v, d, rfl, hd, q⟩ := h
  unfold t_is_term
  have bad : isTerm d = false → Q (.bl false) H := fun z => by
    rw [z] at q
    exact q H (Same.refl H)
  walk_at "ss"
  refine w_isi hd.tag (by decide) ?_
  rw [hd.ty]
  walk_at "ss"
  refine w_ite (fun e => ?_) (fun e => ?_)
  · walk_at "ss"
    refine bad ?_
    cases d with
    | tuple ds => exact absurd (show (!tyTab "tuple" "tuple") = true from e) (by decide)
    | _ => rfl
  obtain ⟨ds, rfl⟩ := tupTy (by simpa using e)
  obtain ⟨a, xs, rfl, hx, tx⟩ := hd.tupInv
  have hl := tx.length
  walk_at "ss"
  refine w_lenT (SqT.of hx) ?_
  walk_at "ss"
  rw [hl]
  refine w_ite (fun e1 => ?_) (fun e1 => ?_)
  · walk_at "ss"
    refine bad ?_
    simp only [Bool.not_eq_true', decide_eq_false_iff_not] at e1
    match ds, e1 with
    | [], _ => rfl
    | [_], _ => rfl
    | [_, _], _ => rfl
    | [_, _, _], e1 => exact absurd rfl e1
    | _ :: _ :: _ :: _ :: _, _ => rfl
  simp only [Bool.not_eq_false', decide_eq_true_eq] at e1
  match ds, e1, tx with
  | [d0, d1, d2], _, .cons (v := v0) t0 (.cons (v := v1) t1 (.cons (v := v2) t2 .nil)) =>
    walk_at "ss"
    refine w_ixT (SqT.of hx) (atI_of (by decide) rfl) ?_
    walk_at "ss"
    refine ⟨v0, _, _, rfl, t0.tag, ?_⟩
    rw [t0.inR]
    walk_at "ss"
    refine w_ite (fun e2 => ?_) (fun e2 => ?_)
    · walk_at "ss"
      refine bad ?_
      simp only [Bool.not_eq_true'] at e2
      have e2' : inD (-1000000) 1000000 d0 = false := e2
      simp only [isTerm, e2', Bool.false_and]
    walk_at "ss"
    simp only [Bool.not_eq_false'] at e2
    have e2' : inD (-1000000) 1000000 d0 = true := e2
    have q' : RetB (inD 0 4 d1 && inD 0 4 d2) H Q := by simpa only [isTerm, e2', Bool.true_and] using q
    refine w_ixT (SqT.of hx) (atI_of (by decide) rfl) ?_
    walk_at "ss"
    refine ⟨v1, _, _, rfl, t1.tag, ?_⟩
    rw [t1.inR]
    walk_at "ss"
    refine w_ite (fun e3 => ?_) (fun e3 => ?_)
    · rw [e3] at q'
      walk_at "ss"
      refine w_ixT (SqT.of hx) (atI_of (by decide) rfl) ?_
      walk_at "ss"
      refine ⟨v2, _, _, rfl, t2.tag, ?_⟩
      rw [t2.inR]
      exact q' H (Same.refl H)
    · rw [e3] at q'
      exact q' H (Same.refl H)
/-- are_terms: value, term -/
def t_are_terms (Γ : Gm) : TS := (tRet (tAndV (tCB (rIsi Γ.K) (tCons (tVar 0) (tCons (tC (.ty "tuple")) tNil))) (tAndV (tOp rLe (tCB (rLen Γ.K) (tCons (tVar 0) tNil)) (tC (.int 6))) (tCB (rAll Γ.K) (tCons (tLc (iSeq Γ.K (tVar 0)) (gName 1) tYes (tCal (sp_is_term Γ) E0 (tCons (tVar 1) tNil)) [1]) tNil)))))
theorem rd_are_terms (Γ : Gm) (vs : List V) (H : Hp) (Q : VK) (E : XK) (h : sp_are_terms Γ vs H Q E) : t_are_terms Γ ⟨fun _ H' => Q .non H', Q, fun _ _ => False, fun _ _ => False⟩ (startN 2 vs) H := by
  obtain ⟨v, d, rfl, hd, q⟩ := h
  unfold t_are_terms
  walk_at "ss"
  refine w_isi hd.tag (by decide) ?_
  rw [hd.ty]
  walk_at "ss"
  refine w_ite (fun e => ?_) (fun e => ?_)
  rotate_left
  · have : areTerms d = false := by
      cases d with
      | tuple ds => exact absurd (show tyTab "tuple" "tuple" = false from e) (by decide)
      | _ => rfl
    rw [this] at q
    exact q H (Same.refl H)
  obtain ⟨ds, rfl⟩ := tupTy e
  obtain ⟨a, xs, rfl, hx, tx⟩ := hd.tupInv
  walk_at "ss"
  refine w_lenT (SqT.of hx) ?_
  walk_at "ss"
  rw [tx.length]
  refine w_ite (fun e1 => ?_) (fun e1 => ?_)
  rotate_left
  · have : areTerms (.tuple ds) = false := by
      simp only [decide_eq_false_iff_not] at e1
      simp only [areTerms]
      rw [decide_eq_false (by omega)]
      rfl
    rw [this] at q
    exact q H (Same.refl H)
  simp only [decide_eq_true_eq] at e1
  walk_at "ss"
  refine k_seqT (SqT.of hx) ?_
  refine k_lcTup (fun i acc H' => acc = ((ds.take i).map isTerm).map V.bl) (SqT.of hx) (fun _ _ => rfl) ?_ ?_
  · rintro j z D acc H2 hj hD e4 hacc rfl
    obtain ⟨dz, hdz, tdz⟩ := tx.get' hj
    walk_at "ss"
    refine ⟨rfl, ?_⟩
    walk_at "ss"
    refine ⟨z, dz, rfl, tdz.mono e4, fun H3 e5 => ?_⟩
    refine lcTurn.mk hD (e4.trans e5) (e5 _ _ hacc) (by rw [List.length_map, List.length_map, List.length_take]; omega) ?_
    rw [all_take hdz, List.map_append]
    rfl
  · rintro D acc H2 hD e4 hacc rfl
    rw [tx.length, List.take_length] at hacc
    walk_at "ss"
    refine w_all (SqL.of hacc) ?_
    have ea : (ds.map isTerm).all id = areTerms (.tuple ds) := by
      simp only [areTerms]
      rw [List.all_map, decide_eq_true (by omega)]
      rfl
    rw [ea]
    exact q _ e4
/-! ### Rule -/
/-- behind Rule.__init__ -/
def sp_Rule_Uinit (Γ : Gm) : Sp := fun vs H Q E => ∃ p dx k dk v d, vs = [.ref p, k, v] ∧ H p = some (.ins Γ.cRule dx []) ∧ Dv H k dk ∧ Dv H v d ∧
  (ruleOf dk d = none → ∀ H', Same H H' → E (.ref Γ.cBadRule) none H') ∧
  (∀ r s b, ruleOf dk d = some r → dk = .str s → v = .ref b → r.kind = s → r.body = d → r.ok → ∀ H', (∀ b o, b ≠ p → H b = some o → H' b = some o) → H' p = some (.ins Γ.cRule dx (rfl2 s b)) → Q .non H')

theorem dv_str {H : Hp} {k : V} {s : Str} (h : Dv H k (.str s)) : k = .str s := by cases h; rfl
theorem strTy {d : PyData} (h : tyTab (tyD d) "str" = true) : ∃ s, d = .str s := by
  cases d with
  | str s => exact ⟨s, rfl⟩
  | _ => simp [tyD, tyTab] at h
theorem inV_str (s a b : Str) : inV (.str s) [.str a, .str b] = (decide (s = a) || decide (s = b)) := by
  simp only [inV, List.any_cons, List.any_nil, eqV, Bool.or_false]
  have h : ∀ x y : Str, (x == y) = decide (y = x) := fun x y => by
    by_cases e : x = y
    · subst e; simp
    · rw [decide_eq_false (fun z => e z.symm)]; simpa using e
  rw [h, h]
theorem ruleOf_kind {s : Str} {d : PyData} {r : R} (h : ruleOf (.str s) d = some r) : r.kind = s ∧ r.body = d ∧ r.ok := by
  simp only [ruleOf] at h
  split at h
  · rename_i e
    split at h
    · rename_i e2
      cases h
      obtain ⟨h1, h2⟩ := areRows_ok e2
      exact ⟨e.symm, h1, h2⟩
    · cases h
  · split at h
    · rename_i e
      split at h
      · rename_i e2
        cases h
        obtain ⟨h1, h2⟩ := areTerms_ok e2
        exact ⟨e.symm, h1, h2⟩
      · cases h
    · cases h
/-- the way out of Rule.__init__, its ends -/
structure InitK (Γ : Gm) (p dx : Addr) (dk d : PyData) (v : V) (H : Hp) (Q : VK) (E : XK) : Prop where
  bad : ruleOf dk d = none → ∀ H', Same H H' → E (.ref Γ.cBadRule) none H'
  good : ∀ r s b, ruleOf dk d = some r → dk = .str s → v = .ref b → r.kind = s → r.body = d → r.ok → ∀ H', (∀ b o, b ≠ p → H b = some o → H' b = some o) → H' p = some (.ins Γ.cRule dx (rfl2 s b)) → Q .non H'
def sp_RuleU_initU (Γ : Gm) : Sp := fun vs H Q E => ∃ p dx k dk v d, vs = [.ref p, k, v] ∧ H p = some (.ins Γ.cRule dx []) ∧ Dv H k dk ∧ Dv H v d ∧ InitK Γ p dx dk d v H Q E
/-- Rule __init__: self, kind, parts -/
def t_RuleU_initU (Γ : Gm) (E : XK) : TS := (tSeq (tIfS (tOr (tNot (tB (tCB (rIsi Γ.K) (tCons (tVar 1) (tCons (tC (.ty "str")) tNil))))) (tTest (tOp (rNotInU Γ.K) (tVar 1) (tTup (tCons (tC (.str "table")) (tCons (tC (.str "terms")) tNil)))))) (tRaise Γ.cBadRule (fun cls d _ H => E cls d H)) tNext)
  (tSeq (tIfS (tNot (tIfT (tTest (tOp (rEqU Γ.K) (tVar 1) (tC (.str "table")))) (tB (tCal (sp_are_rows Γ) E0 (tCons (tVar 2) tNil))) (tB (tCal (sp_are_terms Γ) E0 (tCons (tVar 2) tNil))))) (tRaise Γ.cBadRule (fun cls d _ H => E cls d H)) tNext)
  (tSeq (sFld Γ.K (tVar 0) (tVar 1) "form")
  (sFld Γ.K (tVar 0) (tVar 2) "body"))))
theorem rd_RuleU_initU (Γ : Gm) (F : RuleF Γ) (vs : List V) (H : Hp) (Q : VK) (E : XK) (h : sp_RuleU_initU Γ vs H Q E) : t_RuleU_initU Γ E ⟨fun _ H' => Q .non H', Q, fun _ _ => False, fun _ _ => False⟩ (startN 3 vs) H := by
  obtain ⟨p, dx, k, dk, v, d, rfl, hp, hk, hd, q⟩ := h
  unfold t_RuleU_initU
  walk_at "ss"
  refine w_isi hk.tag (by decide) ?_
  rw [hk.ty]
  walk_at "ss"
  refine w_ite (fun e => ?_) (fun e => ?_)
  · walk_at "ss"
    refine q.bad ?_ H (Same.refl H)
    cases dk with
    | str s => exact absurd (show (!tyTab "str" "str") = true from e) (by decide)
    | _ => rfl
  obtain ⟨s, rfl⟩ := strTy (by simpa using e)
  have ek := dv_str hk
  subst ek
  walk_at "ss"
  refine n_tup fun t H1 ht e1 h1 => ?_
  refine w_in2 (w_inT (SqT.of h1) rfl rfl ?_)
  walk_at "ss"
  rw [if_pos rfl, inV_str]
  refine w_ite (fun e2 => ?_) (fun e2 => ?_)
  · walk_at "ss"
    refine q.bad ?_ H1 e1
    simp only [Bool.not_eq_true', Bool.or_eq_false_iff, decide_eq_false_iff_not] at e2
    simp only [ruleOf]
    rw [if_neg e2.1, if_neg e2.2]
  have hd1 := hd.mono e1
  have hp1 := e1 _ _ hp
  -- the two stores
  have fin : ∀ r, ruleOf (.str s) d = some r → ∀ H2, Same H H2 → (tSeq (sFld Γ.K (tVar 0) (tVar 1) "form") (sFld Γ.K (tVar 0) (tVar 2) "body")) ⟨fun _ H' => Q .non H', Q, fun _ _ => False, fun _ _ => False⟩ (startN 3 [.ref p, .str s, v]) H2 := fun r hr H2 e2 => by
    obtain ⟨z1, z2, z3⟩ := ruleOf_kind hr
    walk_at "ss"
    refine k_sfld (e2 _ _ hp) F.cl F.nF (by decide) ?_
    walk_at "ss"
    refine k_sfld upd_same F.cl F.nB (show 1 < 1000 from by decide) ?_
    walk_at "ss"
    obtain ⟨b, eb⟩ : ∃ b, v = .ref b := by
      subst z2
      cases r <;> (cases hd with | tup h k => exact ⟨_, rfl⟩)
    subst eb
    refine q.good r s b hr rfl rfl z1 z2 z3 _ (fun c o hc ho => ?_) upd_same
    rw [upd_ne hc, upd_ne hc]
    exact e2 _ _ ho
  walk_at "ss"
  refine w_ite (fun e3 => ?_) (fun e3 => ?_)
  · have es : s = "table" := of_decide_eq_true e3
    walk_at "ss"
    refine ⟨v, d, rfl, hd1, fun H2 e4 => ?_⟩
    walk_at "ss"
    have er : ruleOf (.str s) d = if areRows d then some (.tab (rowsD d)) else none := by
      simp only [ruleOf]
      rw [if_pos es]
    refine w_ite (fun e5 => ?_) (fun e5 => ?_)
    · walk_at "ss"
      refine q.bad ?_ H2 (e1.trans e4)
      rw [er, if_neg (by simpa using e5)]
    · exact fin _ (by rw [er, if_pos (by simpa using e5)]) H2 (e1.trans e4)
  · have es : ¬ s = "table" := of_decide_eq_false e3
    have es2 : s = "terms" := by
      simp only [Bool.not_eq_false', Bool.or_eq_true, decide_eq_true_eq] at e2
      exact e2.resolve_left es
    walk_at "ss"
    refine ⟨v, d, rfl, hd1, fun H2 e4 => ?_⟩
    walk_at "ss"
    have er : ruleOf (.str s) d = if areTerms d then some (.trm (termsD d)) else none := by
      simp only [ruleOf]
      rw [if_neg es, if_pos es2]
    refine w_ite (fun e5 => ?_) (fun e5 => ?_)
    · walk_at "ss"
      refine q.bad ?_ H2 (e1.trans e4)
      rw [er, if_neg (by simpa using e5)]
    · exact fin _ (by rw [er, if_pos (by simpa using e5)]) H2 (e1.trans e4)
/-! ### check_heap -/
/-- is a value a heap up to a bound -/
def heapOk (r : R) (most : Int) (d : PyData) : Bool := inD 1 (if r.top < most then r.top else most) d
def sp_check_heap (Γ : Gm) : Sp := fun vs H Q E => ∃ v r x d most, vs = [v, x, .int most] ∧ RuleAt Γ H v r ∧ Dv H x d ∧ (heapOk r most d = false → E (.ref Γ.cBadHeap) none H) ∧ (heapOk r most d = true → Q .non H)
/-- check_heap: rule, heap, most -/
def t_check_heap (Γ : Gm) (E : XK) : TS := (tIfS (tNot (tB (tCal (sp_is_from Γ) E0 (tCons (tVar 1) (tCons (tC (.int 1)) (tCons (tCB rMin2 (tCons (tVar 2) (tCons (tCal (sp_most_of Γ) E0 (tCons (tVar 0) tNil)) tNil))) tNil)))))) (tRaise Γ.cBadHeap (fun cls d _ H => E cls d H)) tNext)
theorem rd_check_heap (Γ : Gm) (vs : List V) (H : Hp) (Q : VK) (E : XK) (h : sp_check_heap Γ vs H Q E) : t_check_heap Γ E ⟨fun _ H' => Q .non H', Q, fun _ _ => False, fun _ _ => False⟩ (startN 3 vs) H := by
  obtain ⟨v, r, x, d, most, rfl, hr, hd, k1, k2⟩ := h
  unfold t_check_heap
  walk_at "ss"
  refine ⟨v, r, rfl, hr, ?_⟩
  walk_at "ss"
  refine ⟨x, 1, _, rfl, hd.tag, ?_⟩
  rw [hd.inR]
  walk_at "ss"
  refine w_ite (fun e => ?_) (fun e => ?_)
  · walk_at "ss"
    exact k1 (by simpa [heapOk] using e)
  · walk_at "ss"
    exact k2 (by simpa [heapOk] using e)
/-! ### drawing -/
/-- the script -/
def sp__law_random (Γ : Gm) : Sp := fun vs H Q _ => ∃ (a : Addr) (ns : List Int) (s : Int), vs = [.ref a, .int s] ∧ SqL Γ.K H a (ns.map V.int) ∧ ns.length ≤ 63 ∧ 0 ≤ s ∧ s < 2147483647 ∧ ∀ d H', H d = none → Same H H' → H' d = some (dO d) → Q (.ref d) H'
/-- law_random: _law_script, _law_salt, _law_seed, _law_cell -/
def t__law_random (Γ : Gm) : TS := tShut DS (tSeq (tAsg (tVar 1) (gName 2))
  (tSeq (tFor (iSeq Γ.K (tVar 0)) (gName 3) (tAsg (tOp rModI (tCB rInt1 (tCons (tOp (rAddU Γ.K) (tOp (rMulU Γ.K) (tVar 2) (tC (.int 31))) (tCB rAbs (tCons (tVar 3) tNil))) tNil)) (tC (.int 2147483647))) (gName 2)))
  (tRet (tOp (rAddU Γ.K) (tLst (tCons (tVar 2) (tCons (tC (.int 0)) tNil))) (tLc (iSeq Γ.K (tVar 0)) (gName 3) (tTest (tOp rGe (tVar 3) (tOp rPowI (tC (.int 10)) (tC (.int 18))))) (tVar 3) [3])))))
theorem rd__law_random (Γ : Gm) (vs : List V) (H : Hp) (Q : VK) (E : XK) (h : sp__law_random Γ vs H Q E) : t__law_random Γ ⟨fun _ H' => Q .non H', Q, fun _ _ => False, fun _ _ => False⟩ (startN 4 vs) H := by
  obtain ⟨a, ns, s, rfl, hS, hl, hs, hs2, k⟩ := h
  unfold t__law_random
  unfold tShut
  walk_at "ss"
  refine k_seqL hS ?_
  refine k_list (xs := ns.map V.int) (fun i σ H' => ∃ s' v, σ = [some (.ref a), some (.int s), some (.int s'), v] ∧ H' = H ∧ 0 ≤ s' ∧ s' < 2147483647) ⟨s, none, rfl, rfl, hs, hs2⟩ (fun i σ H' _ ⟨_, _, _, e, _⟩ => by rw [e]; exact hS) ?_ ?_
  · rintro i x σ H' hi ⟨s', v, rfl, rfl, h1, h2⟩
    rw [List.getElem?_map] at hi
    obtain ⟨n, hn, rfl⟩ := Option.map_eq_some_iff.mp hi
    walk_at "ss"
    exact ⟨_, _, rfl, rfl, Int.emod_nonneg _ (by decide), Int.emod_lt_of_pos _ (by decide)⟩
  · rintro σ H' ⟨s', v, rfl, rfl, h1, h2⟩
    walk_at "ss"
    refine n_lst fun l1 H1 hl1 e1 h1' => ?_
    walk_at "ss"
    refine k_seqL (e1.seq hS) ?_
    refine k_lcListT (fun i acc H' => ∃ ms : List Int, acc = ms.map V.int ∧ ms.length ≤ i) (e1.seq hS) (fun _ _ => ⟨[], rfl, Nat.le_refl _⟩) ?_ ?_
    · rintro i x D acc H2 hi hD e2 hacc ⟨ms, rfl, hms⟩
      have hil : i < ns.length := by
        have := (List.getElem?_eq_some_iff.mp hi).1
        simpa using this
      rw [List.getElem?_map] at hi
      obtain ⟨n, hn, rfl⟩ := Option.map_eq_some_iff.mp hi
      walk_at "ss"
      refine ⟨rfl, ?_⟩
      walk_at "ss"
      refine w_powI ⟨by decide, by decide, by decide⟩ ?_
      walk_at "ss"
      refine w_ite (fun e => ?_) (fun e => ?_)
      · walk_at "ss"
        refine lcTurn.mk hD e2 hacc (by rw [List.length_map]; omega) ⟨ms ++ [n], by rw [List.map_append]; rfl, by rw [List.length_append]; exact Nat.succ_le_succ hms⟩
      · exact ⟨_, hD, e2, hacc, ms, rfl, Nat.le_succ_of_le hms⟩
    · rintro D acc H2 hD e2 hacc ⟨ms, rfl, hms⟩
      rw [List.length_map] at hms
      refine w_addL (e2 _ _ h1') hacc (by simp only [List.length_cons, List.length_nil, List.length_map]; exact Nat.le_trans (m := 100) (by omega) (by decide)) fun p H3 hp e3 h3 => ?_
      refine ⟨p, s' :: 0 :: ms, rfl, h3, ⟨s', 0, ms, rfl, h1, h2, by omega⟩, ?_⟩
      have e4 := (e1.trans e2).trans e3
      exact k p _ (((e1.trans e2)).free hp) (Same.mut e4 ((e1.trans e2).free hp)) upd_same
/-- one of a list's items -/
def sp__law_pick (Γ : Gm) : Sp := fun vs H Q _ => ∃ (d l : Addr) (xs : List V), vs = [.ref d, .ref l] ∧ H d = some (dO d) ∧ SqL Γ.K H l xs ∧ 0 < xs.length ∧ xs.length ≤ 100000 ∧ ∀ (i : Nat) x, xs[i]? = some x → Q x H
/-- law_pick: _law_d, _law_items -/
def t__law_pick (Γ : Gm) : TS := (tRet (tOp (rIx Γ.K) (tVar 1) (tCal (sp__law_below Γ) E0 (tCons (tVar 0) (tCons (tCB (rLen Γ.K) (tCons (tVar 1) tNil)) tNil)))))
theorem rd__law_pick (Γ : Gm) (vs : List V) (H : Hp) (Q : VK) (E : XK) (h : sp__law_pick Γ vs H Q E) : t__law_pick Γ ⟨fun _ H' => Q .non H', Q, fun _ _ => False, fun _ _ => False⟩ (startN 2 vs) H := by
  obtain ⟨d, l, xs, rfl, hd, hl, h0, hm, k⟩ := h
  unfold t__law_pick
  walk_at "ss"
  refine w_lenL hl ?_
  walk_at "ss"
  refine ⟨d, _, rfl, hd, by omega, by omega, fun r h1 h2 => ?_⟩
  have hi : r.toNat < xs.length := by omega
  refine w_ixL hl (atI_of h1 (List.getElem?_eq_getElem hi)) ?_
  exact k _ _ (List.getElem?_eq_getElem hi)

theorem w_below {Γ : Gm} {d : Addr} {n : Int} {H : Hp} {Q : VK} {E : XK} (hd : H d = some (dO d)) (h0 : 0 < n) (h1 : n < 2 ^ 200) (k : ∀ r : Int, 0 ≤ r → r < n → Q (.int r) H) : sp__law_below Γ [.ref d, .int n] H Q E := ⟨d, n, rfl, hd, h0, h1, k⟩
theorem w_pick {Γ : Gm} {d l : Addr} {xs : List V} {H : Hp} {Q : VK} {E : XK} (hd : H d = some (dO d)) (hl : SqL Γ.K H l xs) (k : ∀ (i : Nat) x, xs[i]? = some x → Q x H) (h0 : 0 < xs.length ∧ xs.length ≤ 100000 := by simp only [List.length_cons, List.length_nil]; decide) : sp__law_pick Γ [.ref d, .ref l] H Q E := ⟨d, l, xs, rfl, hd, hl, h0.1, h0.2, k⟩
theorem w_pickI {Γ : Gm} {d l : Addr} {ns : List Int} {H : Hp} {Q : VK} {E : XK} (hd : H d = some (dO d)) (hl : H l = some (.lst (ns.map V.int))) (k : ∀ m ∈ ns, Q (.int m) H) (h0 : 0 < ns.length ∧ ns.length ≤ 100000 := by simp only [List.length_cons, List.length_nil]; decide) : sp__law_pick Γ [.ref d, .ref l] H Q E :=
  ⟨d, l, _, rfl, hd, SqL.of hl, by simpa using h0.1, by simpa using h0.2, fun i x hx => by
    rw [List.getElem?_map] at hx
    obtain ⟨m, hm, rfl⟩ := Option.map_eq_some_iff.mp hx
    exact k m (List.mem_of_getElem? hm)⟩
/-! ### terms -/
def okT (t : Int × Nat × Nat) : Prop := -1000000 ≤ t.1 ∧ t.1 ≤ 1000000 ∧ t.2.1 ≤ 4 ∧ t.2.2 ≤ 4
def tt (t : Int × Nat × Nat) : PyData := .tuple ((tri t).map PyData.int)
def TL (H : Hp) (v : V) (ts : List (Int × Nat × Nat)) (n : Nat) : Prop := Tp H v (.tuple (ts.map tt)) ∧ (∀ t ∈ ts, okT t) ∧ ts.length ≤ n
theorem TL.mono {H H' : Hp} {v : V} {ts : List (Int × Nat × Nat)} {n : Nat} (e : Same H H') (h : TL H v ts n) : TL H' v ts n := ⟨h.1.mono (Same.tups e), h.2⟩
theorem TL.weak {H : Hp} {v : V} {ts : List (Int × Nat × Nat)} {n m : Nat} (h : TL H v ts n) (e : n ≤ m) : TL H v ts m := ⟨h.1, h.2.1, Nat.le_trans h.2.2 e⟩
theorem tp_t {H : Hp} {p : Addr} {n : Int} {i j : Int} (hi : 0 ≤ i) (hj : 0 ≤ j) (h : H p = some (.tup [.int n, .int i, .int j])) : Tp H (.ref p) (tt (n, i.toNat, j.toNat)) := by
  refine .tup h ?_
  show TpAll H _ [PyData.int n, PyData.int (i.toNat : Int), PyData.int (j.toNat : Int)]
  rw [Int.toNat_of_nonneg hi, Int.toNat_of_nonneg hj]
  exact .cons (.int n) (.cons (.int i) (.cons (.int j) .nil))
theorem TL.nil {H : Hp} {p : Addr} {n : Nat} (h : H p = some (.tup [])) : TL H (.ref p) [] n := ⟨.tup h .nil, (fun _ z => nomatch z), Nat.zero_le _⟩
theorem TL.mk {H : Hp} {p : Addr} {vs : List V} {ts : List (Int × Nat × Nat)} {n : Nat} (h : H p = some (.tup vs)) (k : TpAll H vs (ts.map tt)) (ok : ∀ t ∈ ts, okT t) (hl : ts.length ≤ n) : TL H (.ref p) ts n := ⟨.tup h k, ok, hl⟩
theorem w_addT {K : PySem.W.Frag} {H : Hp} {Q : VK} {v w : V} {ds es : List PyData} (hv : Tp H v (.tuple ds)) (hw : Tp H w (.tuple es)) (hz : ds.length + es.length ≤ 100000) (h : ∀ u H', Same H H' → Tp H' u (.tuple (ds ++ es)) → Q u H') : rAddU K v w H Q := by
  obtain ⟨a, xs, rfl, ha, ta⟩ := hv.inv
  obtain ⟨b, ys, rfl, hb, tb⟩ := hw.inv
  refine .inr (.inr (.inl ⟨a, b, xs, ys, rfl, rfl, SqT.of ha, SqT.of hb, ?_, ?_⟩))
  · rw [ta.length, tb.length]
    exact Nat.le_trans hz (by decide)
  · cases xs with
    | nil =>
      have ed : ds = [] := by cases ta; rfl
      subst ed
      refine ⟨fun _ => h _ H (Same.refl H) hw, fun z => absurd rfl z, fun z => absurd rfl z⟩
    | cons x xs =>
      refine ⟨(fun z => nomatch z), fun _ z => ?_, fun _ z p hp => ?_⟩
      · have ee : es = [] := by subst z; cases tb; rfl
        subst ee
        rw [List.append_nil] at h
        exact h _ H (Same.refl H) hv
      · have e := Same.new (o := .tup (x :: xs ++ ys)) hp
        exact h _ _ e (.tup upd_same ((ta.mono (Same.tups e)).append (tb.mono (Same.tups e))))
def sp__law_terms (Γ : Gm) : Sp := fun vs H Q _ => ∃ (d : Addr), vs = [.ref d] ∧ H d = some (dO d) ∧ ∀ v ts H', Same H H' → Tp H' v (R.trm ts).body → (R.trm ts).ok → Q v H'
theorem w_sl6 {K : PySem.W.Frag} {H : Hp} {Q : VK} {v : V} {ds : List PyData} (hv : Tp H v (.tuple ds)) (h : ∀ u H', Same H H' → Tp H' u (.tuple (ds.take 6)) → Q u H') : rSlU K v none (some 6) H Q := by
  obtain ⟨a, xs, rfl, ha, ta⟩ := hv.inv
  refine .inr (.inl ⟨a, xs, rfl, SqT.of ha, ?_, ?_⟩)
  · rintro ⟨_, z⟩
    have hl : xs.length ≤ 6 := by
      unfold HT.sIx at z
      simp only at z
      rw [if_neg (by decide)] at z
      have : (6 : Int).toNat = 6 := rfl
      omega
    rw [ta.length] at hl
    have := h (.ref a) H (Same.refl H)
    rw [List.take_of_length_le hl] at this
    exact this hv
  · intro z p hp
    have e := Same.new (o := .tup (cutV xs none (some 6))) hp
    have ec : cutV xs none (some 6) = xs.take 6 := by
      unfold cutV HT.sIx
      simp
    rw [ec] at e ⊢
    refine h _ _ e (.tup upd_same ?_)
    have tk : ∀ (n : Nat) {vs : List V} {ds : List PyData}, TpAll H vs ds → TpAll H (vs.take n) (ds.take n) := by
      intro n
      induction n with
      | zero => intro vs ds _; exact .nil
      | succ n ih =>
        intro vs ds t
        cases t with
        | nil => exact .nil
        | cons h k => exact .cons h (ih k)
    exact (tk 6 ta).mono (Same.tups e)
theorem app_tt {ts us : List (Int × Nat × Nat)} : (ts ++ us).map tt = ts.map tt ++ us.map tt := List.map_append
/-- law_terms: _law_d, _law_number, _law_kind, _law_found -/
def t__law_terms (Γ : Gm) : TS := (tSeq (tPar 1 2 (tCons (tCal (sp__law_pick Γ) E0 (tCons (tVar 0) (tCons (tLst (tCons (tC (.int 1)) (tCons (tUn (rU fun i => .int (-i)) (tC (.int 1))) (tCons (tC (.int 2)) (tCons (tC (.int 7)) (tCons (tC (.int 999)) tNil)))))) tNil))) (tCons (tCal (sp__law_below Γ) E0 (tCons (tVar 0) (tCons (tC (.int 7)) tNil))) tNil)))
  (tSeq (tAsg (tOp (rIx Γ.K) (tLst (tCons (tTup tNil) (tCons (tTup (tCons (tTup (tCons (tVar 1) (tCons (tC (.int 0)) (tCons (tC (.int 0)) tNil)))) tNil)) (tCons (tTup (tCons (tTup (tCons (tVar 1) (tCons (tC (.int 1)) (tCons (tC (.int 1)) tNil)))) tNil)) (tCons (tTup (tCons (tTup (tCons (tOp (rMulU Γ.K) (tC (.int 3)) (tVar 1)) (tCons (tC (.int 2)) (tCons (tC (.int 1)) tNil)))) (tCons (tTup (tCons (tOp (rMulU Γ.K) (tC (.int 3)) (tVar 1)) (tCons (tC (.int 1)) (tCons (tC (.int 2)) tNil)))) tNil))) tNil))))) (tCB rMin2 (tCons (tVar 2) (tCons (tC (.int 3)) tNil)))) (gName 3))
  (tCut (tIfS (tTest (tOp (rEqU Γ.K) (tVar 2) (tC (.int 4)))) (tAsg (tTup (tCons (tTup (tCons (tOp (rMulU Γ.K) (tC (.int 4)) (tVar 1)) (tCons (tC (.int 3)) (tCons (tC (.int 1)) tNil)))) (tCons (tTup (tCons (tOp (rMulU Γ.K) (tC (.int 6)) (tVar 1)) (tCons (tC (.int 2)) (tCons (tC (.int 2)) tNil)))) (tCons (tTup (tCons (tOp (rMulU Γ.K) (tC (.int 4)) (tVar 1)) (tCons (tC (.int 1)) (tCons (tC (.int 3)) tNil)))) tNil)))) (gName 3)) tNext)
  (tCut (tIfS (tTest (tOp (rEqU Γ.K) (tVar 2) (tC (.int 5)))) (tAsg (tTup (tCons (tTup (tCons (tOp (rMulU Γ.K) (tC (.int 5)) (tVar 1)) (tCons (tC (.int 4)) (tCons (tC (.int 1)) tNil)))) (tCons (tTup (tCons (tOp (rMulU Γ.K) (tC (.int 10)) (tVar 1)) (tCons (tC (.int 3)) (tCons (tC (.int 2)) tNil)))) (tCons (tTup (tCons (tOp (rMulU Γ.K) (tC (.int 10)) (tVar 1)) (tCons (tC (.int 2)) (tCons (tC (.int 3)) tNil)))) (tCons (tTup (tCons (tOp (rMulU Γ.K) (tC (.int 5)) (tVar 1)) (tCons (tC (.int 1)) (tCons (tC (.int 4)) tNil)))) tNil))))) (gName 3)) tNext)
  (tCut (tIfS (tOr (tTest (tOp (rEqU Γ.K) (tCal (sp__law_below Γ) E0 (tCons (tVar 0) (tCons (tC (.int 3)) tNil))) (tC (.int 0)))) (tTest (tOp (rEqU Γ.K) (tVar 2) (tC (.int 6))))) (tAsg (tOp (rAddU Γ.K) (tVar 3) (tTup (tCons (tTup (tCons (tOp rSubI (tCal (sp__law_below Γ) E0 (tCons (tVar 0) (tCons (tC (.int 5)) tNil))) (tC (.int 2))) (tCons (tCal (sp__law_below Γ) E0 (tCons (tVar 0) (tCons (tC (.int 5)) tNil))) (tCons (tCal (sp__law_below Γ) E0 (tCons (tVar 0) (tCons (tC (.int 5)) tNil))) tNil)))) tNil))) (gName 3)) tNext)
  (tCut (tIfS (tTest (tOp (rEqU Γ.K) (tCal (sp__law_below Γ) E0 (tCons (tVar 0) (tCons (tC (.int 6)) tNil))) (tC (.int 0)))) (tAsg (tOp (rAddU Γ.K) (tCal (sp__law_pick Γ) E0 (tCons (tVar 0) (tCons (tLst (tCons (tVar 3) (tCons (tTup tNil) tNil))) tNil))) (tTup (tCons (tTup (tCons (tOp (rMulU Γ.K) (tC (.int 15)) (tVar 1)) (tCons (tC (.int 2)) (tCons (tC (.int 2)) tNil)))) (tCons (tTup (tCons (tOp (rMulU Γ.K) (tUn (rU fun i => .int (-i)) (tC (.int 2))) (tVar 1)) (tCons (tC (.int 3)) (tCons (tC (.int 3)) tNil)))) tNil)))) (gName 3)) tNext)
  (tRet (tSl (rSlU Γ.K) (tVar 3) tNoPart (tPart (tC (.int 6)))))))))))
theorem rd__law_terms (Γ : Gm) (vs : List V) (H : Hp) (Q : VK) (E : XK) (h : sp__law_terms Γ vs H Q E) : t__law_terms Γ ⟨fun _ H' => Q .non H', Q, fun _ _ => False, fun _ _ => False⟩ (startN 4 vs) H := by
  obtain ⟨d, rfl, hd, q⟩ := h
  unfold t__law_terms
  walk_at "ss"
  refine n_lst fun l1 H1 _ e1 h1 => ?_
  walk_at "ss"
  have hd1 := e1 _ _ hd
  refine w_pickI (ns := [1, -1, 2, 7, 999]) hd1 h1 fun num hnum => ?_
  have hb : -999 ≤ num ∧ num ≤ 999 := by
    simp only [List.mem_cons, List.not_mem_nil, or_false] at hnum
    rcases hnum with rfl | rfl | rfl | rfl | rfl <;> decide
  clear hnum
  walk_at "ss"
  refine w_below hd1 (by decide) (by decide) fun kind hk1 hk2 => ?_
  walk_at "ss"
  refine n_tup fun p0 H2 _ e2 g0 => ?_
  walk_at "ss"
  refine n_tup fun p1 H3 _ e3 g1 => ?_
  walk_at "ss"
  refine n_tup fun p2 H4 _ e4 g2 => ?_
  walk_at "ss"
  refine n_tup fun p3 H5 _ e5 g3 => ?_
  walk_at "ss"
  refine n_tup fun p4 H6 _ e6 g4 => ?_
  walk_at "ss"
  refine n_tup fun p5 H7 _ e7 g5 => ?_
  walk_at "ss"
  refine n_tup fun p6 H8 _ e8 g6 => ?_
  walk_at "ss"
  refine n_tup fun p7 H9 _ e9 g7 => ?_
  walk_at "ss"
  refine n_lst fun l2 HA _ eA gL => ?_
  walk_at "ss"
  have hmin : ∃ j : Nat, j < 4 ∧ (if (3 : Int) < kind then (3 : Int) else kind) = (j : Int) := by
    by_cases c : (3 : Int) < kind
    · exact ⟨3, by decide, by rw [if_pos c]; rfl⟩
    · exact ⟨kind.toNat, by omega, by rw [if_neg c]; omega⟩
  obtain ⟨j, hj, ej⟩ := hmin
  rw [ej]
  have E9 := e8.trans e9
  have tl : ∀ v, [V.ref p0, .ref p2, .ref p4, .ref p7][j]? = some v → ∃ ts, TL HA v ts 4 := fun v hv => by
    match j, hj with
    | 0, _ =>
      cases hv
      exact ⟨[], (TL.nil g0).mono (e3.trans (e4.trans (e5.trans (e6.trans (e7.trans (e8.trans (e9.trans eA))))))) ⟩
    | 1, _ =>
      cases hv
      exact ⟨[(num, 0, 0)], (TL.mk (ts := [(num, 0, 0)]) g2 (.cons (tp_t (i := 0) (j := 0) (by decide) (by decide) (e4 _ _ g1)) .nil) (by intro t ht; cases ht with | head => (unfold okT; dsimp only; omega) | tail _ z => cases z) (by simp)).mono (e5.trans (e6.trans (e7.trans (e8.trans (e9.trans eA)))))⟩
    | 2, _ =>
      cases hv
      exact ⟨[(num, 1, 1)], (TL.mk (ts := [(num, 1, 1)]) g4 (.cons (tp_t (i := 1) (j := 1) (by decide) (by decide) (e6 _ _ g3)) .nil) (by intro t ht; cases ht with | head => (unfold okT; dsimp only; omega) | tail _ z => cases z) (by simp)).mono (e7.trans (e8.trans (e9.trans eA)))⟩
    | 3, _ =>
      cases hv
      exact ⟨[(3 * num, 2, 1), (3 * num, 1, 2)], (TL.mk (ts := [(3 * num, 2, 1), (3 * num, 1, 2)]) g7 (.cons (tp_t (i := 2) (j := 1) (by decide) (by decide) (E9 _ _ g5)) (.cons (tp_t (i := 1) (j := 2) (by decide) (by decide) (e9 _ _ g6)) .nil)) (by intro t ht; simp only [List.mem_cons, List.not_mem_nil, or_false] at ht; rcases ht with rfl | rfl <;> (unfold okT; dsimp only; omega)) (by simp)).mono eA⟩
  have hlt : j < [V.ref p0, .ref p2, .ref p4, .ref p7].length := hj
  obtain ⟨v0, hv0⟩ : ∃ v, [V.ref p0, .ref p2, .ref p4, .ref p7][j]? = some v := ⟨_, List.getElem?_eq_getElem hlt⟩
  obtain ⟨ts0, T0⟩ := tl v0 hv0
  refine w_ixL (SqL.of gL) (atI_of (i := (j : Int)) (by omega) (by simpa using hv0)) ?_
  have SA : Same H HA := e1.trans (e2.trans (e3.trans (e4.trans (e5.trans (e6.trans (e7.trans (e8.trans (e9.trans eA))))))))
  clear hv0 hlt tl ej hj gL eA E9 e9 g7 e8 g6 e7 g5 e6 g4 e5 g3 e4 g2 e3 g1 e2 g0 hd1 h1 e1
  walk_at "ss"
  -- if kind == 4
  refine w_cut (fun σ' H' => ∃ v ts, σ' = [some (.ref d), some (.int num), some (.int kind), some v] ∧ Same H H' ∧ TL H' v ts 4) ?_ ?_
  · walk_at "ss"
    refine w_ite (fun c => ?_) (fun c => ?_)
    · walk_at "ss"
      refine n_tup fun p1 H1 _ e1 g1 => ?_
      walk_at "ss"
      refine n_tup fun p2 H2 _ e2 g2 => ?_
      walk_at "ss"
      refine n_tup fun p3 H3 _ e3 g3 => ?_
      walk_at "ss"
      refine n_tup fun p4 H4 _ e4 g4 => ?_
      walk_at "ss"
      exact ⟨_, [(4 * num, 3, 1), (6 * num, 2, 2), (4 * num, 1, 3)], rfl, SA.trans (e1.trans (e2.trans (e3.trans e4))), TL.mk g4 (.cons (tp_t (i := 3) (j := 1) (by decide) (by decide) ((e2.trans (e3.trans e4)) _ _ g1)) (.cons (tp_t (i := 2) (j := 2) (by decide) (by decide) ((e3.trans e4) _ _ g2)) (.cons (tp_t (i := 1) (j := 3) (by decide) (by decide) (e4 _ _ g3)) .nil)))
        (by intro t ht; simp only [List.mem_cons, List.not_mem_nil, or_false] at ht; rcases ht with rfl | rfl | rfl <;> (unfold okT; dsimp only; omega)) (by simp)⟩
    · walk_at "ss"
      exact ⟨_, _, rfl, SA, T0⟩
  clear T0 SA
  rintro σ H1 ⟨v1, ts1, rfl, S1, T1⟩
  -- if kind == 5
  refine w_cut (fun σ' H' => ∃ v ts, σ' = [some (.ref d), some (.int num), some (.int kind), some v] ∧ Same H H' ∧ TL H' v ts 4) ?_ ?_
  · walk_at "ss"
    refine w_ite (fun c => ?_) (fun c => ?_)
    · walk_at "ss"
      refine n_tup fun p1 H1 _ e1 g1 => ?_
      walk_at "ss"
      refine n_tup fun p2 H2 _ e2 g2 => ?_
      walk_at "ss"
      refine n_tup fun p3 H3 _ e3 g3 => ?_
      walk_at "ss"
      refine n_tup fun p4 H4 _ e4 g4 => ?_
      walk_at "ss"
      refine n_tup fun p5 H5 _ e5 g5 => ?_
      walk_at "ss"
      exact ⟨_, [(5 * num, 4, 1), (10 * num, 3, 2), (10 * num, 2, 3), (5 * num, 1, 4)], rfl, S1.trans (e1.trans (e2.trans (e3.trans (e4.trans e5)))), TL.mk g5 (.cons (tp_t (i := 4) (j := 1) (by decide) (by decide) ((e2.trans (e3.trans (e4.trans e5))) _ _ g1)) (.cons (tp_t (i := 3) (j := 2) (by decide) (by decide) ((e3.trans (e4.trans e5)) _ _ g2)) (.cons (tp_t (i := 2) (j := 3) (by decide) (by decide) ((e4.trans e5) _ _ g3)) (.cons (tp_t (i := 1) (j := 4) (by decide) (by decide) (e5 _ _ g4)) .nil))))
        (by intro t ht; simp only [List.mem_cons, List.not_mem_nil, or_false] at ht; rcases ht with rfl | rfl | rfl | rfl <;> (unfold okT; dsimp only; omega)) (by simp)⟩
    · walk_at "ss"
      exact ⟨_, _, rfl, S1, T1⟩
  clear T1 S1
  rintro σ H1 ⟨v1, ts1, rfl, S1, T1⟩
  -- one more term
  refine w_cut (fun σ' H' => ∃ v ts, σ' = [some (.ref d), some (.int num), some (.int kind), some v] ∧ Same H H' ∧ TL H' v ts 5) ?_ ?_
  · walk_at "ss"
    refine w_below (S1 _ _ hd) (by decide) (by decide) fun r1 hr1 hr2 => ?_
    have more : tAsg (tOp (rAddU Γ.K) (tVar 3) (tTup (tCons (tTup (tCons (tOp rSubI (tCal (sp__law_below Γ) E0 (tCons (tVar 0) (tCons (tC (.int 5)) tNil))) (tC (.int 2))) (tCons (tCal (sp__law_below Γ) E0 (tCons (tVar 0) (tCons (tC (.int 5)) tNil))) (tCons (tCal (sp__law_below Γ) E0 (tCons (tVar 0) (tCons (tC (.int 5)) tNil))) tNil)))) tNil))) (gName 3)
        ⟨fun σ' H' => ∃ v ts, σ' = [some (.ref d), some (.int num), some (.int kind), some v] ∧ Same H H' ∧ TL H' v ts 5, Q, fun _ _ => False, fun _ _ => False⟩ [some (.ref d), some (.int num), some (.int kind), some v1] H1 := by
      walk_at "ss"
      refine w_below (S1 _ _ hd) (by decide) (by decide) fun a ha1 ha2 => ?_
      walk_at "ss"
      refine w_below (S1 _ _ hd) (by decide) (by decide) fun b hb1 hb2 => ?_
      walk_at "ss"
      refine w_below (S1 _ _ hd) (by decide) (by decide) fun c hc1 hc2 => ?_
      walk_at "ss"
      refine n_tup fun p1 H2 _ e1 g1 => ?_
      walk_at "ss"
      refine n_tup fun p2 H3 _ e2 g2 => ?_
      have T2 := T1.mono (e1.trans e2)
      have hone : ([(a - 2, b.toNat, c.toNat)] : List (Int × Nat × Nat)).map tt = [tt (a - 2, b.toNat, c.toNat)] := rfl
      refine w_addT (es := [tt (a - 2, b.toNat, c.toNat)]) T2.1 (.tup g2 (.cons (tp_t hb1 hc1 (e2 _ _ g1)) .nil)) (by rw [List.length_map]; have := T1.2.2; simp only [List.length_cons, List.length_nil]; omega) fun u H4 e4 t4 => ?_
      walk_at "ss"
      refine ⟨u, ts1 ++ [(a - 2, b.toNat, c.toNat)], rfl, S1.trans (e1.trans (e2.trans e4)), ?_, ?_, ?_⟩
      · rw [app_tt]; exact t4
      · intro t ht
        rcases List.mem_append.mp ht with ht | ht
        · exact T1.2.1 t ht
        · simp only [List.mem_cons, List.not_mem_nil, or_false] at ht
          subst ht
          unfold okT; dsimp only; omega
      · rw [List.length_append]
        have := T1.2.2
        simp only [List.length_cons, List.length_nil]; omega
    walk_at "ss"
    refine w_ite (fun c => ?_) (fun c => ?_)
    · exact w_iteT more
    · walk_at "ss"
      refine w_ite (fun c2 => more) (fun c2 => ?_)
      walk_at "ss"
      exact ⟨_, _, rfl, S1, T1.weak (by decide)⟩
  clear T1 S1
  rintro σ H1 ⟨v1, ts1, rfl, S1, T1⟩
  refine w_cut (fun σ' H' => ∃ v ts, σ' = [some (.ref d), some (.int num), some (.int kind), some v] ∧ Same H H' ∧ TL H' v ts 7) ?_ ?_
  · walk_at "ss"
    refine w_below (S1 _ _ hd) (by decide) (by decide) fun r1 hr1 hr2 => ?_
    walk_at "ss"
    refine w_ite (fun c => ?_) (fun c => ?_)
    · walk_at "ss"
      refine n_tup fun p1 H2 _ e1 g1 => ?_
      walk_at "ss"
      refine n_lst fun p2 H3 _ e2 g2 => ?_
      walk_at "ss"
      have S3 := S1.trans (e1.trans e2)
      refine w_pick (S3 _ _ hd) (SqL.of g2) fun i x hx => ?_
      have Tx : ∃ ts, TL H3 x ts 5 := by
        match i with
        | 0 => cases hx; exact ⟨_, T1.mono (e1.trans e2)⟩
        | 1 => cases hx; exact ⟨[], TL.nil (e2 _ _ g1)⟩
        | n + 2 => simp at hx
      obtain ⟨tsx, Tx⟩ := Tx
      walk_at "ss"
      refine n_tup fun p3 H4 _ e3 g3 => ?_
      walk_at "ss"
      refine n_tup fun p4 H5 _ e4 g4 => ?_
      walk_at "ss"
      refine n_tup fun p5 H6 _ e5 g5 => ?_
      have T6 := Tx.mono (e3.trans (e4.trans e5))
      refine w_addT (es := [tt (15 * num, 2, 2), tt (-2 * num, 3, 3)]) T6.1 (.tup g5 (.cons (tp_t (i := 2) (j := 2) (by decide) (by decide) ((e4.trans e5) _ _ g3)) (.cons (tp_t (i := 3) (j := 3) (by decide) (by decide) (e5 _ _ g4)) .nil))) (by rw [List.length_map]; have := T6.2.2; simp only [List.length_cons, List.length_nil]; omega) fun u H7 e6 t7 => ?_
      walk_at "ss"
      refine ⟨u, tsx ++ [(15 * num, 2, 2), (-2 * num, 3, 3)], rfl, S3.trans (e3.trans (e4.trans (e5.trans e6))), ?_, ?_, ?_⟩
      · rw [app_tt]; exact t7
      · intro t ht
        rcases List.mem_append.mp ht with ht | ht
        · exact Tx.2.1 t ht
        · simp only [List.mem_cons, List.not_mem_nil, or_false] at ht
          rcases ht with rfl | rfl <;> (unfold okT; dsimp only; omega)
      · rw [List.length_append]
        have := Tx.2.2
        simp only [List.length_cons, List.length_nil]; omega
    · walk_at "ss"
      exact ⟨_, _, rfl, S1, T1.weak (by decide)⟩
  clear T1 S1
  rintro σ H1 ⟨v1, ts1, rfl, S1, T1⟩
  walk_at "ss"
  refine w_sl6 T1.1 fun u H2 e2 t2 => ?_
  walk_at "ss"
  refine q u (ts1.take 6) H2 (S1.trans e2) ?_ ⟨by rw [List.length_take]; omega, fun t ht => T1.2.1 t (List.mem_of_mem_take ht)⟩
  show Tp H2 u (.tuple ((ts1.take 6).map tt))
  rw [List.map_take]
  exact t2

/-! ### tables that are drawn -/
def small (x : Int) : Prop := -100 ≤ x ∧ x ≤ 100
def RowAt (H : Hp) (a : Addr) (n : Nat) (row : List Int) : Prop := H a = some (.lst (row.map V.int)) ∧ row.length = n ∧ ∀ x ∈ row, small x
theorem rows_of {P : Nat → Addr → List Int → Prop} : ∀ {refs : List Addr}, (∀ j a, refs[j]? = some a → ∃ row, P j a row) → ∃ rows : List (List Int), rows.length = refs.length ∧ ∀ (j : Nat) row, rows[j]? = some row → ∃ a, refs[j]? = some a ∧ P j a row
  | [], _ => ⟨[], rfl, fun j row h => by simp at h⟩
  | a :: refs, h => by
    obtain ⟨row, hr⟩ := h 0 a rfl
    obtain ⟨rows, h1, h2⟩ := rows_of (P := fun j => P (j + 1)) (refs := refs) fun j b hb => h (j + 1) b hb
    refine ⟨row :: rows, by rw [List.length_cons, List.length_cons, h1], fun j w hw => ?_⟩
    cases j with
    | zero => cases hw; exact ⟨a, rfl, hr⟩
    | succ j => exact h2 j w hw
def sp__law_table (Γ : Gm) : Sp := fun vs H Q _ => ∃ (d : Addr) (m : Int), vs = [.ref d, .int m] ∧ H d = some (dO d) ∧ 2 ≤ m ∧ m ≤ 40 ∧
  ∀ v rows H', Same H H' → Tp H' v (R.tab rows).body → (R.tab rows).ok → (rows.length : Int) ≤ m - 1 → (∀ r ∈ rows, ∀ x ∈ r, small x) → Q v H'
/-- between two rows -/
structure TI' (H H' : Hp) (M : Nat) (Ld Lr : Addr) (dues : List Int) (refs : List Addr) : Prop where
  same : Same H H'
  hd : H' Ld = some (.lst (dues.map V.int))
  hr : H' Lr = some (.lst (refs.map V.ref))
  ne : Ld ≠ Lr
  nr : ∀ a ∈ refs, a ≠ Lr
  nd : ∀ a ∈ refs, a ≠ Ld
  nh : ∀ a ∈ refs, H a = none
  row : ∀ j a, refs[j]? = some a → ∃ row, RowAt H' a (M - 1 - j) row
/-- law_table: _law_d, _law_most, _law_kind, _law_due, _law_rows, _law_one, _law_row, _law_other, _law_k -/
def t__law_table (Γ : Gm) : TS := (tSeq (tPar 1 2 (tCons (tOp (rAddU Γ.K) (tC (.int 2)) (tCal (sp__law_below Γ) E0 (tCons (tVar 0) (tCons (tOp rSubI (tVar 1) (tC (.int 1))) tNil)))) (tCons (tCal (sp__law_below Γ) E0 (tCons (tVar 0) (tCons (tC (.int 4)) tNil))) tNil)))
  (tSeq (tAsg (tOp (rAddU Γ.K) (tLst (tCons (tC (.int 0)) (tCons (tC (.int 0)) tNil))) (tLc (iRng1 (tCons (tOp rSubI (tVar 1) (tC (.int 1))) tNil)) (gName 8) tYes (tOp rSubI (tCal (sp__law_below Γ) E0 (tCons (tVar 0) (tCons (tC (.int 40)) tNil))) (tC (.int 9))) [8])) (gName 3))
  (tSeq (tAsg (tLst tNil) (gName 4))
  (tSeq (tFor (iRng2 (tCons (tC (.int 1)) (tCons (tVar 1) tNil))) (gName 5) (tSeq (tAsg (tLst tNil) (gName 6))
  (tSeq (tFor (iRng2 (tCons (tC (.int 1)) (tCons (tOp (rAddU Γ.K) (tOp rSubI (tVar 1) (tVar 5)) (tC (.int 1))) tNil))) (gName 7) (tDrop (tBM Γ.K "list" rAppend (tVar 6) (tCons (tIf (tTest (tOp (rEqU Γ.K) (tVar 2) (tC (.int 0)))) (tCal (sp__law_below Γ) E0 (tCons (tVar 0) (tCons (tC (.int 5)) tNil))) (tOp rSubI (tOp rSubI (tOp (rIx Γ.K) (tVar 3) (tOp (rAddU Γ.K) (tVar 5) (tVar 7))) (tOp (rIx Γ.K) (tVar 3) (tVar 5))) (tOp (rIx Γ.K) (tVar 3) (tVar 7)))) tNil))))
  (tDrop (tBM Γ.K "list" rAppend (tVar 4) (tCons (tVar 6) tNil))))))
  (tCut (tIfS (tTest (tOp (rEqU Γ.K) (tVar 2) (tC (.int 1)))) (tSeq (tAsg (tCal (sp__law_below Γ) E0 (tCons (tVar 0) (tCons (tOp rSubI (tVar 1) (tC (.int 1))) tNil))) (gName 5))
  (tAsg (tCal (sp__law_below Γ) E0 (tCons (tVar 0) (tCons (tC (.int 9)) tNil))) (gSub (tOp (rIx Γ.K) (tVar 4) (tVar 5)) (tCal (sp__law_below Γ) E0 (tCons (tVar 0) (tCons (tCB (rLen Γ.K) (tCons (tOp (rIx Γ.K) (tVar 4) (tVar 5)) tNil)) tNil))) rSetL))) tNext)
  (tRet (tCB (rTupOf Γ.K) (tCons (tLc (iSeq Γ.K (tVar 4)) (gName 6) tYes (tCB (rTupOf Γ.K) (tCons (tVar 6) tNil)) [6]) tNil))))))))
theorem rd__law_table (Γ : Gm) (vs : List V) (H : Hp) (Q : VK) (E : XK) (h : sp__law_table Γ vs H Q E) : t__law_table Γ ⟨fun _ H' => Q .non H', Q, fun _ _ => False, fun _ _ => False⟩ (startN 9 vs) H := by
  obtain ⟨d, m, rfl, hd, hm, hm2, q⟩ := h
  unfold t__law_table
  walk_at "ss"
  refine w_below hd (by omega) (by omega) fun r hr1 hr2 => ?_
  walk_at "ss"
  refine w_below hd (by decide) (by decide) fun kind hk1 hk2 => ?_
  walk_at "ss"
  obtain ⟨M, hM⟩ : ∃ M : Nat, 2 + r = (M : Int) := ⟨(2 + r).toNat, by omega⟩
  rw [hM]
  have hMr : 2 ≤ M ∧ (M : Int) ≤ m := by omega
  refine n_lst fun l0 H1 hl0 e1 g0 => ?_
  walk_at "ss"
  refine k_rng1 (by omega) ?_
  refine k_lcRange (fun i acc H' => ∃ ns : List Int, acc = ns.map V.int ∧ ns.length = i ∧ ∀ x ∈ ns, -9 ≤ x ∧ x ≤ 30) (fun _ _ => ⟨[], rfl, rfl, (fun _ z => nomatch z)⟩) ?_ ?_
  · rintro i D acc H2 hi hD e2 hacc ⟨ns, rfl, hns, hb⟩
    walk_at "ss"
    refine ⟨rfl, ?_⟩
    walk_at "ss"
    refine w_below ((e1.trans e2) _ _ hd) (by decide) (by decide) fun z hz1 hz2 => ?_
    walk_at "ss"
    refine lcTurn.mk hD e2 hacc (by rw [List.length_map]; omega) ⟨ns ++ [z - 9], by rw [List.map_append]; rfl, by rw [List.length_append, hns]; rfl, fun x hx => ?_⟩
    rcases List.mem_append.mp hx with hx | hx
    · exact hb x hx
    · simp only [List.mem_cons, List.not_mem_nil, or_false] at hx
      omega
  rintro D acc H2 hD e2 hacc ⟨ns, rfl, hns, hb⟩
  refine w_addL (e2 _ _ g0) hacc (by simp only [List.length_cons, List.length_nil, List.length_map]; exact Nat.le_trans (m := 1000) (by omega) (by decide)) fun Ld H3 hLd e3 g3 => ?_
  obtain ⟨dues, hdu⟩ : ∃ dues : List Int, dues = 0 :: 0 :: ns := ⟨_, rfl⟩
  have g3' : H3 Ld = some (.lst (dues.map V.int)) := by rw [hdu]; exact g3
  have hdl : dues.length = M + 1 := by rw [hdu]; simp only [List.length_cons]; omega
  have hdb : ∀ x ∈ dues, -9 ≤ x ∧ x ≤ 30 := fun x hx => by
    rw [hdu] at hx
    simp only [List.mem_cons] at hx
    rcases hx with rfl | rfl | hx
    · decide
    · decide
    · exact hb x hx
  clear g3 hdu
  have S3 := (e1.trans e2).trans e3
  walk_at "ss"
  refine n_lst fun Lr H4 hLr e4 g4 => ?_
  walk_at "ss"
  refine k_rng2 (by omega) ?_
  have ne0 : Ld ≠ Lr := ne_of_none g3' hLr
  have S4 := S3.trans e4
  have hrn : H Lr = none := S3.free hLr
  refine k_range (fun i σ H' => ∃ refs x y z, σ = [some (.ref d), some (.int M), some (.int kind), some (.ref Ld), some (.ref Lr), x, y, z, none] ∧ refs.length = i ∧ TI' H H' M Ld Lr dues refs) ⟨[], none, none, none, rfl, rfl, S4, e4 _ _ g3', g4, ne0, (fun _ z => nomatch z), (fun _ z => nomatch z), (fun _ z => nomatch z), fun j a z => by simp at z⟩ ?_ ?_
  · rintro i σ H5 hi ⟨refs, x, y, z, rfl, hrl, T⟩
    have hi' : i < M - 1 := by omega
    walk_at "ss"
    refine n_lst fun l H6 hl e6 g6 => ?_
    walk_at "ss"
    refine k_rng2 (by omega) ?_
    have S6 := T.same.trans e6
    refine k_range (fun k σ H' => ∃ row z, σ = [some (.ref d), some (.int M), some (.int kind), some (.ref Ld), some (.ref Lr), some (.int (1 + (i : Int))), some (.ref l), z, none] ∧ Same H5 H' ∧ RowAt H' l k row) ⟨[], z, rfl, e6, g6, rfl, (fun _ z => nomatch z)⟩ ?_ ?_
    · rintro k σ H7 hk ⟨row, z', rfl, e7, hl7, hrowl, hrb⟩
      have hk' : k < M - 1 - i := by omega
      walk_at "ss"
      refine w_tyL hl7 ?_
      walk_at "ss"
      have done : ∀ x : Int, small x → rAppend (.ref l) [.int x] H7 (fun _ H1 => ∃ row z, (List.set [some (V.ref d), some (.int M), some (.int kind), some (.ref Ld), some (.ref Lr), some (.int (1 + (i : Int))), some (.ref l), z', none] 7 (some (.int (1 + (k : Int))))) = [some (.ref d), some (.int M), some (.int kind), some (.ref Ld), some (.ref Lr), some (.int (1 + (i : Int))), some (.ref l), z, none] ∧ Same H5 H1 ∧ RowAt H1 l (k + 1) row) := fun x hx => by
        refine w_app hl7 (by rw [List.length_map]; omega) ?_
        refine ⟨row ++ [x], _, rfl, Same.mut e7 hl, ?_, by rw [List.length_append, hrowl]; rfl, fun w hw => ?_⟩
        · rw [upd_same, List.map_append]; rfl
        · rcases List.mem_append.mp hw with hw | hw
          · exact hrb w hw
          · simp only [List.mem_cons, List.not_mem_nil, or_false] at hw
            rw [hw]; exact hx
      refine w_ite (fun c => ?_) (fun c => ?_)
      · walk_at "ss"
        refine w_below ((T.same.trans e7) _ _ hd) (by decide) (by decide) fun w hw1 hw2 => ?_
        walk_at "ss"
        exact done w ⟨by omega, by omega⟩
      · walk_at "ss"
        have hdd := e7 _ _ T.hd
        have gt : ∀ (n : Int), 0 ≤ n → n < M + 1 → ∃ x, dues[n.toNat]? = some x ∧ -9 ≤ x ∧ x ≤ 30 := fun n h1 h2 => by
          have : n.toNat < dues.length := by omega
          exact ⟨_, List.getElem?_eq_getElem this, hdb _ (List.getElem_mem this)⟩
        obtain ⟨x1, a1, b1⟩ := gt (1 + (i : Int) + (1 + (k : Int))) (by omega) (by omega)
        obtain ⟨x2, a2, b2⟩ := gt (1 + (i : Int)) (by omega) (by omega)
        obtain ⟨x3, a3, b3⟩ := gt (1 + (k : Int)) (by omega) (by omega)
        refine w_ixL (SqL.of hdd) (atI_of (by omega) (by rw [List.getElem?_map, a1]; rfl)) ?_
        walk_at "ss"
        refine w_ixL (SqL.of hdd) (atI_of (by omega) (by rw [List.getElem?_map, a2]; rfl)) ?_
        walk_at "ss"
        refine w_ixL (SqL.of hdd) (atI_of (by omega) (by rw [List.getElem?_map, a3]; rfl)) ?_
        walk_at "ss"
        exact done _ ⟨by omega, by omega⟩
    · rintro σ H7 ⟨row, z', rfl, e7, hl7, hrowl, hrb⟩
      walk_at "ss"
      have hr7 := e7 _ _ T.hr
      refine w_tyL hr7 ?_
      walk_at "ss"
      refine w_app hr7 (by rw [List.length_map]; omega) ?_
      have nl : l ≠ Lr := fun z => by rw [z, T.hr] at hl; cases hl
      have nl2 : l ≠ Ld := fun z => by rw [z, T.hd] at hl; cases hl
      have mem : ∀ {P : Addr → Prop}, (∀ a ∈ refs, P a) → P l → ∀ a ∈ refs ++ [l], P a := fun h1 h2 a ha => by
        rcases List.mem_append.mp ha with ha | ha
        · exact h1 a ha
        · simp only [List.mem_cons, List.not_mem_nil, or_false] at ha
          rw [ha]; exact h2
      refine ⟨refs ++ [l], _, _, _, rfl, by rw [List.length_append, hrl]; rfl, Same.mut (T.same.trans e7) hrn, ?_, ?_, ne0, mem T.nr nl, mem T.nd nl2, mem T.nh (T.same.free hl), fun j a hj => ?_⟩
      · rw [upd_ne ne0]; exact e7 _ _ T.hd
      · rw [upd_same, List.map_append]; rfl
      · by_cases hjl : j < refs.length
        · rw [List.getElem?_append_left hjl] at hj
          obtain ⟨rw', h1, h2⟩ := T.row j a hj
          refine ⟨rw', ?_, h2⟩
          rw [upd_ne (T.nr a (List.mem_of_getElem? hj))]
          exact e7 _ _ h1
        · have hj2 : j = refs.length := by
            have := (List.getElem?_eq_some_iff.mp hj).1
            rw [List.length_append] at this
            simp only [List.length_cons, List.length_nil] at this
            omega
          subst hj2
          rw [List.getElem?_append_right (Nat.le_refl _), Nat.sub_self] at hj
          cases hj
          refine ⟨row, by rw [upd_ne nl]; exact hl7, ?_, hrb⟩
          omega
  · rintro σ H5 ⟨refs, x, y, z, rfl, hrl, T⟩
    have hrl' : refs.length = M - 1 := by omega
    refine w_cut (fun σ' H' => ∃ x y z, σ' = [some (.ref d), some (.int M), some (.int kind), some (.ref Ld), some (.ref Lr), x, y, z, none] ∧ TI' H H' M Ld Lr dues refs) ?_ ?_
    · walk_at "ss"
      refine w_ite (fun c => ?_) (fun c => ?_)
      · walk_at "ss"
        refine w_below (T.same _ _ hd) (by omega) (by omega) fun one ho1 ho2 => ?_
        walk_at "ss"
        refine w_below (T.same _ _ hd) (by decide) (by decide) fun val hv1 hv2 => ?_
        walk_at "ss"
        have hj : one.toNat < refs.length := by omega
        have ha := List.getElem?_eq_getElem hj
        obtain ⟨row, hrow, hrowl, hrb⟩ := T.row _ _ ha
        refine w_ixL (SqL.of T.hr) (atI_of ho1 (by rw [List.getElem?_map, ha]; rfl)) ?_
        walk_at "ss"
        refine w_ixL (SqL.of T.hr) (atI_of ho1 (by rw [List.getElem?_map, ha]; rfl)) ?_
        walk_at "ss"
        refine w_lenL (SqL.of hrow) ?_
        walk_at "ss"
        rw [List.length_map, hrowl]
        refine w_below (T.same _ _ hd) (by omega) (by omega) fun k hk1 hk2 => ?_
        obtain ⟨kk, hkk⟩ : ∃ kk : Nat, k = (kk : Int) := ⟨k.toNat, by omega⟩
        subst hkk
        have hnr := T.nr _ (List.mem_of_getElem? ha)
        have hnH : H (refs[one.toNat]) = none := T.nh _ (List.mem_of_getElem? ha)
        refine w_setL hrow (j := kk) (by unfold ixN; rw [if_pos (by omega), if_pos (by rw [List.length_map, hrowl]; omega)]; simp) ?_
        walk_at "ss"
        refine ⟨_, _, _, rfl, Same.mut T.same hnH, ?_, ?_, ne0, T.nr, T.nd, T.nh, fun j a hja => ?_⟩
        · rw [upd_ne (T.nd _ (List.mem_of_getElem? ha)).symm]; exact T.hd
        · rw [upd_ne hnr.symm]; exact T.hr
        · by_cases ea : a = refs[one.toNat]
          · subst ea
            obtain ⟨row2, h1, h2, h3⟩ := T.row _ _ hja
            rw [hrow] at h1
            have e2 : row2.length = row.length := by
              have := congrArg (fun o => match o with | some (HO.lst l) => l.length | _ => 0) h1
              simpa using this.symm
            refine ⟨row.set kk val, ?_, by rw [List.length_set, ← e2]; exact h2, fun w hw => ?_⟩
            · rw [upd_same, List.map_set]
            · rcases List.mem_or_eq_of_mem_set hw with hw | hw
              · exact hrb w hw
              · rw [hw]; exact ⟨by omega, by omega⟩
          · obtain ⟨row2, h1, h2⟩ := T.row _ _ hja
            exact ⟨row2, by rw [upd_ne ea]; exact h1, h2⟩
      · walk_at "ss"
        exact ⟨_, _, _, rfl, T⟩
    clear T
    rintro σ H6 ⟨x, y, z, rfl, T⟩
    obtain ⟨rows, hl1, hl2⟩ := rows_of T.row
    walk_at "ss"
    refine k_seqL (SqL.of T.hr) ?_
    refine k_lcList (xs := refs.map V.ref) (fun i acc H' => TpAll H' acc ((rows.take i).map fun r => PyData.tuple (r.map PyData.int))) (SqL.of T.hr) (fun _ _ => .nil) ?_ ?_
    · rintro i x D acc H7 hi hD e7 hacc tacc
      have hil : i < rows.length := by
        have := (List.getElem?_eq_some_iff.mp hi).1
        rw [List.length_map] at this
        omega
      have hrow := List.getElem?_eq_getElem hil
      obtain ⟨a, hra, hro, hrol, hrob⟩ := hl2 i _ hrow
      rw [List.getElem?_map, hra] at hi
      cases hi
      walk_at "ss"
      refine ⟨rfl, ?_⟩
      walk_at "ss"
      refine w_tupL (SqL.of (e7 _ _ hro)) fun t H8 ht e8 g8 => ?_
      have hacc8 := e8 _ _ hacc
      have tl := tacc.length
      rw [List.length_map, List.length_take] at tl
      refine lcTurn.mk hD (e7.trans e8) hacc8 (by omega) ?_
      rw [take_succ hrow, List.map_append]
      have up : Tups H8 (upd H8 D (.lst (acc ++ [V.ref t]))) := Tups.upd (fun _ _ z => z) (fun xs z => by rw [hacc8] at z; cases z)
      exact ((tacc.mono (Same.tups e8)).append (.cons (.tup g8 (TpAll.of_ints _ _)) .nil)).mono up
    · rintro D acc H7 hD e7 hacc tacc
      rw [List.length_map, ← hl1, List.take_length] at tacc
      walk_at "ss"
      refine w_tupL (SqL.of hacc) fun t H8 ht e8 g8 => ?_
      refine q _ rows H8 (T.same.trans (e7.trans e8)) (.tup g8 (tacc.mono (Same.tups e8))) ⟨by omega, by omega, fun i r hr => ?_⟩ (by omega) (fun r hr => ?_)
      · obtain ⟨a, h1, h2, h3, h4⟩ := hl2 i r hr
        refine ⟨by omega, fun x hx => ?_⟩
        have := h4 x hx
        unfold small at this
        omega
      · obtain ⟨i, hi⟩ := List.getElem?_of_mem hr
        obtain ⟨a, h1, h2, h3, h4⟩ := hl2 i r hi
        exact h4
/-! ### rules that are drawn -/
/-- R.small: what the drawn tables keep -/
def R.fit (most : Int) : R → Prop
  | .tab rows => (rows.length : Int) ≤ most - 1 ∧ ∀ r ∈ rows, ∀ x ∈ r, small x
  | .trm _ => True
def sp__law_rule (Γ : Gm) : Sp := fun vs H Q _ => ∃ (d : Addr) (m : Int), vs = [.ref d, .int m] ∧ H d = some (dO d) ∧ 2 ≤ m ∧ m ≤ 40 ∧ ∀ v r H', Same H H' → RuleAt Γ H' v r → r.fit m → Q v H'
/-- a rule of parts that are one, made -/
theorem w_mkRule {Γ : Gm} {H : Hp} {Q : VK} {v : V} (r : R) (hv : Tp H v r.body) (ok : r.ok) (hr : ruleOf (.str r.kind) r.body = some r) (k : ∀ p H', Same H H' → RuleAt Γ H' (.ref p) r → Q (.ref p) H') : kMak Γ.cRule (sp_RuleU_initU Γ) E0 [.str r.kind, v] H Q := by
  intro x dx hx hdx ne
  have e1 : Same H (upd (upd H dx (.own x)) x (.ins Γ.cRule dx [])) := (Same.new hdx).mut hx
  refine ⟨x, dx, _, .str r.kind, v, r.body, rfl, upd_same, .str _, (hv.mono (Same.tups e1)).dv, ⟨(fun z => by rw [hr] at z; cases z), ?_⟩⟩
  intro r' s b hr' es ev _ _ _ H' keep h'
  cases es
  rw [hr] at hr'
  cases hr'
  subst ev
  have keep' : Same H H' := fun c o ho => keep c o (fun z => by rw [z, hx] at ho; cases ho) (e1 c o ho)
  exact ⟨rfl, k x H' keep' ⟨x, dx, b, rfl, h', hv.mono (Same.tups keep'), ok⟩⟩
theorem ints_all {lo hi : Int} : ∀ {ns : List Int}, (∀ n ∈ ns, lo ≤ n ∧ n ≤ hi) → (ns.map PyData.int).all (inD lo hi) = true
  | [], _ => rfl
  | n :: ns, h => by
    rw [List.map_cons, List.all_cons, ints_all (fun m hm => h m (List.mem_cons_of_mem _ hm))]
    have := h n List.mem_cons_self
    simp only [inD, Bool.and_true, Bool.and_eq_true, decide_eq_true_eq]
    exact this
theorem ints_id : ∀ ns : List Int, (ns.map PyData.int).map intD = ns
  | [] => rfl
  | n :: ns => by rw [List.map_cons, List.map_cons, ints_id ns]; rfl
theorem ruleOf_str (s : Str) (d : PyData) : ruleOf (.str s) d = if s = "table" then (if areRows d then some (.tab (rowsD d)) else none) else if s = "terms" then (if areTerms d then some (.trm (termsD d)) else none) else none := rfl
theorem ruleOf_table (d : PyData) : ruleOf (.str "table") d = if areRows d then some (.tab (rowsD d)) else none := by
  rw [ruleOf_str, if_pos rfl]
theorem ruleOf_terms (d : PyData) : ruleOf (.str "terms") d = if areTerms d then some (.trm (termsD d)) else none := by
  rw [ruleOf_str, if_neg (show ¬ ("terms" : Str) = "table" from by decide +kernel), if_pos rfl]
/-- what is a rule is told back -/
theorem ruleOf_body {r : R} (ok : r.ok) : ruleOf (.str r.kind) r.body = some r := by
  cases r with
  | tab rows =>
    obtain ⟨h1, h2, h3⟩ := ok
    have ha : areRows (R.tab rows).body = true := by
      simp only [R.body, areRows, List.length_map]
      rw [decide_eq_true h1, decide_eq_true h2]
      simp only [Bool.true_and, List.all_eq_true, List.mem_range]
      intro i hi
      rw [List.getD_eq_getElem?_getD, List.getElem?_map, List.getElem?_eq_getElem hi]
      obtain ⟨h4, h5⟩ := h3 i _ (List.getElem?_eq_getElem hi)
      simp only [Option.map_some, Option.getD_some, rowOk, List.length_map]
      rw [ints_all h5, decide_eq_true h4]
      rfl
    have hb : rowsD (R.tab rows).body = rows := by
      simp only [R.body, rowsD, List.map_map]
      conv => rhs; rw [← List.map_id rows]
      exact List.map_congr_left fun r _ => ints_id r
    show ruleOf (.str "table") _ = _
    rw [ruleOf_table, if_pos ha, hb]
  | trm ts =>
    obtain ⟨h1, h2⟩ := ok
    have hd : ∀ t ∈ ts, termD (.tuple ((tri t).map PyData.int)) = t := fun t _ => by
      obtain ⟨n, i, j⟩ := t
      simp [termD, intsD, tri, intD]
    have ha : areTerms (R.trm ts).body = true := by
      simp only [R.body, areTerms, List.length_map, List.all_map, Bool.and_eq_true, decide_eq_true_eq, List.all_eq_true]
      refine ⟨h1, fun t ht => ?_⟩
      have := h2 t ht
      simp only [Function.comp, tri, List.map_cons, List.map_nil, isTerm, inD, Bool.and_eq_true, decide_eq_true_eq]
      omega
    have hb : termsD (R.trm ts).body = ts := by
      simp only [R.body, termsD, List.map_map]
      conv => rhs; rw [← List.map_id ts]
      exact List.map_congr_left fun t ht => hd t ht
    show ruleOf (.str "terms") _ = _
    rw [ruleOf_terms, if_pos ha, hb]
/-- law_rule: _law_d, _law_most -/
def t__law_rule (Γ : Gm) : TS := (tSeq (tIfS (tTest (tOp (rEqU Γ.K) (tCal (sp__law_below Γ) E0 (tCons (tVar 0) (tCons (tC (.int 2)) tNil))) (tC (.int 0)))) (tRet (tMak Γ.cRule (sp_RuleU_initU Γ) E0 (tCons (tC (.str "table")) (tCons (tCal (sp__law_table Γ) E0 (tCons (tVar 0) (tCons (tVar 1) tNil))) tNil)))) tNext)
  (tRet (tMak Γ.cRule (sp_RuleU_initU Γ) E0 (tCons (tC (.str "terms")) (tCons (tCal (sp__law_terms Γ) E0 (tCons (tVar 0) tNil)) tNil)))))
theorem rd__law_rule (Γ : Gm) (vs : List V) (H : Hp) (Q : VK) (E : XK) (h : sp__law_rule Γ vs H Q E) : t__law_rule Γ ⟨fun _ H' => Q .non H', Q, fun _ _ => False, fun _ _ => False⟩ (startN 2 vs) H := by
  obtain ⟨d, m, rfl, hd, hm, hm2, q⟩ := h
  unfold t__law_rule
  walk_at "ss"
  refine w_below hd (by decide) (by decide) fun r hr1 hr2 => ?_
  walk_at "ss"
  refine w_ite (fun c => ?_) (fun c => ?_)
  · walk_at "ss"
    refine ⟨d, m, rfl, hd, hm, hm2, fun v rows H' e tv ok hl hs => ?_⟩
    refine w_mkRule (R.tab rows) tv ok (ruleOf_body ok) fun p H2 e2 hr => ?_
    exact q _ _ H2 (e.trans e2) hr ⟨hl, hs⟩
  · walk_at "ss"
    refine ⟨d, rfl, hd, fun v ts H' e tv ok => ?_⟩
    refine w_mkRule (R.trm ts) tv ok (ruleOf_body ok) fun p H2 e2 hr => ?_
    exact q _ _ H2 (e.trans e2) hr trivial
theorem k_kind {Γ : Gm} {H : Hp} {v : V} {r : R} {Q : VK} (h : RuleAt Γ H v r) (q : Q (.str r.kind) H) : kPrp Γ.cRule "form" v H Q := by
  obtain ⟨p, dx, b, rfl, h2, h3, h4⟩ := h
  exact ⟨p, dx, _, _, rfl, h2, rfl2_form _ _, q⟩
theorem k_parts {Γ : Gm} {H : Hp} {v : V} {r : R} {Q : VK} (h : RuleAt Γ H v r) (q : ∀ b xs, H b = some (.tup xs) → Tp H (.ref b) r.body → Q (.ref b) H) : kPrp Γ.cRule "body" v H Q := by
  obtain ⟨p, dx, b, rfl, h2, h3, h4⟩ := h
  refine ⟨p, dx, _, _, rfl, h2, rfl2_body _ _, ?_⟩
  cases r <;> (cases h3 with | tup h k => exact q b _ h (.tup h k))
/-- the greatest heap that a rule has points for, of at most so many things -/
def R.topm (r : R) (most : Int) : Int := match r with
  | .tab rows => if (rows.length : Int) + 1 < most then (rows.length : Int) + 1 else most
  | .trm _ => most
def sp__law_top (Γ : Gm) : Sp := fun vs H Q _ => ∃ v r m, vs = [v, .int m] ∧ RuleAt Γ H v r ∧ ∀ H', Same H H' → Q (.int (r.topm m)) H'
/-- law_top: _law_rule_here, _law_most -/
def t__law_top (Γ : Gm) : TS := (tRet (tIf (tTest (tOp (rEqU Γ.K) (tPrp Γ.cRule "form" (tVar 0)) (tC (.str "table")))) (tCB (rMin Γ.K) (tCons (tLst (tCons (tVar 1) (tCons (tOp (rAddU Γ.K) (tCB (rLen Γ.K) (tCons (tPrp Γ.cRule "body" (tVar 0)) tNil)) (tC (.int 1))) tNil))) tNil)) (tVar 1)))
theorem rd__law_top (Γ : Gm) (vs : List V) (H : Hp) (Q : VK) (E : XK) (h : sp__law_top Γ vs H Q E) : t__law_top Γ ⟨fun _ H' => Q .non H', Q, fun _ _ => False, fun _ _ => False⟩ (startN 2 vs) H := by
  obtain ⟨v, r, m, rfl, hr, q⟩ := h
  unfold t__law_top
  walk_at "ss"
  refine k_kind hr ?_
  walk_at "ss"
  rw [kind_tab]
  cases r with
  | tab rows =>
    refine w_iteT ?_
    walk_at "ss"
    refine k_parts hr fun b xs hb ht => ?_
    walk_at "ss"
    refine w_lenT (SqT.of hb) ?_
    walk_at "ss"
    obtain ⟨a, ys, z1, z2, z3⟩ := ht.inv
    cases z1
    rw [hb] at z2
    cases z2
    rw [z3.length, List.length_map]
    refine n_lst fun l H1 hl e1 g1 => ?_
    walk_at "ss"
    refine ⟨l, [m, (rows.length : Int) + 1], rfl, SqL.of g1, Nat.succ_pos _, fun x hx hle => ?_⟩
    have e : x = (R.tab rows).topm m := by
      have h1 := hle m (by simp)
      have h2 := hle ((rows.length : Int) + 1) (by simp)
      simp only [List.mem_cons, List.not_mem_nil, or_false] at hx
      simp only [R.topm]
      split <;> omega
    rw [e]
    exact q _ e1
  | trm ts =>
    refine w_iteF ?_
    walk_at "ss"
    exact q H (Same.refl H)
/-- values that are no heaps, as data -/
def noHeaps (n : Int) : List PyData := [.none, .int 0, .int (-1), .str "1", .bool true, .tuple [.int 1], .int n]
def sp__law_no_heaps (Γ : Gm) : Sp := fun vs H Q _ => ∃ v r m, vs = [v, .int m] ∧ RuleAt Γ H v r ∧ ∀ l xs H', Same H H' → H l = none → H' l = some (.lst xs) → TpAll H' xs (noHeaps (r.topm m + 1)) → Q (.ref l) H'
/-- law_no_heaps: _law_rule_here, _law_most -/
def t__law_no_heaps (Γ : Gm) : TS := (tRet (tLst (tCons (tC .non) (tCons (tC (.int 0)) (tCons (tUn (rU fun i => .int (-i)) (tC (.int 1))) (tCons (tC (.str "1")) (tCons (tC (.bl true)) (tCons (tTup (tCons (tC (.int 1)) tNil)) (tCons (tOp (rAddU Γ.K) (tCal (sp__law_top Γ) E0 (tCons (tVar 0) (tCons (tVar 1) tNil))) (tC (.int 1))) tNil)))))))))
theorem rd__law_no_heaps (Γ : Gm) (vs : List V) (H : Hp) (Q : VK) (E : XK) (h : sp__law_no_heaps Γ vs H Q E) : t__law_no_heaps Γ ⟨fun _ H' => Q .non H', Q, fun _ _ => False, fun _ _ => False⟩ (startN 2 vs) H := by
  obtain ⟨v, r, m, rfl, hr, q⟩ := h
  unfold t__law_no_heaps
  walk_at "ss"
  refine n_tup fun t H1 ht e1 g1 => ?_
  walk_at "ss"
  refine ⟨v, r, m, rfl, hr.mono e1, fun H2 e2 => ?_⟩
  walk_at "ss"
  refine n_lst fun l H3 hl e3 g3 => ?_
  refine q l _ H3 (e1.trans (e2.trans e3)) ((e1.trans e2).free hl) g3 (.cons .non (.cons (.int 0) (.cons (.int (-1)) (.cons (.str _) (.cons (.bl true) (.cons (.tup ((e2.trans e3) _ _ g1) (.cons (.int 1) .nil)) (.cons (.int _) .nil)))))))

/-! ### equal and of the same kind at every level: asked of equal data alone -/
mutual
/-- data without dicts, nested less deep than n -/
def flatN : Nat → PyData → Bool
  | 0, _ => false
  | _ + 1, .none => true
  | _ + 1, .bool _ => true
  | _ + 1, .int _ => true
  | _ + 1, .str _ => true
  | n + 1, .list ds => decide (ds.length ≤ 100000) && flatAll n ds
  | n + 1, .tuple ds => decide (ds.length ≤ 100000) && flatAll n ds
  | _ + 1, .dict _ => false
def flatAll : Nat → List PyData → Bool
  | _, [] => true
  | n, d :: ds => flatN n d && flatAll n ds
end
theorem flatAll_get : ∀ {ds : List PyData} {n i : Nat} {d : PyData}, flatAll n ds = true → ds[i]? = some d → flatN n d = true
  | [], _, _, _, _, h => by simp at h
  | d :: ds, n, 0, _, h, e => by
    cases e
    unfold flatAll at h
    exact (Bool.and_eq_true_iff.mp h).1
  | d :: ds, n, i + 1, _, h, e => by
    unfold flatAll at h
    exact flatAll_get (Bool.and_eq_true_iff.mp h).2 (by simpa using e)
def spn__law_equal (Γ : Gm) (n : Nat) : Sp := fun vs H Q _ => ∃ x y d, vs = [x, y] ∧ Dv H x d ∧ Dv H y d ∧ flatN n d = true ∧ ∀ H', Same H H' → Q (.bl true) H'
def sp__law_equal (Γ : Gm) : Sp := spn__law_equal Γ 45
/-- law_equal: _law_actual, _law_expected, _law_key, _law_k -/
def t__law_equal (Γ : Gm) (n : Nat) : TS := (tSeq (tIfS (tTest (tOp rIsU (tVar 1) (tC .non))) (tRet (tOp rIsU (tVar 0) (tC .non))) tNext)
  (tSeq (tIfS (tB (tCB (rIsi Γ.K) (tCons (tVar 1) (tCons (tC (.ty "bool")) tNil)))) (tRet (tAndV (tCB (rIsi Γ.K) (tCons (tVar 0) (tCons (tC (.ty "bool")) tNil))) (tOp (rEqU Γ.K) (tVar 0) (tVar 1)))) tNext)
  (tSeq (tIfS (tB (tCB (rIsi Γ.K) (tCons (tVar 1) (tCons (tC (.ty "int")) tNil)))) (tRet (tAndV (tCB (rIsi Γ.K) (tCons (tVar 0) (tCons (tC (.ty "int")) tNil))) (tAndV (tNotV (tCB (rIsi Γ.K) (tCons (tVar 0) (tCons (tC (.ty "bool")) tNil)))) (tOp (rEqU Γ.K) (tVar 0) (tVar 1))))) tNext)
  (tSeq (tIfS (tB (tCB (rIsi Γ.K) (tCons (tVar 1) (tCons (tC (.ty "str")) tNil)))) (tRet (tAndV (tCB (rIsi Γ.K) (tCons (tVar 0) (tCons (tC (.ty "str")) tNil))) (tOp (rEqU Γ.K) (tVar 0) (tVar 1)))) tNext)
  (tSeq (tIfS (tB (tCB (rIsi Γ.K) (tCons (tVar 1) (tCons (tC (.ty "dict")) tNil)))) tNever tNext)
  (tSeq (tIfS (tTest (tOp (rNeU Γ.K) (tCB (rIsi Γ.K) (tCons (tVar 1) (tCons (tC (.ty "tuple")) tNil))) (tCB (rIsi Γ.K) (tCons (tVar 0) (tCons (tC (.ty "tuple")) tNil))))) (tRet (tC (.bl false))) tNext)
  (tSeq (tIfS (tTest (tOp (rNeU Γ.K) (tCB (rIsi Γ.K) (tCons (tVar 1) (tCons (tC (.ty "list")) tNil))) (tCB (rIsi Γ.K) (tCons (tVar 0) (tCons (tC (.ty "list")) tNil))))) (tRet (tC (.bl false))) tNext)
  (tSeq (tIfS (tTest (tOp (rNeU Γ.K) (tCB (rLen Γ.K) (tCons (tVar 0) tNil)) (tCB (rLen Γ.K) (tCons (tVar 1) tNil)))) (tRet (tC (.bl false))) tNext)
  (tRet (tCB (rAll Γ.K) (tCons (tLc (iRng1 (tCons (tCB (rLen Γ.K) (tCons (tVar 1) tNil)) tNil)) (gName 3) tYes (tCal (spn__law_equal Γ n) E0 (tCons (tOp (rIx Γ.K) (tVar 0) (tVar 3)) (tCons (tOp (rIx Γ.K) (tVar 1) (tVar 3)) tNil))) [3]) tNil)))))))))))
theorem rd0__law_equal (Γ : Gm) (vs : List V) (H : Hp) (Q : VK) (E : XK) (h : spn__law_equal Γ 0 vs H Q E) : False := by
  obtain ⟨x, y, d, _, _, _, h, _⟩ := h
  unfold flatN at h
  cases h
theorem isN_false {x : V} (h : x ≠ .non) : decide (x = V.non) = false := decide_eq_false h
theorem rd__law_equal (Γ : Gm) (n : Nat) (vs : List V) (H : Hp) (Q : VK) (E : XK) (h : spn__law_equal Γ (n + 1) vs H Q E) : t__law_equal Γ n ⟨fun _ H' => Q .non H', Q, fun _ _ => False, fun _ _ => False⟩ (startN 4 vs) H := by
  obtain ⟨x, y, d, rfl, hx, hy, hf, k⟩ := h
  have kk := k H (Same.refl H)
  unfold t__law_equal
  walk_at "ss"
  -- None
  by_cases dn : d = .none
  · subst dn
    cases hx
    cases hy
    rw [decide_eq_true rfl]
    walk_at "ss"
    rw [decide_eq_true rfl]
    exact kk
  have yn : y ≠ .non := by
    rintro rfl
    cases hy
    exact dn rfl
  rw [isN_false yn]
  walk_at "ss"
  refine w_isi hy.tag (by decide) ?_
  rw [hy.ty]
  walk_at "ss"
  refine w_ite (fun e => ?_) (fun e => ?_)
  · -- a truth value
    cases d with
    | bool b =>
      cases hx
      cases hy
      walk_at "ss"
      refine w_isi (.bl b) (by decide) ?_
      walk_at "ss"
      rw [if_pos (show isTy H "bool" (.bl b) = true from by simp [isTy, tyN, tyTab])]
      walk_at "ss"
      rw [decide_eq_true rfl]
      exact kk
    | _ => simp [tyD, tyTab] at e
  walk_at "ss"
  refine w_isi hy.tag (by decide) ?_
  rw [hy.ty]
  walk_at "ss"
  refine w_ite (fun e2 => ?_) (fun e2 => ?_)
  · cases d with
    | int b =>
      cases hx
      cases hy
      walk_at "ss"
      refine w_isi (.int b) (by decide) ?_
      walk_at "ss"
      rw [if_pos (show isTy H "int" (.int b) = true from by simp [isTy, tyN, tyTab])]
      walk_at "ss"
      refine w_isi (.int b) (by decide) ?_
      walk_at "ss"
      rw [if_pos (show (!isTy H "bool" (.int b)) = true from by simp [isTy, tyN, tyTab])]
      walk_at "ss"
      rw [decide_eq_true rfl]
      exact kk
    | bool b => simp [tyD, tyTab] at e
    | _ => simp [tyD, tyTab] at e2
  walk_at "ss"
  refine w_isi hy.tag (by decide) ?_
  rw [hy.ty]
  walk_at "ss"
  refine w_ite (fun e3 => ?_) (fun e3 => ?_)
  · cases d with
    | str b =>
      cases hx
      cases hy
      walk_at "ss"
      refine w_isi (.str b) (by decide) ?_
      walk_at "ss"
      rw [if_pos (show isTy H "str" (.str b) = true from by simp [isTy, tyN, tyTab])]
      walk_at "ss"
      rw [decide_eq_true rfl]
      exact kk
    | _ => simp [tyD, tyTab] at e3
  walk_at "ss"
  refine w_isi hy.tag (by decide) ?_
  rw [hy.ty]
  walk_at "ss"
  have ndict : tyTab (tyD d) "dict" = false := by
    cases d with
    | dict kvs => unfold flatN at hf; cases hf
    | _ => simp [tyD, tyTab]
  rw [ndict]
  walk_at "ss"
  -- a tuple or a list
  have main : ∀ (a b : Addr) (xs ys : List V) (ds : List PyData), x = .ref a → y = .ref b → (SqL Γ.K H a xs ∨ SqT Γ.K H a xs) → (SqL Γ.K H b ys ∨ SqT Γ.K H b ys) → DvAll H xs ds → DvAll H ys ds → ds.length ≤ 100000 → flatAll n ds = true →
      (tSeq (tIfS (tTest (tOp (rNeU Γ.K) (tCB (rLen Γ.K) (tCons (tVar 0) tNil)) (tCB (rLen Γ.K) (tCons (tVar 1) tNil)))) (tRet (tC (.bl false))) tNext)
      (tRet (tCB (rAll Γ.K) (tCons (tLc (iRng1 (tCons (tCB (rLen Γ.K) (tCons (tVar 1) tNil)) tNil)) (gName 3) tYes (tCal (spn__law_equal Γ n) E0 (tCons (tOp (rIx Γ.K) (tVar 0) (tVar 3)) (tCons (tOp (rIx Γ.K) (tVar 1) (tVar 3)) tNil))) [3]) tNil)))) ⟨fun _ H' => Q .non H', Q, fun _ _ => False, fun _ _ => False⟩ (startN 4 [x, y]) H := by
    rintro a b xs ys ds rfl rfl ha hb hxs hys hsz hfa
    have len : ∀ {c : Addr} {zs : List V} {R : VK}, (SqL Γ.K H c zs ∨ SqT Γ.K H c zs) → R (.int (zs.length : Int)) H → rLen Γ.K [.ref c] H R := fun h q => h.elim (fun h => w_lenL h q) (fun h => w_lenT h q)
    have hxl := hxs.length
    have hyl := hys.length
    walk_at "ss"
    refine len ha ?_
    walk_at "ss"
    refine len hb ?_
    walk_at "ss"
    rw [hxl, hyl, decide_eq_true rfl]
    walk_at "ss"
    refine len hb ?_
    walk_at "ss"
    refine k_rng1 (by omega) ?_
    refine k_lcRange (fun i acc H' => acc = (List.replicate i true).map V.bl) (fun _ _ => rfl) ?_ ?_
    · rintro i D acc H2 hi hD e4 hacc rfl
      have hi' : i < ds.length := by omega
      have hdi := List.getElem?_eq_getElem hi'
      obtain ⟨xi, hxi, dxi⟩ := hxs.get hdi
      obtain ⟨yi, hyi, dyi⟩ := hys.get hdi
      walk_at "ss"
      refine ⟨rfl, ?_⟩
      walk_at "ss"
      have at_ : ∀ {c : Addr} {zs : List V} {z : V} {R : VK}, (SqL Γ.K H c zs ∨ SqT Γ.K H c zs) → zs[i]? = some z → R z H2 → rIx Γ.K (.ref c) (.int (0 + (i : Int))) H2 R := fun h g q => h.elim (fun h => w_ixL (e4.seq h) (atI_of (by omega) (by rw [Int.zero_add]; exact g)) q) (fun h => w_ixT (e4.seqT h) (atI_of (by omega) (by rw [Int.zero_add]; exact g)) q)
      refine at_ ha hxi ?_
      walk_at "ss"
      refine at_ hb hyi ?_
      walk_at "ss"
      refine ⟨xi, yi, _, rfl, dxi.mono e4, dyi.mono e4, flatAll_get hfa hdi, fun H3 e5 => ?_⟩
      refine lcTurn.mk hD (e4.trans e5) (e5 _ _ hacc) (by rw [List.length_map, List.length_replicate]; omega) ?_
      rw [List.replicate_succ', List.map_append]
      rfl
    · rintro D acc H2 hD e4 hacc rfl
      walk_at "ss"
      refine w_all (SqL.of hacc) ?_
      have er : ∀ m : Nat, (List.replicate m true).all id = true := fun m => by
        induction m with
        | zero => rfl
        | succ m ih => rw [List.replicate_succ, List.all_cons, ih]; rfl
      rw [er]
      exact k H2 e4
  unfold flatN at hf
  cases d with
  | list ds =>
    rw [Bool.and_eq_true, decide_eq_true_eq] at hf
    cases hx with
    | lst gx hxs =>
      cases hy with
      | lst gy hys =>
        refine w_isi (.lst gy) (by decide) ?_
        walk_at "ss"
        refine w_isi (.lst gx) (by decide) ?_
        walk_at "ss"
        rw [show isTy H "tuple" _ = false from by simp [isTy, tyN, tyTab, gy], show isTy H "tuple" _ = false from by simp [isTy, tyN, tyTab, gx]]
        rw [decide_eq_true rfl]
        walk_at "ss"
        refine w_isi (.lst gy) (by decide) ?_
        walk_at "ss"
        refine w_isi (.lst gx) (by decide) ?_
        walk_at "ss"
        rw [show isTy H "list" _ = true from by simp [isTy, tyN, tyTab, gy], show isTy H "list" _ = true from by simp [isTy, tyN, tyTab, gx]]
        rw [decide_eq_true rfl]
        refine w_iteNT ?_
        exact main _ _ _ _ ds rfl rfl (.inl (SqL.of gx)) (.inl (SqL.of gy)) hxs hys hf.1 hf.2
  | tuple ds =>
    rw [Bool.and_eq_true, decide_eq_true_eq] at hf
    cases hx with
    | tup gx hxs =>
      cases hy with
      | tup gy hys =>
        refine w_isi (.tup gy) (by decide) ?_
        walk_at "ss"
        refine w_isi (.tup gx) (by decide) ?_
        walk_at "ss"
        rw [show isTy H "tuple" _ = true from by simp [isTy, tyN, tyTab, gy], show isTy H "tuple" _ = true from by simp [isTy, tyN, tyTab, gx]]
        rw [decide_eq_true rfl]
        walk_at "ss"
        refine w_isi (.tup gy) (by decide) ?_
        walk_at "ss"
        refine w_isi (.tup gx) (by decide) ?_
        walk_at "ss"
        rw [show isTy H "list" _ = false from by simp [isTy, tyN, tyTab, gy], show isTy H "list" _ = false from by simp [isTy, tyN, tyTab, gx]]
        rw [decide_eq_true rfl]
        refine w_iteNT ?_
        exact main _ _ _ _ ds rfl rfl (.inr (SqT.of gx)) (.inr (SqT.of gy)) hxs hys hf.1 hf.2
  | none => exact absurd rfl dn
  | bool b => simp [tyD, tyTab] at e
  | int b => simp [tyD, tyTab] at e2
  | str b => simp [tyD, tyTab] at e3
  | dict b => cases hf

/-! ### points -/
def splitOk (r : R) (a b : PyData) : Bool := inD 1 r.top a && inD 1 r.top b && decide (intD a + intD b ≤ r.top)
def sp_points (Γ : Gm) : Sp := fun vs H Q E => ∃ v r x y a b, vs = [v, x, y] ∧ RuleAt Γ H v r ∧ Dv H x a ∧ Dv H y b ∧ (splitOk r a b = false → E (.ref Γ.cBadSplit) none H) ∧ (splitOk r a b = true → ∀ H', Same H H' → Q (.int (r.pts (intD a) (intD b))) H')
theorem inD_int {lo hi : Int} {d : PyData} (h : inD lo hi d = true) : ∃ n, d = .int n ∧ lo ≤ n ∧ n ≤ hi := by
  cases d with
  | int n =>
    simp only [inD, Bool.and_eq_true, decide_eq_true_eq] at h
    exact ⟨n, rfl, h⟩
  | _ => simp [inD] at h
theorem dv_int {H : Hp} {x : V} {n : Int} (h : Dv H x (.int n)) : x = .int n := by cases h; rfl
/-- points: rule, first, second, top -/
def t_points (Γ : Gm) (E : XK) : TS := (tSeq (tAsg (tCal (sp_most_of Γ) E0 (tCons (tVar 0) tNil)) (gName 3))
  (tSeq (tIfS (tOr (tNot (tB (tCal (sp_is_from Γ) E0 (tCons (tVar 1) (tCons (tC (.int 1)) (tCons (tVar 3) tNil)))))) (tOr (tNot (tB (tCal (sp_is_from Γ) E0 (tCons (tVar 2) (tCons (tC (.int 1)) (tCons (tVar 3) tNil)))))) (tTest (tOp rGt (tOp (rAddU Γ.K) (tVar 1) (tVar 2)) (tVar 3))))) (tRaise Γ.cBadSplit (fun cls d _ H => E cls d H)) tNext)
  (tRet (tCal (sp_points_by Γ) E0 (tCons (tVar 0) (tCons (tVar 1) (tCons (tVar 2) tNil)))))))
theorem rd_points (Γ : Gm) (vs : List V) (H : Hp) (Q : VK) (E : XK) (h : sp_points Γ vs H Q E) : t_points Γ E ⟨fun _ H' => Q .non H', Q, fun _ _ => False, fun _ _ => False⟩ (startN 4 vs) H := by
  obtain ⟨v, r, x, y, a, b, rfl, hr, hx, hy, k1, k2⟩ := h
  unfold t_points
  walk_at "ss"
  refine ⟨v, r, rfl, hr, ?_⟩
  walk_at "ss"
  refine ⟨x, _, _, rfl, hx.tag, ?_⟩
  rw [hx.inR]
  walk_at "ss"
  refine w_ite (fun e => ?_) (fun e => ?_)
  · walk_at "ss"
    refine k1 ?_
    have e' : inD 1 r.top a = false := by simpa using e
    unfold splitOk
    rw [e', Bool.false_and, Bool.false_and]
  have e' : inD 1 r.top a = true := by simpa using e
  walk_at "ss"
  refine ⟨y, _, _, rfl, hy.tag, ?_⟩
  rw [hy.inR]
  walk_at "ss"
  refine w_ite (fun e2 => ?_) (fun e2 => ?_)
  · walk_at "ss"
    refine k1 ?_
    have e2' : inD 1 r.top b = false := by simpa using e2
    unfold splitOk
    rw [e2', Bool.and_false, Bool.false_and]
  have e2' : inD 1 r.top b = true := by simpa using e2
  obtain ⟨m, rfl, m1, m2⟩ := inD_int e'
  obtain ⟨n, rfl, n1, n2⟩ := inD_int e2'
  have ex := dv_int hx
  have ey := dv_int hy
  subst ex ey
  walk_at "ss"
  refine w_ite (fun e3 => ?_) (fun e3 => ?_)
  · walk_at "ss"
    refine k1 ?_
    unfold splitOk
    rw [Bool.and_eq_false_iff]
    right
    have := of_decide_eq_true e3
    exact decide_eq_false (show ¬ (m + n ≤ r.top) by omega)
  · have h3 := of_decide_eq_false e3
    walk_at "ss"
    refine ⟨v, r, m, n, rfl, hr, m1, n1, by omega, ?_⟩
    refine k2 ?_
    unfold splitOk
    rw [e', e2']
    show (true && true && decide (m + n ≤ r.top)) = true
    rw [decide_eq_true (by omega)]
    rfl
/-! ### the law's own points -/
def sp__law_points (Γ : Gm) : Sp := fun vs H Q _ => ∃ v r a b, vs = [v, .int a, .int b] ∧ RuleAt Γ H v r ∧ 1 ≤ a ∧ 1 ≤ b ∧ a + b ≤ r.top ∧ Q (.int (r.pts a b)) H
/-- law_points: _law_rule_here, _law_one, _law_other, _law_found, _law_number, _law_i, _law_j, _law_k -/
def t__law_points (Γ : Gm) : TS := (tSeq (tIfS (tTest (tOp (rEqU Γ.K) (tPrp Γ.cRule "form" (tVar 0)) (tC (.str "table")))) (tRet (tOp (rIx Γ.K) (tOp (rIx Γ.K) (tPrp Γ.cRule "body" (tVar 0)) (tOp rSubI (tVar 1) (tC (.int 1)))) (tOp rSubI (tVar 2) (tC (.int 1))))) tNext)
  (tSeq (tAsg (tC (.int 0)) (gName 3))
  (tSeq (tFor (iSeq Γ.K (tPrp Γ.cRule "body" (tVar 0))) (gTup Γ.K 3 (gCons (gName 4) (gCons (gName 5) (gCons (gName 6) gNil)))) (tSeq (tFor (iRng1 (tCons (tVar 5) tNil)) (gName 7) (tAsg (tOp (rMulU Γ.K) (tVar 4) (tVar 1)) (gName 4)))
  (tSeq (tFor (iRng1 (tCons (tVar 6) tNil)) (gName 7) (tAsg (tOp (rMulU Γ.K) (tVar 4) (tVar 2)) (gName 4)))
  (tAsg (tOp (rAddU Γ.K) (tVar 3) (tVar 4)) (gName 3)))))
  (tRet (tVar 3)))))
theorem rd__law_points (Γ : Gm) (vs : List V) (H : Hp) (Q : VK) (E : XK) (h : sp__law_points Γ vs H Q E) : t__law_points Γ ⟨fun _ H' => Q .non H', Q, fun _ _ => False, fun _ _ => False⟩ (startN 8 vs) H := by
  obtain ⟨v, r, a, b, rfl, hr, ha, hb, hs, q⟩ := h
  unfold t__law_points
  walk_at "ss"
  refine k_kind hr ?_
  walk_at "ss"
  rw [kind_tab]
  have hok : r.ok := by obtain ⟨_, _, _, _, _, _, h⟩ := hr; exact h
  cases r with
  | tab rows =>
    refine w_iteT ?_
    walk_at "ss"
    refine k_parts hr fun bb xs hx ht => ?_
    obtain ⟨row, e1, e2⟩ := tab_at hok ha hb hs
    obtain ⟨a', ys, z1, z2, z3⟩ := ht.inv
    cases z1
    rw [hx] at z2
    cases z2
    obtain ⟨w, hw, tw⟩ := z3.get (i := (a - 1).toNat) (d := .tuple (row.map PyData.int)) (by rw [List.getElem?_map, e1]; rfl)
    obtain ⟨c, zs, rfl, hc, tc⟩ := tw.inv
    walk_at "ss"
    refine w_ixT (SqT.of hx) (atI_of (by omega) hw) ?_
    walk_at "ss"
    have ez := tc.ints
    subst ez
    refine w_ixT (SqT.of hc) (atI_of (by omega) (by rw [List.getElem?_map, e2]; rfl)) ?_
    exact q
  | trm ts =>
    refine w_iteF ?_
    walk_at "ss"
    refine k_parts hr fun bb xs hx ht => ?_
    obtain ⟨a', ys, z1, z2, z3⟩ := ht.inv
    cases z1
    rw [hx] at z2
    cases z2
    refine k_seqT (SqT.of hx) ?_
    have hlen : xs.length = ts.length := by rw [z3.length, List.length_map]
    refine k_tup (xs := xs) (fun i σ H' => ∃ x4 x5 x6 x7, σ = [some v, some (.int a), some (.int b), some (.int ((ts.take i).map (tval a b)).sum), x4, x5, x6, x7] ∧ H' = H) ⟨none, none, none, none, rfl, rfl⟩ (fun i σ H' _ ⟨_, _, _, _, _, e⟩ => by rw [e]; exact SqT.of hx) ?_ ?_
    · rintro i x σ H' hi ⟨x4, x5, x6, x7, rfl, rfl⟩
      obtain ⟨d, hd, tx⟩ := z3.get' hi
      rw [List.getElem?_map] at hd
      obtain ⟨t, ht', rfl⟩ := Option.map_eq_some_iff.mp hd
      obtain ⟨c, zs, rfl, hc, tc⟩ := tx.inv
      have ez := tc.ints
      subst ez
      obtain ⟨n, i1, j1⟩ := t
      refine w_gTup (xs := [V.int n, V.int i1, V.int j1]) (SqT.of hc) rfl ?_
      walk_at "ss"
      obtain ⟨hl6, hb6⟩ := hok
      have hm := hb6 _ (List.mem_of_getElem? ht')
      dsimp only at hm
      have top : a + b ≤ 1000000000000000000000000000000 := hs
      have ba : a.natAbs ≤ 2 ^ 100 := by omega
      have bb' : b.natAbs ≤ 2 ^ 100 := by omega
      have n1 : n.natAbs ≤ 2 ^ 20 := by omega
      refine k_rng1 (by omega) ?_
      refine k_range (fun k σ H1 => ∃ x7, σ = [some v, some (.int a), some (.int b), some (.int ((ts.take i).map (tval a b)).sum), some (.int (n * a ^ k)), some (.int i1), some (.int j1), x7] ∧ H1 = H') ⟨x7, by rw [Int.pow_zero, Int.mul_one]; rfl, rfl⟩ ?_ ?_
      · rintro k σ H1 hk ⟨x7', rfl, rfl⟩
        have hk' : k < i1 := by simpa using hk
        have k1 : 100 * k ≤ 100 * 4 := Nat.mul_le_mul_left _ (by omega)
        walk_at "ss"
        refine w_mulI (cmul_of (mul_nat n1 (pow_nat ba)) ba) ?_
        walk_at "ss"
        exact ⟨_, by rw [Int.pow_succ, ← Int.mul_assoc]; rfl, rfl⟩
      · rintro σ H1 ⟨x7', rfl, rfl⟩
        walk_at "ss"
        refine k_rng1 (by omega) ?_
        have ei : (i1 : Int).toNat = i1 := Int.toNat_natCast i1
        rw [ei]
        refine k_range (fun k σ H2 => ∃ x7, σ = [some v, some (.int a), some (.int b), some (.int ((ts.take i).map (tval a b)).sum), some (.int (n * a ^ i1 * b ^ k)), some (.int i1), some (.int j1), x7] ∧ H2 = H1) ⟨x7', by rw [Int.pow_zero, Int.mul_one], rfl⟩ ?_ ?_
        · rintro k σ H2 hk ⟨x7'', rfl, rfl⟩
          have hk' : k < j1 := by simpa using hk
          have k1 : 100 * k ≤ 100 * 4 := Nat.mul_le_mul_left _ (by omega)
          have k2 : 100 * i1 ≤ 100 * 4 := Nat.mul_le_mul_left _ (by omega)
          walk_at "ss"
          refine w_mulI (cmul_of (mul_nat (mul_nat n1 (pow_nat ba)) (pow_nat bb')) bb') ?_
          walk_at "ss"
          exact ⟨_, by rw [Int.pow_succ, ← Int.mul_assoc]; rfl, rfl⟩
        · rintro σ H2 ⟨x7'', rfl, rfl⟩
          have ej : (j1 : Int).toNat = j1 := Int.toNat_natCast j1
          rw [ej]
          walk_at "ss"
          have es : ((ts.take (i + 1)).map (tval a b)).sum = ((ts.take i).map (tval a b)).sum + n * a ^ i1 * b ^ j1 := by
            rw [take_succ ht', List.map_append, List.sum_append]
            simp only [List.map_cons, List.map_nil, List.sum_cons, List.sum_nil, Int.add_zero, tval]
          rw [es]
          exact ⟨_, _, _, _, rfl, rfl⟩
    · rintro σ H' ⟨x4, x5, x6, x7, rfl, rfl⟩
      rw [hlen, List.take_length]
      walk_at "ss"
      exact q
/-! ### a law's promise -/
def spLaw (K : PySem.W.Frag) : Sp := fun vs H Q _ => ∃ (a : Addr) (ns : List Int), vs = [.ref a] ∧ SqL K H a (ns.map V.int) ∧ ns.length ≤ 63 ∧ ∀ H', Q (.bl true) H'
theorem mem_of {xs : List V} {ds : List PyData} {H : Hp} {i : Nat} {x : V} (t : TpAll H xs ds) (h : xs[i]? = some x) : ∃ d ∈ ds, Tp H x d := by
  obtain ⟨d, hd, td⟩ := t.get' h
  exact ⟨d, List.mem_of_getElem? hd, td⟩
theorem topm_top {r : R} (ok : r.ok) : r.topm 1000000000000000000000000000000 = r.top := by
  cases r with
  | tab rows =>
    obtain ⟨_, h, _⟩ := ok
    simp only [R.topm, R.top]
    rw [if_pos (by omega)]
  | trm ts => rfl
theorem RuleAt.ok {Γ : Gm} {H : Hp} {v : V} {r : R} (h : RuleAt Γ H v r) : r.ok := by obtain ⟨_, _, _, _, _, _, h⟩ := h; exact h
theorem top_ge {r : R} (ok : r.ok) : 2 ≤ r.top ∧ r.top ≤ 1000000000000000000000000000000 := by
  cases r with
  | tab rows =>
    obtain ⟨h1, h, _⟩ := ok
    have : (R.tab rows).top = (rows.length : Int) + 1 := rfl
    omega
  | trm ts => exact (by decide : (2 : Int) ≤ 1000000000000000000000000000000 ∧ (1000000000000000000000000000000 : Int) ≤ 1000000000000000000000000000000)
theorem w_min {K : PySem.W.Frag} {H : Hp} {Q : VK} {a : Addr} {ns : List Int} (h : H a = some (.lst (ns.map V.int))) (h0 : 0 < ns.length) (k : ∀ m, m ∈ ns → (∀ y, y ∈ ns → m ≤ y) → Q (.int m) H) : rMin K [.ref a] H Q := ⟨a, ns, rfl, SqL.of h, h0, k⟩
theorem w_max {K : PySem.W.Frag} {H : Hp} {Q : VK} {a : Addr} {ns : List Int} (h : H a = some (.lst (ns.map V.int))) (h0 : 0 < ns.length) (k : ∀ m, m ∈ ns → (∀ y, y ∈ ns → y ≤ m) → Q (.int m) H) : rMax K [.ref a] H Q := ⟨a, ns, rfl, SqL.of h, h0, k⟩
theorem w_equal {Γ : Gm} {H : Hp} {Q : VK} {x y : V} {d : PyData} {E : XK} (hx : Dv H x d) (hy : Dv H y d) (hf : flatN 45 d = true) (k : ∀ H', Same H H' → Q (.bl true) H') : sp__law_equal Γ [x, y] H Q E := ⟨x, y, d, rfl, hx, hy, hf, k⟩

/-! ### len of an instance of an own class -/
def rLenO (C : Addr) (sp : Sp) (xs : List V) (H : Hp) (Q : VK) : Prop := ∃ a dx fs, xs = [.ref a] ∧ H a = some (.ins C dx fs) ∧ sp [.ref a] H (fun v H' => ∃ n : Int, v = .int n ∧ 0 ≤ n ∧ n < 2 ^ 63 ∧ Q (.int n) H') E0
theorem call_lenO {X : Cx} {C : Addr} {k : Nat} {ps : List Str} {sp : Sp} (c : CalM X.prog X.w X.K X.mg X.base CX0 C "__len__" k ps sp) (hr : Room (k + 1) X.A) : CallR X (.builtin "len") (rLenO C sp) := by
  obtain ⟨f, fd, F, hm, hb⟩ := c.ex
  intro pins s σ H xs us Q I rv h
  obtain ⟨a, dx, fs, rfl, ha, q⟩ := h
  obtain _ | ⟨r, rs⟩ := rv
  cases rs
  cases r
  refine wpAny_call (codeAny_call_builtin (b := PySem.Builtin.len) (by decide) entry_len ?_)
  show wpAny _ _ (pure ()) _ _ _
  refine wpAny_pure ?_
  have hi : ∃ ox od, PySem.W.InstAt s.heap a ox C od := by
    have z := I.hok a _ ha
    simp only [L2.ObjOk] at z
    obtain ⟨_, _, _, z1, mA, z2, _⟩ := z
    obtain ⟨od, hod⟩ : ∃ od, s.heap.get? dx = some od := by
      obtain ⟨o, _, _, e, _⟩ := z2
      exact ⟨o, e⟩
    exact ⟨_, some od, z1, rfl, rfl, hod⟩
  obtain ⟨ox, od, hi⟩ := hi
  show wpAny _ _ (callSpecial? (Value.ref a) "__len__" >>= _) _ _ _
  refine wpAny_bind (PySem.W.special_fn I.kIn hi hm.at_ (beq_iff_eq.mp hm.fn) ?_)
  have hl : (Value.ref a :: ([] : List Value)).length = ps.length := (F.len _ _ _ _ q).symm ▸ rfl
  have hbb := hb _ [Value.ref a] I.kIn hl
  rw [List.append_nil] at hbb
  refine wpAny_call (codeAny_mono (F.run _ X.stack _ _ ⟨[Value.ref a], []⟩ [Value.ref a] [.ref a] _ E0 hr.in1 I.env0.in1 hbb (Paired.cons (show L2.RelV (.ref a) (.ref a) from rfl) .nil) q) fun r s' hq' => ?_)
  cases r with
  | error e => exact False.elim hq'
  | ok fl =>
    cases fl with
    | ret u =>
      obtain ⟨v, H', I3, rv, n, rfl, h1, h2, q3⟩ := I.after hq'
      obtain ⟨t, rfl⟩ := rv
      show wpAny _ _ (holding [_] _ >>= _) _ _ _
      refine wpAny_bind (wpAny_holding ?_)
      refine wpAny_bind (wpAny_pure ?_)
      show wpAny _ _ (pure n) _ _ _
      refine wpAny_pure ?_
      refine wpAny_bind (wpAny_letGo ?_)
      show wpAny _ _ (if n < 0 then _ else (if n ≥ 2 ^ 63 then _ else retInt n)) _ _ _
      rw [if_neg (by omega), if_neg (by omega)]
      refine wpAny_bind (wpAny_mkInt ?_)
      show wpAny _ _ (pure _) _ _ _
      refine wpAny_pure ?_
      exact ⟨.int n, H', I3.tok _, ⟨_, rfl⟩, q3⟩
    | next => exact False.elim hq'
    | brk => exact False.elim hq'
    | cont => exact False.elim hq'
/-! ### a property whose getter is any def -/
structure CalQ (P : Program) (w : World) (K : PySem.W.Frag) (mg : Str → Option Value) (base : Heap) (C : Addr) (f : Str) (k : Nat) (sp : Sp) : Prop where
  cls : Cls K C
  ex : ∃ (p g : Addr) (fd : FuncData), PropOf K C f p g ∧ FnOk P w K mg base CX0 k g fd ["self"] sp ∧ Binds K fd ["self"] []
def kPrs (C : Addr) (sp : Sp) (x : V) (H : Hp) (Q : VK) : Prop := ∃ a dx fs, x = .ref a ∧ H a = some (.ins C dx fs) ∧ sp [.ref a] H Q E0
def tPrs (C : Addr) (sp : Sp) (ta : TE) : TE := fun σ H Q => ta σ H fun x H1 => kPrs C sp x H1 Q
theorem pe_prs {X : Cx} {C : Addr} {f : Str} {sp : Sp} {k : Nat} {e : Expr} {ta : TE} {pos : Pos} (c : CalQ X.prog X.w X.K X.mg X.base C f k sp) (hr : Room (k + 1) X.A) (he : PE X e ta)
    (hab : attributeBase e f X.env (eval e X.env) = eval e X.env) : PE X (.Attribute e f pos) (tPrs C sp ta) := by
  obtain ⟨p, g, fd, hp, F, hb⟩ := c.ex
  exact pe_prop (pos := pos) (E := E0) he c.cls hp F hr hb .nil pass0 hab
theorem w_prs {σ : St} {H : Hp} {Q : VK} {ta : TE} {C : Addr} {sp : Sp} (h : ta σ H fun x H1 => kPrs C sp x H1 Q) : tPrs C sp ta σ H Q := h
theorem w_star {σ : St} {H : Hp} {QA : List V → Hp → Prop} {K : PySem.W.Frag} {te : TE} {tr : TA} (h : te σ H fun x H1 => ∃ p xs, x = .ref p ∧ (SqT K H1 p xs ∨ SqL K H1 p xs) ∧ tr σ H1 fun ys H2 => QA (xs ++ ys) H2) : StX.tStar K te tr σ H QA := h
theorem w_metS {σ : St} {H : Hp} {Q : VK} {C : Addr} {m : Str} {sp : Sp} {E : St → XK} {ta : TE} {t : TA} (h : ta σ H fun x H1 => ∃ a dx fs, x = .ref a ∧ H1 a = some (.ins C dx fs) ∧ fs.lookup m = none ∧ t σ H1 fun vs H2 => sp (x :: vs) H2 Q (E σ)) : tMetS C m sp E ta t σ H Q := h
/-! ### slices of tuples -/
def cutD (ds : List PyData) (lo hi : Option Int) : List PyData := List.take (HT.sIx ds.length ds.length hi - HT.sIx ds.length 0 lo) (List.drop (HT.sIx ds.length 0 lo) ds)
theorem TpAll.take {H : Hp} : ∀ (n : Nat) {vs : List V} {ds : List PyData}, TpAll H vs ds → TpAll H (vs.take n) (ds.take n)
  | 0, _, _, _ => .nil
  | _ + 1, _, _, .nil => .nil
  | n + 1, _, _, .cons h k => .cons h (TpAll.take n k)
theorem TpAll.drop {H : Hp} : ∀ (n : Nat) {vs : List V} {ds : List PyData}, TpAll H vs ds → TpAll H (vs.drop n) (ds.drop n)
  | 0, _, _, h => h
  | _ + 1, _, _, .nil => .nil
  | n + 1, _, _, .cons _ k => TpAll.drop n k
theorem w_slT {K : PySem.W.Frag} {H : Hp} {Q : VK} {v : V} {ds : List PyData} {lo hi : Option Int} (hv : Tp H v (.tuple ds)) (h : ∀ u H', Same H H' → Tp H' u (.tuple (cutD ds lo hi)) → Q u H') : rSlU K v lo hi H Q := by
  obtain ⟨a, xs, rfl, ha, ta⟩ := hv.inv
  have el := ta.length
  refine .inr (.inl ⟨a, xs, rfl, SqT.of ha, ?_, ?_⟩)
  · rintro ⟨z1, z2⟩
    have := h (.ref a) H (Same.refl H)
    unfold cutD at this
    rw [← el, z1, z2, Nat.sub_zero, List.drop_zero, List.take_of_length_le (by rw [el]; exact Nat.le_refl _)] at this
    exact this hv
  · intro z p hp
    have e := Same.new (o := .tup (cutV xs lo hi)) hp
    refine h _ _ e (.tup upd_same ?_)
    unfold cutV cutD
    rw [← el]
    exact ((ta.drop _).take _).mono (Same.tups e)
theorem cutD_to {ds : List PyData} {i : Nat} : cutD ds none (some (i : Int)) = ds.take i := by
  unfold cutD HT.sIx
  simp only [Nat.sub_zero, List.drop_zero]
  rw [if_neg (by omega), Int.toNat_natCast]
  by_cases h : i ≤ ds.length
  · rw [Nat.min_eq_left h]
  · rw [Nat.min_eq_right (by omega), List.take_of_length_le (Nat.le_refl _), List.take_of_length_le (by omega)]
theorem cutD_from {ds : List PyData} {i : Nat} : cutD ds (some (i : Int)) none = ds.drop i := by
  unfold cutD HT.sIx
  simp only
  rw [if_neg (by omega), Int.toNat_natCast]
  by_cases h : i ≤ ds.length
  · rw [Nat.min_eq_left h, List.take_of_length_le (by rw [List.length_drop]; exact Nat.le_refl _)]
  · rw [Nat.min_eq_right (by omega), Nat.sub_self, List.take_zero, List.drop_of_length_le (by omega)]
theorem cutD_last {ds : List PyData} {i : Nat} : cutD ds none (some (-((i : Int) + 1))) = ds.take (ds.length - (i + 1)) := by
  unfold cutD HT.sIx
  simp only [Nat.sub_zero, List.drop_zero]
  rw [if_pos (by omega)]
  congr 1
  omega
theorem w_ifY {b : Bool} {A B : Prop} (h : b = true) (k : A) : if b = true then A else B := by rw [if_pos h]; exact k
theorem w_ifN {b : Bool} {A B : Prop} (h : b = false) (k : B) : if b = true then A else B := by rw [if_neg (by rw [h]; decide)]; exact k
theorem inD_yes {lo hi n : Int} (h1 : lo ≤ n) (h2 : n ≤ hi) : inD lo hi (.int n) = true := by
  show (decide (lo ≤ n) && decide (n ≤ hi)) = true
  rw [decide_eq_true h1, decide_eq_true h2]
  rfl
theorem w_dnewK {σ : St} {H : Hp} {Q : VK} (h : ∀ p H', H p = none → Same H H' → H' p = some (.dK []) → Q (.ref p) H') : tDNewK σ H Q := alloc h

/-! ### == of data -/
mutual
theorem Dv.dp {K : PySem.W.Frag} {H : Hp} : ∀ {n : Nat} {v : V} {d : PyData}, flatN n d = true → Dv H v d → Dp K H v d
  | 0, _, _, h, _ => by unfold flatN at h; cases h
  | n + 1, _, _, _, .non => .non
  | n + 1, _, _, _, .bl b => .bl b
  | n + 1, _, _, _, .int i => .int i
  | n + 1, _, _, _, .str x => .str x
  | n + 1, _, _, h, .lst g k => .lst (SqL.of g) (DvAll.dp (n := n) (by unfold flatN at h; exact (Bool.and_eq_true_iff.mp h).2) k)
  | n + 1, _, _, h, .tup g k => .tup (SqT.of g) (DvAll.dp (n := n) (by unfold flatN at h; exact (Bool.and_eq_true_iff.mp h).2) k)
  | n + 1, _, _, h, .dict g => by unfold flatN at h; cases h
theorem DvAll.dp {K : PySem.W.Frag} {H : Hp} : ∀ {n : Nat} {vs : List V} {ds : List PyData}, flatAll n ds = true → DvAll H vs ds → DpAll K H vs ds
  | _, _, _, _, .nil => .nil
  | n, _, _, h, .cons g k => by
    unfold flatAll at h
    have h' := Bool.and_eq_true_iff.mp h
    exact .cons (Dv.dp (n := n) h'.1 g) (DvAll.dp (n := n) h'.2 k)
end
/-! no strings but short ones, no truth values: what is compared in the laws -/
mutual
def pureD : PyData → Bool
  | .none => true
  | .bool _ => false
  | .int _ => true
  | .str x => PySem.PyData.strOk x
  | .list ds => pureAll ds
  | .tuple ds => pureAll ds
  | .dict _ => false
def pureAll : List PyData → Bool
  | [] => true
  | d :: ds => pureD d && pureAll ds
end
mutual
theorem pure_lay : ∀ {d : PyData}, pureD d = true → d.canLay0 = true
  | .none, _ => by unfold PyData.canLay0; rfl
  | .bool _, h => by unfold pureD at h; cases h
  | .int _, _ => by unfold PyData.canLay0; rfl
  | .str x, h => by unfold pureD at h; unfold PyData.canLay0; exact h
  | .list ds, h => by unfold pureD at h; unfold PyData.canLay0; exact pure_layAll h
  | .tuple ds, h => by unfold pureD at h; unfold PyData.canLay0; exact pure_layAll h
  | .dict _, h => by unfold pureD at h; cases h
theorem pure_layAll : ∀ {ds : List PyData}, pureAll ds = true → PyData.canLayAll0 ds = true
  | [], _ => by unfold PyData.canLayAll0; rfl
  | d :: ds, h => by
    unfold pureAll at h
    have h' := Bool.and_eq_true_iff.mp h
    unfold PyData.canLayAll0
    rw [pure_lay h'.1, pure_layAll h'.2]
    rfl
end
mutual
theorem eqv_pure : ∀ {d e : PyData}, pureD d = true → pureD e = true → PyData.eqv d e = true → d = e
  | .none, e, _, he, h => by cases e <;> simp [PyData.eqv] at h ⊢
  | .bool _, _, h, _, _ => by unfold pureD at h; cases h
  | .int i, e, _, he, h => by
    cases e with
    | int j => simp [PyData.eqv] at h; rw [h]
    | bool b => unfold pureD at he; cases he
    | _ => simp [PyData.eqv] at h
  | .str x, e, _, he, h => by cases e <;> simp [PyData.eqv] at h ⊢; exact h
  | .list ds, e, hd, he, h => by
    cases e with
    | list es =>
      unfold pureD at hd he
      rw [PyData.eqv] at h
      rw [eqv_pureAll hd he h]
    | _ => simp [PyData.eqv] at h
  | .tuple ds, e, hd, he, h => by
    cases e with
    | tuple es =>
      unfold pureD at hd he
      rw [PyData.eqv] at h
      rw [eqv_pureAll hd he h]
    | _ => simp [PyData.eqv] at h
  | .dict _, _, h, _, _ => by unfold pureD at h; cases h
theorem eqv_pureAll : ∀ {ds es : List PyData}, pureAll ds = true → pureAll es = true → PyData.eqvAll ds es = true → ds = es
  | [], [], _, _, _ => rfl
  | [], _ :: _, _, _, h => by simp [PyData.eqvAll] at h
  | _ :: _, [], _, _, h => by simp [PyData.eqvAll] at h
  | d :: ds, e :: es, hd, he, h => by
    unfold pureAll at hd he
    rw [PyData.eqvAll] at h
    have h1 := Bool.and_eq_true_iff.mp hd
    have h2 := Bool.and_eq_true_iff.mp he
    have h3 := Bool.and_eq_true_iff.mp h
    rw [eqv_pure h1.1 h2.1 h3.1, eqv_pureAll h1.2 h2.2 h3.2]
end
theorem eqv_dec {d e : PyData} [dec : Decidable (d = e)] (hd : pureD d = true) (he : pureD e = true) : PyData.eqv d e = decide (d = e) := by
  by_cases h : d = e
  · subst h
    rw [decide_eq_true rfl]
    exact SeqAt.eqv_refl d (pure_lay hd)
  · rw [decide_eq_false h]
    cases hb : PyData.eqv d e with
    | false => rfl
    | true => exact absurd (eqv_pure hd he hb) h
mutual
theorem flat_depth : ∀ {n : Nat} {d : PyData}, flatN n d = true → d.depth ≤ n
  | 0, _, h => by unfold flatN at h; cases h
  | n + 1, .none, _ => by simp [PyData.depth]
  | n + 1, .bool _, _ => by simp [PyData.depth]
  | n + 1, .int _, _ => by simp [PyData.depth]
  | n + 1, .str _, _ => by simp [PyData.depth]
  | n + 1, .list ds, h => by
    unfold flatN at h
    have := flat_depthAll (Bool.and_eq_true_iff.mp h).2
    simp only [PyData.depth]; omega
  | n + 1, .tuple ds, h => by
    unfold flatN at h
    have := flat_depthAll (Bool.and_eq_true_iff.mp h).2
    simp only [PyData.depth]; omega
  | n + 1, .dict _, h => by unfold flatN at h; cases h
theorem flat_depthAll : ∀ {n : Nat} {ds : List PyData}, flatAll n ds = true → PyData.depthAll ds ≤ n
  | n, [], _ => by simp [PyData.depthAll]
  | n, d :: ds, h => by
    unfold flatAll at h
    have h' := Bool.and_eq_true_iff.mp h
    have h1 := flat_depth h'.1
    have h2 := flat_depthAll h'.2
    simp only [PyData.depthAll]; omega
end
theorem shaped_of {d : PyData} (h : flatN 45 d = true) (hp : pureD d = true) : SeqAt.shaped d = true := by
  unfold SeqAt.shaped
  rw [pure_lay hp, decide_eq_true (Nat.le_trans (flat_depth h) (by decide))]
  rfl
theorem w_eqD {K : PySem.W.Frag} {H : Hp} {Q : VK} {x y : V} {d e : PyData} [dec : Decidable (d = e)] (hx : Dv H x d) (hy : Dv H y e) (fd : flatN 45 d = true) (fe : flatN 45 e = true) (pd : pureD d = true) (pe : pureD e = true) (q : Q (.bl (decide (d = e))) H) : rEqU K x y H Q :=
  .inr ⟨d, e, hx.dp fd, hy.dp fe, shaped_of fd pd, shaped_of fe pe, by rw [eqv_dec pd pe]; exact q⟩
theorem w_neD {K : PySem.W.Frag} {H : Hp} {Q : VK} {x y : V} {d e : PyData} [dec : Decidable (d = e)] (hx : Dv H x d) (hy : Dv H y e) (fd : flatN 45 d = true) (fe : flatN 45 e = true) (pd : pureD d = true) (pe : pureD e = true) (q : Q (.bl (!decide (d = e))) H) : rNeU K x y H Q :=
  .inr ⟨d, e, hx.dp fd, hy.dp fe, shaped_of fd pd, shaped_of fe pe, by rw [eqv_dec pd pe]; exact q⟩
/-! lists of ints -/
theorem pure_ints : ∀ ns : List Int, pureAll (ns.map PyData.int) = true
  | [] => by unfold pureAll; rfl
  | n :: ns => by rw [List.map_cons]; unfold pureAll pureD; rw [pure_ints ns]; rfl
theorem flat_intsN {n : Nat} : ∀ ns : List Int, flatAll (n + 1) (ns.map PyData.int) = true
  | [] => by unfold flatAll; rfl
  | m :: ns => by rw [List.map_cons]; unfold flatAll flatN; rw [flat_intsN ns]; rfl
theorem flat_listI {ns : List Int} (h : ns.length ≤ 100000) : flatN 45 (.list (ns.map PyData.int)) = true := by
  unfold flatN
  rw [flat_intsN, List.length_map, decide_eq_true h]
  rfl
theorem flat_tupI {ns : List Int} (h : ns.length ≤ 100000) : flatN 45 (.tuple (ns.map PyData.int)) = true := by
  unfold flatN
  rw [flat_intsN, List.length_map, decide_eq_true h]
  rfl
theorem pure_listI (ns : List Int) : pureD (.list (ns.map PyData.int)) = true := by unfold pureD; exact pure_ints ns
theorem pure_tupI (ns : List Int) : pureD (.tuple (ns.map PyData.int)) = true := by unfold pureD; exact pure_ints ns
theorem map_int_inj {ns ms : List Int} (h : ns.map PyData.int = ms.map PyData.int) : ns = ms := by
  induction ns generalizing ms with
  | nil => cases ms with
    | nil => rfl
    | cons _ _ => cases h
  | cons a ns ih => cases ms with
    | nil => cases h
    | cons b ms =>
      rw [List.map_cons, List.map_cons] at h
      injection h with h1 h2
      injection h1 with h1
      rw [h1, ih h2]
theorem w_eqLI {K : PySem.W.Frag} {H : Hp} {Q : VK} {a b : Addr} {ns ms : List Int} (ha : H a = some (.lst (ns.map V.int))) (hb : H b = some (.lst (ms.map V.int))) (h1 : ns.length ≤ 100000) (h2 : ms.length ≤ 100000) (q : Q (.bl (decide (ns = ms))) H) : rEqU K (.ref a) (.ref b) H Q := by
  have dec : Decidable (PyData.list (ns.map PyData.int) = .list (ms.map PyData.int)) := Classical.propDecidable _
  refine w_eqD (dec := dec) (.lst ha ((TpAll.of_ints H ns).dv)) (.lst hb ((TpAll.of_ints H ms).dv)) (flat_listI h1) (flat_listI h2) (pure_listI _) (pure_listI _) ?_
  have e : decide (PyData.list (ns.map PyData.int) = .list (ms.map PyData.int)) = decide (ns = ms) := by
    rw [decide_eq_decide]
    exact ⟨fun z => by injection z with z; exact map_int_inj z, fun z => by rw [z]⟩
  rw [e]
  exact q
theorem w_neLI {K : PySem.W.Frag} {H : Hp} {Q : VK} {a b : Addr} {ns ms : List Int} (ha : H a = some (.lst (ns.map V.int))) (hb : H b = some (.lst (ms.map V.int))) (h1 : ns.length ≤ 100000) (h2 : ms.length ≤ 100000) (q : Q (.bl (!decide (ns = ms))) H) : rNeU K (.ref a) (.ref b) H Q := by
  have dec : Decidable (PyData.list (ns.map PyData.int) = .list (ms.map PyData.int)) := Classical.propDecidable _
  refine w_neD (dec := dec) (.lst ha ((TpAll.of_ints H ns).dv)) (.lst hb ((TpAll.of_ints H ms).dv)) (flat_listI h1) (flat_listI h2) (pure_listI _) (pure_listI _) ?_
  have e : decide (PyData.list (ns.map PyData.int) = .list (ms.map PyData.int)) = decide (ns = ms) := by
    rw [decide_eq_decide]
    exact ⟨fun z => by injection z with z; exact map_int_inj z, fun z => by rw [z]⟩
  rw [e]
  exact q
/-! ### isinstance of a tuple of classes -/
theorem kitAny_ty {K : PySem.W.Frag} {a : String} : ∀ (ns : List String), (∀ n ∈ ns, n ∈ tyNames) → a ∈ ["NoneType", "int", "bool", "str", "tuple", "list", "dict"] → PySem.W.kitAny K (.type a) (ns.map Value.type) = some (ns.any fun n => tyTab a n)
  | [], _, _ => kitAny_nil
  | n :: ns, h, m => by
    have e := kit_ty (K := K) (tyTab_all a m n (h n (List.mem_cons_self ..)))
    have ih := kitAny_ty (K := K) ns (fun x hx => h x (List.mem_cons_of_mem _ hx)) m
    rw [List.map_cons, List.any_cons]
    cases hb : tyTab a n with
    | true => exact kitAny_cons (b := true) (by rw [e, hb]) (fun z => nomatch z) (fun _ => rfl)
    | false => exact kitAny_cons (b := false) (by rw [e, hb]) (fun _ => ih) (fun z => nomatch z)
theorem paired_ty : ∀ ns : List String, Paired ClsV (ns.map V.ty) (ns.map Value.type)
  | [] => .nil
  | n :: ns => .cons (.ty n) (paired_ty ns)
theorem w_isiT {K : PySem.W.Frag} {H : Hp} {v : V} {tp : Addr} {ns : List String} {Q : VK} (h : Tag K H v) (ht : H tp = some (.tup (ns.map V.ty))) (hn : ∀ n ∈ ns, n ∈ tyNames) (q : Q (.bl (ns.any fun n => isTy H n v)) H) : rIsiT K [v, .ref tp] H Q := by
  have key : ∀ (a : String), TyX K H v (.type a) → tyN H v = a → a ∈ ["NoneType", "int", "bool", "str", "tuple", "list", "dict"] → rIsiT K [v, .ref tp] H Q := fun a t e m =>
    ⟨v, tp, _, .type a, _, _, rfl, ht, paired_ty ns, t, kitAny_ty ns hn m, by unfold isTy at q; rw [e] at q; exact q⟩
  cases h with
  | non => exact key "NoneType" (.base .non) rfl (by decide)
  | bl b => exact key "bool" (.base (.bl b)) rfl (by decide)
  | int i => exact key "int" (.base (.int i)) rfl (by decide)
  | str x => exact key "str" (.base (.str x)) rfl (by decide)
  | lst h => exact key "list" (.base (.lst h)) (by simp only [tyN, h]) (by decide)
  | tup h => exact key "tuple" (.base (.tup h)) (by simp only [tyN, h]) (by decide)
  | dK h => exact key "dict" (.base (.dK h)) (by simp only [tyN, h]) (by decide)
theorem w_slL {K : PySem.W.Frag} {H : Hp} {Q : VK} {a : Addr} {xs : List V} {lo hi : Option Int} (ha : H a = some (.lst xs)) (h : ∀ p H', H p = none → Same H H' → H' p = some (.lst (cutV xs lo hi)) → Q (.ref p) H') : rSlU K (.ref a) lo hi H Q := .inl ⟨a, xs, rfl, SqL.of ha, alloc h⟩
/-! ### the law's top -/
theorem R.tle {r : R} (ok : r.ok) {m : Int} (h : 2 ≤ m) (h2 : m ≤ 1000000000000000000000000000000) : 2 ≤ r.topm m ∧ r.topm m ≤ m ∧ r.topm m ≤ r.top := by
  cases r with
  | tab rows =>
    obtain ⟨h1, _, _⟩ := ok
    simp only [R.topm, R.top]
    split <;> omega
  | trm ts => exact ⟨h, Int.le_refl _, h2⟩

/-! ### exceptions with an own __init__ -/
structure CalE (P : Program) (w : World) (K : PySem.W.Frag) (mg : Str → Option Value) (base : Heap) (C : Addr) (x : Str) (k : Nat) (ps : List Str) (sp : Sp) : Prop where
  m : mg x = some (.ref C)
  T : OexC K C
  ex : ∃ (f : Addr) (fd : FuncData), FnOk P w K mg base CX0 k f fd ps sp ∧ PySem.W.findIn K (.ref C) "__init__" = some (some (.ref f)) ∧ PySem.W.isFn K (.ref f) = true ∧ Binds K fd ps []
/-- what the written part says of such a class with one field -/
structure ErrF (K : PySem.W.Frag) (C : Addr) (f : Str) : Prop where
  T : OexC K C
  X : XfC K C
  n : PySem.W.findIn K (.ref C) f = some none
theorem oex_mk {K : PySem.W.Frag} {C : Addr} {nm q : Str} {N : Addr} {bs bm : List Value} {sn : List Str} {sub : List Value} {ab : Bool} {col : Option Bool} {dd : Option Addr} {k0 k1 k2 k3 k5 : Option Value}
    (l : K.lookup C = some (excClassObj nm q C N bs bm true sn sub ab col dd k0 k1 k2 k3 k5 "ValueError.__new__")) (r : PySem.HandSPX.refsVE bm = true) (sa : PySem.W.findIn K (.ref C) "__setattr__" = some (some (.builtin "object.__setattr__")))
    (e : PySem.W.subIn K (.ref C) (.type "BaseException") = some true) (t : PySem.W.typeIn K (.ref C) = some (.type "type")) (k : PySem.W.keepIn K (.ref C) = true) : OexC K C :=
  ⟨⟨nm, q, N, bs, bm, sn, sub, ab, col, dd, k0, k1, k2, k3, k5, l, r⟩, sa, e, t, k⟩
def kMkO (C : Addr) (sp : Sp) (vs : List V) (H1 : Hp) (Q : XK) : Prop := vs.length ≤ 1000 ∧ ∀ a, H1 a = none → sp (.ref a :: (vs ++ [])) (upd H1 a (exo a C none))
  (fun v H2 => v = .non ∧ ∃ (d : Addr) (fs : List (Str × V)), H2 a = some (exo a C (some d)) ∧ H2 d = some (exd d fs) ∧ H1 d = none ∧ Q (.ref C) (some d) (upd (del H2 a) d (.xd fs))) (fun _ _ _ => False)
def tRaiseO (C : Addr) (sp : Sp) (t : TA) (W : WX) : TS := fun _ σ H => t σ H fun vs H1 => kMkO C sp vs H1 fun cls d H' => W cls d σ H'
theorem w_raiseO {σ : St} {H : Hp} {nx bk ct : St → Hp → Prop} {rt : VK} {C : Addr} {sp : Sp} {t : TA} {W : WX} (h : t σ H fun vs H1 => kMkO C sp vs H1 fun cls d H' => W cls d σ H') : tRaiseO C sp t W ⟨nx, rt, bk, ct⟩ σ H := h
theorem ps_raiseO {X : Cx} {C : Addr} {x : Str} {k : Nat} {ps : List Str} {sp : Sp} {e : Expr} {es : List Expr} {t : TA} {W : WX} {p pos pos2 : Pos} (hc : X.calm = true) (tk : Takes X W) (c : CalE X.prog X.w X.K X.mg X.base C x k ps sp) (hr : Room (k + 1) X.A) (hg : Gl X x) (ha : PA X (e :: es) t)
    (hdb : (x == ("__debug__" : Str)) = false := by decide) (he : starEach (e :: es) X.env = (false, eval e X.env) :: starEach es X.env := by rfl) (hpl : (backTo pos (starEach es X.env)).any (·.1) = false := by rfl) :
    PS X (.Raise (some (.Call (.Name x p) (e :: es) [] pos)) none pos2) (tRaiseO C sp t W) := by
  obtain ⟨f, fd, F, hf, hi, hb⟩ := c.ex
  exact ps_raise hc tk (pmk_oex c.T hf (beq_iff_eq.mp hi) F hr hb .nil pass0 hg c.m ha hdb he hpl)
/-- the promise of an __init__ that stores one field -/
def spOst (C : Addr) (f : Str) : Sp := fun vs H Q _ => ∃ a y, vs = [.ref a, y] ∧ H a = some (exo a C none) ∧ ∀ dx, H dx = none → dx ≠ a → Q .non (upd (upd H dx (exd dx [(f, y)])) a (exo a C (some dx)))
theorem mkO_ost {C : Addr} {f : Str} {y : V} {H1 : Hp} {Q : XK} (k : ∀ d H', H1 d = none → Same H1 H' → H' d = some (.xd [(f, y)]) → Q (.ref C) (some d) H') : kMkO C (spOst C f) [y] H1 Q := by
  refine ⟨by show 1 ≤ 1000; decide, fun a ha => ⟨a, y, rfl, upd_same, fun dx hdx ne => ⟨rfl, dx, [(f, y)], upd_same, ?_, ?_, ?_⟩⟩⟩
  · rw [upd_ne ne, upd_same]
  · rw [upd_ne ne] at hdx
    exact hdx
  · rw [upd_ne ne] at hdx
    refine k dx _ hdx (fun b u hb => ?_) upd_same
    have n1 : b ≠ a := ne_of_none hb ha
    have n2 : b ≠ dx := ne_of_none hb hdx
    rw [upd_ne n2, del_ne n1, upd_ne n1, upd_ne n2, upd_ne n1]
    exact hb
theorem w_ost {K : PySem.W.Frag} {σ : St} {H : Hp} {nx bk ct : St → Hp → Prop} {rt : VK} {f : Str} {to te : TE} (h : te σ H fun y H1 => to σ H1 fun x H2 => ∃ a C : Addr, x = .ref a ∧ OexC K C ∧ PySem.W.findIn K (.ref C) f = some none ∧
  ((H2 a = some (exo a C none) ∧ ∀ dx, H2 dx = none → dx ≠ a → nx σ (upd (upd H2 dx (exd dx [(f, y)])) a (exo a C (some dx)))) ∨
    ∃ (dx : Addr) (fs : List (Str × V)), H2 a = some (exo a C (some dx)) ∧ H2 dx = some (exd dx fs) ∧ fs.length ≤ 900 ∧ nx σ (upd H2 dx (exd dx ((f, y) :: fs))))) : tOst K f to te ⟨nx, rt, bk, ct⟩ σ H := h
/-- an __init__ of one field keeps its promise -/
theorem rd_ost {K : PySem.W.Frag} {C : Addr} {f : Str} (F : ErrF K C f) {n : Nat} (vs : List V) (H : Hp) (Q : VK) (E : XK) (h : spOst C f vs H Q E) : tOst K f (tVar 0) (tVar 1) ⟨fun _ H' => Q .non H', Q, fun _ _ => False, fun _ _ => False⟩ (startN (n + 2) vs) H := by
  obtain ⟨a, y, rfl, ha, k⟩ := h
  refine w_ost ?_
  refine ⟨y, rfl, ?_⟩
  refine ⟨.ref a, rfl, a, C, rfl, F.T, F.n, .inl ⟨ha, fun dx h1 h2 => k dx h1 h2⟩⟩
/-! ### try with clauses of both kinds -/
abbrev HdS := Value × Option Nat × (Addr → Value → Option Addr → TS)
/-- the ends of a suite whose name is slot i's -/
def unE (i : Nat) (D : Ends) : Ends := { nx := fun σ' H' => D.nx (σ'.set i none) H', rt := D.rt, bk := fun σ' H' => D.bk (σ'.set i none) H', ct := fun σ' H' => D.ct (σ'.set i none) H' }
def wMix (K : PySem.W.Frag) (Wout : WX) (D : Ends) : List HdS → WX
  | [] => Wout
  | (c, none, ts) :: r => fun cls d σ H => ∃ b, PySem.W.exmOne K cls c = some b ∧ (b = true → ∀ a, H a = none → ts a cls d D σ H) ∧ (b = false → wMix K Wout D r cls d σ H)
  | (c, some i, ts) :: r => fun cls d σ H => ∃ b, PySem.W.exmOne K cls c = some b ∧ (b = true → ∀ a, H a = none → ts a cls d (unE i D) (σ.set i (some (.ref a))) H) ∧ (b = false → wMix K Wout D r cls d σ H)
inductive HdsMix (X : Cx) : List ExceptHandler → List HdS → Prop
  | nil : HdsMix X [] []
  | cons {x : Str} {c : Value} {ts : Addr → Value → Option Addr → TS} {b₀ : Stmt} {suite : List Stmt} {np pos' : Pos} {hds : List ExceptHandler} {l : List HdS} (hc : Names X x c)
      (hsu : ∀ (a : Addr) (oe : Obj) (cls : Value) (d : Option Addr) (pn : List (Addr × Obj)), Zc cls d oe → (∃ vs, oe.data = .fields vs) → PSs (X.suite a ((a, oe) :: pn)) (b₀ :: suite) (ts a cls d)) (r : HdsMix X hds l) :
      HdsMix X (.ExceptHandler (some (.Name x np)) none (b₀ :: suite) pos' :: hds) ((c, none, ts) :: l)
  | consAs {x n : Str} {i : Nat} {c : Value} {ts : Addr → Value → Option Addr → TS} {b₀ : Stmt} {suite : List Stmt} {np pos' : Pos} {hds : List ExceptHandler} {l : List HdS} (hi : X.N[i]? = some n) (hln : X.env.kindOf n = some .local) (hc : Names X x c)
      (hsu : ∀ (a : Addr) (oe : Obj) (cls : Value) (d : Option Addr) (pn : List (Addr × Obj)), Zc cls d oe → (∃ vs, oe.data = .fields vs) → PSs (X.suite a ((a, oe) :: pn)) (b₀ :: suite) (ts a cls d)) (r : HdsMix X hds l) :
      HdsMix X (.ExceptHandler (some (.Name x np)) (some n) (b₀ :: suite) pos' :: hds) ((c, some i, ts) :: l)
section
variable {X : Cx} {body : List Stmt} {h₀ : ExceptHandler} {hds : List ExceptHandler} {l : List HdS} {pos : Pos} {tb : WX → TS} {Wout : WX}
theorem ps_try_mix (hN : X.N.Nodup) (hs : X.stack = X.env :: X.outer) (hf : X.env.frame = some X.env.locals) (tk : Takes X Wout)
    (hb : ∀ (W : WX) (pn : List (Addr × Obj)) (xe : Value → Shared → Prop), Takes (X.tr pn xe) W → PassesOwn (model X.prog X.w) X.A X.env xe → PSs (X.tr pn xe) body (tb W))
    (hh : HdsMix X (h₀ :: hds) l) : PS X (.Try body (h₀ :: hds) [] [] pos) (fun D σ H => tb (wMix X.K Wout D l) D σ H) := by
  refine ⟨fun pins s σ H D I h => ?_⟩
  have ok := I.ok
  have hfr : X.A.frames = some (X.env :: X.outer) := by rw [ok.frames, hs]
  refine wpAny_Try_except ?_
  refine wpAny_mono ((hb (wMix X.K Wout D l) (X.pn ++ pins) (fun e s₁ => wpAny (model X.prog X.w) X.A (noteFrame e X.env) (fun _ s₂ => wpAny (model X.prog X.w) X.A (setFlight e none) (fun _ s₃ =>
    wpAny (model X.prog X.w) X.A (handleBy e X.env (h₀ :: hds)) (SP X pins D) X.xe s₃) X.xe s₂) X.xe s₁) (fun u s' xx => ?_) PassesOwn.looking).run [] s σ H D (I.toTry _) h) (fun f s1 hsp => ?_) (fun e s1 he => he)
  · obtain ⟨a, B, sI, pins', σ', H', cls, d, rfl, J', nb, up, sky, na, os, ag, w⟩ := xx
    have J : Inv X pins σ' H' sI := J'.ofTry ok
    have sky' : Sky B (X.env :: X.outer) a (Zc cls d) X.env.locals s'.heap := by rw [← hs]; exact sky
    show wpAny (model X.prog X.w) X.A (noteFrame (.ref a) X.env) _ _ _
    refine Sky.land Zc.steady hfr hf sky' fun h3 fl3 up3 => ?_
    have J3 : Inv X pins σ' H' { s' with heap := h3 } := J.landed nb fl3.1 (up.trans up3) os ag
    obtain ⟨oe3, vs3, he3, hz3, hd3⟩ := fl3.there
    have notFr : ∀ {h : Heap} {o : Obj} {vs : Array Value}, h.FunFrames B (X.env :: X.outer) → h.get? a = some o → o.data = .fields vs → a ∉ frs (X.env :: X.outer) := fun {h o vs} ff e dd hm => by
      obtain ⟨_, o', e', hnf⟩ := ff.mem hm
      rw [e] at e'; cases e'
      exact hnf _ dd
    have nfr := notFr fl3.2.2.1 he3 hd3
    have nL : a ≠ X.env.locals := fun z => nfr (List.mem_filterMap.mpr ⟨X.env, List.mem_cons_self, by rw [hf, z]⟩)
    have nF : a ∉ X.fs := fun hm => by
      obtain ⟨e, he, q⟩ := List.mem_filterMap.mp hm
      exact nfr (List.mem_filterMap.mpr ⟨e, List.mem_cons_of_mem _ he, q⟩)
    have S3 := J3.suite he3 hd3 na nL nF
    have LT : PySem.W.Looks (model X.prog X.w) h3 (typeOf (.ref a)) cls := fun A Q E s k q => wpAny_typeOf_ref (k _ _ he3) (by rw [hz3.1]; exact q)
    have test : ∀ {x : Str} {c : Value} {np : Pos} {Q : Value → Shared → Prop} {E : Value → Shared → Prop}, Names X x c → Q c { s' with heap := h3 } → wpAny (model X.prog X.w) (X.A.mark (some (.ref a))) (eval (.Name x np) X.env) Q E { s' with heap := h3 } := fun {x c np Q E} hc q => by
      obtain ⟨hg, hdbg, hm | ⟨hm, hv, hnn⟩⟩ := hc
      · exact ld_glob (X := X.suite a ((a, oe3) :: (X.pn ++ pins))) S3 hg hm q hdbg
      · exact ld_blt (X := X.suite a ((a, oe3) :: (X.pn ++ pins))) S3 hg hm hv q hnn hdbg
    have go : ∀ {hds' : List ExceptHandler} {l' : List HdS}, HdsMix X hds' l' → wMix X.K Wout D l' cls d σ' H' →
        wpAny (model X.prog X.w) X.A (handleBy (.ref a) X.env hds') (SP X pins D) X.xe { s' with heap := h3 } := by
      intro hds' l' hk
      induction hk with
      | nil =>
        intro w
        refine wpAny_handleBy_nil ?_
        obtain ⟨k1, k2, k3, oe, vs, T, oT, ts', he, hz, hd, h1, hr⟩ := id fl3
        unfold PySem.passOn
        refine wpAny_bind (wpAny_field he hd h1 ?_)
        rw [if_neg (show ¬ ((Value.ref T == Value.none) = true) from by simp)]
        have fin : wpAny (model X.prog X.w) X.A (setFlight (.ref a) X.env.frame) (fun _ s4 => wpAny (model X.prog X.w) X.A (throw (.ref a) : Sem Flow) (SP X pins D) X.xe s4) X.xe { s' with heap := h3 } := by
          rw [hf]
          refine HandSPX.setFlight_upZ fl3 fun h4 hh4 up4 => wpAny_throw (tk _ _ ?_)
          exact ⟨a, B, sI, pins, σ', H', cls, d, rfl, J, nb, (up.trans up3).trans up4, .inr (.inr (by rw [hs]; exact hh4)), na, os, ag, w⟩
        first
          | exact wpAny_bind (wpAny_pure (wpAny_bind fin))
          | exact wpAny_bind fin
      | @cons x c ts b₀ suite np pos' hds2 l2 hc hsu r ih =>
        intro w
        obtain ⟨b, hb1, hyes, hno⟩ := w
        refine wpAny_handleBy_cons (codeAny_handlers_test ?_) (by intro q; cases q)
        have LM := PySem.W.exm_one (M := model X.prog X.w) (J3.kIn) LT hb1
        refine test hc (LM.here ?_)
        cases b with
        | true =>
          refine codeAny_handlers_suite ?_
          refine HandSPX.lands_againZ fl3 fun h4 fl4 up4 => ?_
          have J4 : Inv X pins σ' H' { s' with heap := h4 } := J.landed nb fl4.1 ((up.trans up3).trans up4) os ag
          obtain ⟨oe4, vs4, he4, hz4, hd4⟩ := fl4.there
          have S4 := J4.suite he4 hd4 na nL nF
          refine wpAny_mono ((hsu a oe4 cls d (X.pn ++ pins) hz4 ⟨_, hd4⟩).run [] _ _ H' _ S4 (hyes rfl a na)) (fun f s6 hsp => ?_) (fun _ _ z => False.elim z)
          cases f with
          | next =>
            obtain ⟨σ6, H6, S6, q6⟩ := hsp
            exact ⟨_, _, S6.unsuite ok, q6⟩
          | brk =>
            obtain ⟨σ6, H6, S6, q6⟩ := hsp
            exact ⟨_, _, S6.unsuite ok, q6⟩
          | cont =>
            obtain ⟨σ6, H6, S6, q6⟩ := hsp
            exact ⟨_, _, S6.unsuite ok, q6⟩
          | ret u =>
            obtain ⟨v6, σ6, H6, S6, r6, q6⟩ := hsp
            exact ⟨_, _, _, S6.unsuite ok, r6, q6⟩
        | false =>
          show wpAny _ X.A (handleBy (.ref a) X.env hds2) _ _ _
          exact ih (hno rfl)
      | @consAs x n i c ts b₀ suite np pos' hds2 l2 hi hln hc hsu r ih =>
        intro w
        obtain ⟨b, hb1, hyes, hno⟩ := w
        have hloc : Loc X.env.scope n := .inl hln
        refine wpAny_handleBy_cons (codeAny_handlers_test ?_) (by intro q; cases q)
        have LM := PySem.W.exm_one (M := model X.prog X.w) (J3.kIn) LT hb1
        refine test hc (LM.here ?_)
        cases b with
        | true =>
          refine codeAny_handlers_suite_as ?_
          refine HandSPX.lands_againZ fl3 fun h4 fl4 up4 => ?_
          have J4 : Inv X pins σ' H' { s' with heap := h4 } := J.landed nb fl4.1 ((up.trans up3).trans up4) os ag
          obtain ⟨oe4, vs4, he4, hz4, hd4⟩ := fl4.there
          have S4 := J4.suite he4 hd4 na nL nF
          refine store_ok (X := X.suite a ((a, oe4) :: (X.pn ++ pins))) (v := .ref a) S4 hN hi hloc rfl (fun s5 S5 => ?_) (.inr hln)
          refine wpAny_mono ((hsu a oe4 cls d (X.pn ++ pins) hz4 ⟨_, hd4⟩).run [] s5 _ H' _ S5 (hyes rfl a na)) (fun f s6 hsp => ?_) (fun _ _ z => False.elim z)
          have end_ : ∀ {σ6 : St} {H6 : Hp} {Q : Shared → Prop}, Inv (X.suite a ((a, oe4) :: (X.pn ++ pins))) [] σ6 H6 s6 → (∀ s7, Inv X pins (σ6.set i none) H6 s7 → Q s7) →
              wpAny (model X.prog X.w) X.A (do bindName X.env n .none; unbindBehindTheSuite X.env n pos') (fun _ s7 => Q s7) X.xe s6 := fun {σ6 H6 Q} S6 hq => gone_ok (S6.unsuite ok) hN hi hln hq
          cases f with
          | next =>
            obtain ⟨σ6, H6, S6, q6⟩ := hsp
            exact end_ S6 fun s7 J7 => ⟨_, _, J7, q6⟩
          | brk =>
            obtain ⟨σ6, H6, S6, q6⟩ := hsp
            exact end_ S6 fun s7 J7 => ⟨_, _, J7, q6⟩
          | cont =>
            obtain ⟨σ6, H6, S6, q6⟩ := hsp
            exact end_ S6 fun s7 J7 => ⟨_, _, J7, q6⟩
          | ret u =>
            obtain ⟨v6, σ6, H6, S6, r6, q6⟩ := hsp
            exact end_ S6 fun s7 J7 => ⟨_, _, _, J7, r6, q6⟩
        | false =>
          show wpAny _ X.A (handleBy (.ref a) X.env hds2) _ _ _
          exact ih (hno rfl)
    exact go hh w
  · cases f with
    | next =>
      obtain ⟨σ', H', J', q⟩ := hsp
      exact wpAny_execs_nil ⟨σ', H', J'.ofTry ok, q⟩
    | brk =>
      obtain ⟨σ', H', J', q⟩ := hsp
      exact ⟨σ', H', J'.ofTry ok, q⟩
    | cont =>
      obtain ⟨σ', H', J', q⟩ := hsp
      exact ⟨σ', H', J'.ofTry ok, q⟩
    | ret u =>
      obtain ⟨v, σ', H', J', r, q⟩ := hsp
      exact ⟨v, σ', H', J'.ofTry ok, r, q⟩
end
def tTryM (K : PySem.W.Frag) (tb : WX → TS) (l : List HdS) : TS := fun D σ H => tb (wMix K (fun _ _ _ _ => False) D l) D σ H
theorem w_tryM {K : PySem.W.Frag} {σ : St} {H : Hp} {nx bk ct : St → Hp → Prop} {rt : VK} {tbb : WX → TS} {l : List HdS} (h : tbb (wMix K (fun _ _ _ _ => False) ⟨nx, rt, bk, ct⟩ l) ⟨nx, rt, bk, ct⟩ σ H) : tTryM K tbb l ⟨nx, rt, bk, ct⟩ σ H := h

/-! ### exceptions as values -/
def tNewE (C : Addr) : TE := fun _ H Q => ∀ a, H a = none → Q (.ref a) (upd H a (ExO (.ref C) a))
theorem pe_exc0 {X : Cx} {C : Addr} {x : Str} {p pos : Pos} (F : ExcF X.K X.mg x C) (hg : Gl X x) (hdb : (x == ("__debug__" : Str)) = false := by decide) : PE X (.Call (.Name x p) [] [] pos) (tNewE C) := by
  obtain ⟨bm, q, B, I0, FB⟩ := F.ex
  refine ⟨fun pins s σ H Q I h => ?_⟩
  refine wpAny_Call_Name_kw (ld_glob I hg F.g ?_ hdb)
  refine PySem.W.callWith_K0 I.kIn F.k ?_
  show wpAny _ _ (call (.ref C) []) _ _ _
  obtain ⟨bm, N, nm, qn, bs, hdct, sn, sub, ab, col, dd, k0, k1, k2, k3, k5, mN, hC, hN, hni, T⟩ := exc_obj I.kIn q
  refine wpAny_call_exc_subT FB T hC hN hni (fun h' a hm => ?_) (by show 0 ≤ sizeLine; exact Nat.zero_le _)
  have hn : H a = none := I.hok.gone hm.new
  obtain ⟨t, ht, _, _⟩ := hm.there
  exact ⟨.ref a, upd H a (ExO (.ref C) a), I.laidN hm.keeps hm.new hn (exO_ok ht ⟨rfl, rfl⟩ rfl rfl rfl (show 4 < 6 by decide)), rfl, h a hn⟩
def kMkV (C : Addr) (sp : Sp) (vs : List V) (H1 : Hp) (Q : VK) : Prop := vs.length ≤ 1000 ∧ ∀ a, H1 a = none → sp (.ref a :: vs) (upd H1 a (exo a C none)) (fun v H2 => v = .non ∧ Q (.ref a) H2) (fun _ _ _ => False)
def tMkV (C : Addr) (sp : Sp) (t : TA) : TE := fun σ H Q => t σ H fun vs H1 => kMkV C sp vs H1 Q
theorem w_mkV {C : Addr} {sp : Sp} {t : TA} {σ : St} {H : Hp} {Q : VK} (h : t σ H fun vs H1 => kMkV C sp vs H1 Q) : tMkV C sp t σ H Q := h
theorem pe_oexV {X : Cx} {C : Addr} {x : Str} {k : Nat} {ps : List Str} {sp : Sp} {e : Expr} {es : List Expr} {t : TA} {p pos : Pos} (c : CalE X.prog X.w X.K X.mg X.base C x k ps sp) (hr : Room (k + 1) X.A) (hg : Gl X x) (ha : PA X (e :: es) t)
    (hdb : (x == ("__debug__" : Str)) = false := by decide) (he : starEach (e :: es) X.env = (false, eval e X.env) :: starEach es X.env := by rfl) (hpl : (backTo pos (starEach es X.env)).any (·.1) = false := by rfl) :
    PE X (.Call (.Name x p) (e :: es) [] pos) (tMkV C sp t) := by
  obtain ⟨fI, fd, F1, iC, hi, hb⟩ := c.ex
  have T := c.T
  have tI := beq_iff_eq.mp hi
  refine ⟨fun pins s σ H Q I h => ?_⟩
  obtain ⟨nm, q, N, bs, bm, sn, sub, ab, col, dd, k0, k1, k2, k3, k5, hC, hbm⟩ := T.cls
  refine wpAny_Call_Name_kw (ld_glob I hg c.m ?_ hdb)
  refine PySem.W.callWith_K (h₀ := X.base) I.ok.mod.kin T.kC (thn (ha.run pos pins s σ H _ I h) fun us s1 ⟨vs, H1, I1, r1, hz, q1⟩ => ⟨I1.kIn, ?_⟩) he hpl
  show wpAny _ _ (call (.ref C) us) _ _ _
  obtain ⟨hp, g, dr, tk, os⟩ := s1
  have hsz : hp.objs.size ≤ hp.objs.size + 1 := Nat.le_succ _
  have hn : H1 (hp.objs.size + 1) = none := I1.hok.fresh hsz
  have hq := q1 (hp.objs.size + 1) hn
  have kk : ∀ b o, hp.get? b = some o → ((hp.push (PySem.W.kdv_tup us)).push (PySem.HandSPX.excO C hp.objs.size)).get? b = some o := fun b o e => Heap.get?_push_of_some _ (Heap.get?_push_of_some _ e)
  have hget : ((hp.push (PySem.W.kdv_tup us)).push (PySem.HandSPX.excO C hp.objs.size)).get? (hp.objs.size + 1) = some (PySem.HandSPX.excO C hp.objs.size) := by heap_get
  have I2 : Inv X pins σ (upd H1 (hp.objs.size + 1) (exo (hp.objs.size + 1) C none)) ⟨(hp.push (PySem.W.kdv_tup us)).push (PySem.HandSPX.excO C hp.objs.size), g, dr, tk, os⟩ :=
    I1.laid (t' := tk) (a := hp.objs.size + 1) (o := exo (hp.objs.size + 1) C none) (h' := (hp.push (PySem.W.kdv_tup us)).push (PySem.HandSPX.excO C hp.objs.size)) kk hsz (exo_ok hget)
  have r2 : Vals (V.ref (hp.objs.size + 1) :: vs) (Value.ref (hp.objs.size + 1) :: us) := .cons rfl r1
  have hl : (Value.ref (hp.objs.size + 1) :: us ++ ([] : List Value)).length = ps.length := by
    have e := r2.length
    rw [F1.len _ _ _ _ hq] at e
    simpa using e.symm
  have hbb := hb _ (Value.ref (hp.objs.size + 1) :: us) I2.kIn hl
  rw [List.append_nil] at hbb
  have hus : us.length ≤ sizeLine := by
    rw [← Paired.length r1, sizeLine_eq]
    omega
  refine wpAny_call (PySem.HandSPX.call_own F.excBase_ValueError (fun Y => PySem.HandSPX.refsVE_contains Y bm hbm) (I1.kIn _ _ hC) (PySem.W.looks_findIn I1.kIn iC) (fun self => PySem.W.bind_fn I1.kIn self tI) hus
    (codeAny_mono (F1.run _ X.stack _ _ ⟨Value.ref (hp.objs.size + 1) :: us, []⟩ (Value.ref (hp.objs.size + 1) :: us) _ _ (fun _ _ _ => False) (hr.make C us []) (I2.env0.make C us []) hbb r2 hq) fun r s' hq' => ?_))
  cases r with
  | error er => exact False.elim hq'
  | ok fl =>
    cases fl with
    | ret u =>
      obtain ⟨v, H', I3, rv, ev, q3⟩ := I2.after hq'
      subst ev
      exact ⟨rv, ⟨V.ref (hp.objs.size + 1), H', I3, rfl, q3⟩⟩
    | next => exact False.elim hq'
    | brk => exact False.elim hq'
    | cont => exact False.elim hq'
/-- what an __init__ of one field leaves -/
theorem mkV_ost {C : Addr} {f : Str} {y : V} {H1 : Hp} {Q : VK} (k : ∀ a d H', Same H1 H' → H' a = some (exo a C (some d)) → H' d = some (exd d [(f, y)]) → Q (.ref a) H') : kMkV C (spOst C f) [y] H1 Q := by
  refine ⟨by show 1 ≤ 1000; decide, fun a ha => ⟨a, y, rfl, upd_same, fun dx hdx ne => ⟨rfl, ?_⟩⟩⟩
  rw [upd_ne ne] at hdx
  refine k a dx _ (fun b u hb => ?_) upd_same (by rw [upd_ne ne, upd_same])
  have n1 : b ≠ a := ne_of_none hb ha
  have n2 : b ≠ dx := ne_of_none hb hdx
  rw [upd_ne n1, upd_ne n2, upd_ne n1]
  exact hb
def kOfld (C : Addr) (f : Str) (x : V) (H1 : Hp) (Q : VK) : Prop := ∃ (a d : Addr) (fs : List (Str × V)) (v : V), x = .ref a ∧ H1 a = some (exo a C (some d)) ∧ H1 d = some (exd d fs) ∧ fs.lookup f = some v ∧ Q v H1
def tOfld (C : Addr) (f : Str) (te : TE) : TE := fun σ H Q => te σ H fun x H1 => kOfld C f x H1 Q
theorem w_ofld {C : Addr} {f : Str} {te : TE} {σ : St} {H : Hp} {Q : VK} (h : te σ H fun x H1 => kOfld C f x H1 Q) : tOfld C f te σ H Q := h
theorem pe_ofld {X : Cx} {C : Addr} {e : Expr} {te : TE} {pos : Pos} {n : Str} (T : XfC X.K C) (hno : PySem.W.findIn X.K (.ref C) n = some none) (he : PE X e te) (hb : attributeBase e n X.env (eval e X.env) = eval e X.env := by rfl) : PE X (.Attribute e n pos) (tOfld C n te) := by
  refine ⟨fun pins s σ H Q I h => ?_⟩
  refine attr_of hb (thn (he.run pins s σ H _ I h) fun u s1 hh => ?_)
  obtain ⟨x, H1, I1, rx, a, dd, fs, v, ex, ea, ed, l, q⟩ := hh
  subst ex
  obtain rfl : u = Value.ref a := rx
  obtain ⟨t1, ho⟩ := exo_at I1.hok ea
  obtain ⟨mA, hns, hr⟩ := exd_at I1.hok ed
  obtain ⟨od, hod, hl⟩ := lookIn_ns hns
  obtain ⟨u, hu, ru⟩ := RelO.some_of (v := v) (o := mA n) (by rw [← l]; exact hr n)
  have J : PySem.W.InstAt s1.heap a _ C (some od) := ⟨ho, rfl, rfl, hod⟩
  exact HandSPX.exc_get I1.kIn J T.ga T.gg T.exC (PySem.W.findObj_own T.hdC hno rfl (by rw [hl, hu])) (handed_of ru) ⟨v, H1, I1.tok _, ru, q⟩
/-! ### isinstance of such -/
structure KitC (K : PySem.W.Frag) (D : Addr) : Prop where
  hcl : (PySem.W.clsIn K D).isSome = true
  hga : PySem.W.findIn K (.ref D) "__getattribute__" = some (some (.builtin "BaseException.__getattribute__"))
  hgt : PySem.W.findIn K (.ref D) "__getattr__" = some none
  hsub : PySem.W.subIn K (.ref D) (.type "BaseException") = some true
  ha : PySem.W.findIn K (.ref D) "__class__" = some (some (.builtin "object.__class__"))
  hn : PySem.W.specialIn K (.builtin "object.__class__") "__get__" = some (some (.builtin "getset_descriptor.__get__"))
  ht : PySem.W.takesIn K (.builtin "object.__class__") = some true
  hm : PySem.W.mroIn K D (.type "object") = some true
/-- at a: an error of the class at D -/
def ErrO (H : Hp) (a D : Addr) : Prop := H a = some (ExO (.ref D) a) ∨ ∃ d fs, H a = some (exo a D (some d)) ∧ H d = some (exd d fs)
theorem ErrO.mono {H H' : Hp} {a D : Addr} (e : Same H H') (h : ErrO H a D) : ErrO H' a D := by
  rcases h with h | ⟨d, fs, h1, h2⟩
  · exact .inl (e _ _ h)
  · exact .inr ⟨d, fs, e _ _ h1, e _ _ h2⟩
def rIsErr (K : PySem.W.Frag) : List V → Hp → VK → Prop := fun xs H Q => ∃ (a D : Addr) (c : V) (cv : Value) (b : Bool), xs = [.ref a, c] ∧ ErrO H a D ∧ KitC K D ∧ (∀ u, RelV c u → u = cv) ∧ PySem.W.kitOne K (.ref D) cv = some b ∧ Q (.bl b) H
theorem call_isErr {X : Cx} : CallR X (.builtin "isinstance") (rIsErr X.K) := by
  intro pins s σ H xs us Q I r h
  obtain ⟨a, D, c, cv, b, rfl, hE, C, hcv, e, q⟩ := h
  cases r with
  | cons rx rr =>
    cases rr with
    | cons rt rr =>
      cases rr
      cases rx
      have ec := hcv _ rt
      subst ec
      obtain ⟨oe, od, J⟩ : ∃ oe od, PySem.W.InstAt s.heap a oe D od := by
        rcases hE with hE | ⟨d, fs, h1, h2⟩
        · obtain ⟨⟨oe, vs, e1, z, d1, _⟩, _, _⟩ := I.hok a _ hE
          obtain ⟨oc, odt, oda, osl⟩ := oe
          obtain ⟨z1, z2⟩ := z
          dsimp only at z1 z2 d1
          subst z1 z2 d1
          exact ⟨_, none, e1, rfl, rfl, trivial⟩
        · obtain ⟨t1, ho⟩ := exo_at I.hok h1
          obtain ⟨mA, hns, _⟩ := exd_at I.hok h2
          obtain ⟨o, _, _, hod, _⟩ := hns
          exact ⟨_, some o, ho, rfl, rfl, hod⟩
      exact PySem.W.kia_one (PySem.W.kitx_exc C.hcl C.hga C.hgt C.hsub C.ha C.hn C.ht C.hm) I.kIn J e (fun z => nomatch z) fun tk => ⟨.bl b, H, I.kept (t' := tk) fun _ _ z => z, rfl, q⟩
theorem w_isErr {K : PySem.W.Frag} {H : Hp} {Q : VK} {a D C : Addr} {b : Bool} (hE : ErrO H a D) (k : KitC K D) (e : PySem.W.kitOne K (.ref D) (.ref C) = some b) (q : Q (.bl b) H) : rIsErr K [.ref a, .ref C] H Q := ⟨a, D, _, _, b, rfl, hE, k, fun u r => r, e, q⟩
theorem w_isErrT {K : PySem.W.Frag} {H : Hp} {Q : VK} {a D : Addr} {T : String} {b : Bool} (hE : ErrO H a D) (k : KitC K D) (e : PySem.W.kitOne K (.ref D) (.type T) = some b) (q : Q (.bl b) H) : rIsErr K [.ref a, .ty T] H Q := ⟨a, D, _, .type T, b, rfl, hE, k, fun u r => r, e, q⟩

local macro_rules | `(tactic| walk_at "s") => `(tactic| with_reducible first
  | refine w_prs ?_ | refine w_star ?_ | refine w_metS ?_)
/-! ### k24: errors apart -/
abbrev sp_NotSureU_initU (Γ : Gm) : Sp := spOst Γ.cNotSure "heap"
def t_NotSureU_initU (Γ : Gm) : TS := tOst Γ.K "heap" (tVar 0) (tVar 1)
theorem rd_NotSureU_initU (Γ : Gm) (F : ErrF Γ.K Γ.cNotSure "heap") (vs : List V) (H : Hp) (Q : VK) (E : XK) (h : sp_NotSureU_initU Γ vs H Q E) : t_NotSureU_initU Γ ⟨fun _ H' => Q .non H', Q, fun _ _ => False, fun _ _ => False⟩ (startN 2 vs) H := rd_ost F vs H Q E h
abbrev sp_BadTextU_initU (Γ : Gm) : Sp := spOst Γ.cBadText "word"
def t_BadTextU_initU (Γ : Gm) : TS := tOst Γ.K "word" (tVar 0) (tVar 1)
theorem rd_BadTextU_initU (Γ : Gm) (F : ErrF Γ.K Γ.cBadText "word") (vs : List V) (H : Hp) (Q : VK) (E : XK) (h : sp_BadTextU_initU Γ vs H Q E) : t_BadTextU_initU Γ ⟨fun _ H' => Q .non H', Q, fun _ _ => False, fun _ _ => False⟩ (startN 2 vs) H := rd_ost F vs H Q E h
def errCls (Γ : Gm) : List Addr := [Γ.cBadHeap, Γ.cBadNumber, Γ.cBadPlace, Γ.cBadRow, Γ.cBadRule, Γ.cBadSplit, Γ.cBadStyle, Γ.cBadSums, Γ.cBadText, Γ.cBadWay, Γ.cNoTable, Γ.cNoTerms, Γ.cNotSure, Γ.cTooGreat]
structure ErrsF (Γ : Gm) : Prop where
  kc : ∀ D ∈ errCls Γ, KitC Γ.K D
  row : ∀ (i j : Nat) (D C : Addr), (errCls Γ)[i]? = some D → (errCls Γ)[j]? = some C → PySem.W.kitOne Γ.K (.ref D) (.ref C) = some (decide (j = i))
  sp : ∀ D ∈ errCls Γ, PySem.W.kitOne Γ.K (.ref D) (.ref Γ.cSplitError) = some true
  ve : ∀ D ∈ errCls Γ, PySem.W.kitOne Γ.K (.ref D) (.type "ValueError") = some true
theorem fm0 {P : Addr → Prop} : ∀ x ∈ ([] : List Addr), P x := fun _ z => nomatch z
theorem fm {P : Addr → Prop} {a : Addr} {l : List Addr} (h : P a) (t : ∀ x ∈ l, P x) : ∀ x ∈ a :: l, P x := fun x hx => by
  rcases List.mem_cons.mp hx with rfl | hx
  · exact h
  · exact t x hx
theorem fi0 {P : Nat → Addr → Prop} : ∀ (i : Nat) (x : Addr), ([] : List Addr)[i]? = some x → P i x := fun _ _ z => by simp at z
theorem fi {P : Nat → Addr → Prop} {a : Addr} {l : List Addr} (h : P 0 a) (t : ∀ (i : Nat) (x : Addr), l[i]? = some x → P (i + 1) x) : ∀ (i : Nat) (x : Addr), (a :: l)[i]? = some x → P i x
  | 0, x, e => by cases e; exact h
  | i + 1, x, e => t i x (by simpa using e)
theorem rows_mk {Γ : Gm} (h : ∀ (i : Nat) (D : Addr), (errCls Γ)[i]? = some D → ∀ (j : Nat) (C : Addr), (errCls Γ)[j]? = some C → PySem.W.kitOne Γ.K (.ref D) (.ref C) = some (decide (j = i))) (i : Nat) (D : Addr) (j : Nat) (C : Addr) (e1 : (errCls Γ)[i]? = some D) (e2 : (errCls Γ)[j]? = some C) : PySem.W.kitOne Γ.K (.ref D) (.ref C) = some (decide (j = i)) := h i D e1 j C e2
/-- an error of the class with the index i -/
def ErrAt (Γ : Gm) (H : Hp) (a : Addr) (i : Nat) : Prop := ∃ D, (errCls Γ)[i]? = some D ∧ ErrO H a D
theorem ErrAt.mono {Γ : Gm} {H H' : Hp} {a : Addr} {i : Nat} (e : Same H H') (h : ErrAt Γ H a i) : ErrAt Γ H' a i := let ⟨D, h1, h2⟩ := h; ⟨D, h1, h2.mono e⟩
theorem ErrAt.lt {Γ : Gm} {H : Hp} {a : Addr} {i : Nat} (h : ErrAt Γ H a i) : i < 14 := let ⟨_, h1, _⟩ := h; (List.getElem?_eq_some_iff.mp h1).1
theorem w_isE {Γ : Gm} (F : ErrsF Γ) {H : Hp} {Q : VK} {a C : Addr} {i : Nat} (h : ErrAt Γ H a i) (j : Nat) (hj : (errCls Γ)[j]? = some C) (q : Q (.bl (decide (j = i))) H) : rIsErr Γ.K [.ref a, .ref C] H Q := by
  obtain ⟨D, h1, h2⟩ := h
  exact w_isErr h2 (F.kc D (List.mem_of_getElem? h1)) (F.row i j D C h1 hj) q
theorem w_isS {Γ : Gm} (F : ErrsF Γ) {H : Hp} {Q : VK} {a : Addr} {i : Nat} (h : ErrAt Γ H a i) (q : Q (.bl true) H) : rIsErr Γ.K [.ref a, .ref Γ.cSplitError] H Q := by
  obtain ⟨D, h1, h2⟩ := h
  exact w_isErr h2 (F.kc D (List.mem_of_getElem? h1)) (F.sp D (List.mem_of_getElem? h1)) q
theorem w_isV {Γ : Gm} (F : ErrsF Γ) {H : Hp} {Q : VK} {a : Addr} {i : Nat} (h : ErrAt Γ H a i) (q : Q (.bl true) H) : rIsErr Γ.K [.ref a, .ty "ValueError"] H Q := by
  obtain ⟨D, h1, h2⟩ := h
  exact w_isErrT h2 (F.kc D (List.mem_of_getElem? h1)) (F.ve D (List.mem_of_getElem? h1)) q
theorem once : ∀ i < 14, ((((List.range 14).map fun j => decide (j = i)).filter id).length) = 1 := by decide +kernel
/-! ### of how many classes -/
def sp__law_classes (Γ : Gm) : Sp := fun vs H Q _ => ∃ (a : Addr) (i : Nat), vs = [.ref a] ∧ ErrAt Γ H a i ∧ ∀ H', Same H H' → Q (.int 1) H'
/-- law_classes: _law_error, _law_found, _law_one_here -/
def t__law_classes_k24 (Γ : Gm) : TS := (tSeq (tAsg (tLst (tCons (tCB (rIsErr Γ.K) (tCons (tVar 0) (tCons (tC (.ref Γ.cBadHeap)) tNil))) (tCons (tCB (rIsErr Γ.K) (tCons (tVar 0) (tCons (tC (.ref Γ.cBadNumber)) tNil))) (tCons (tCB (rIsErr Γ.K) (tCons (tVar 0) (tCons (tC (.ref Γ.cBadPlace)) tNil))) tNil)))) (gName 1))
  (tSeq (tAsg (tOp (rAddU Γ.K) (tVar 1) (tLst (tCons (tCB (rIsErr Γ.K) (tCons (tVar 0) (tCons (tC (.ref Γ.cBadRow)) tNil))) (tCons (tCB (rIsErr Γ.K) (tCons (tVar 0) (tCons (tC (.ref Γ.cBadRule)) tNil))) (tCons (tCB (rIsErr Γ.K) (tCons (tVar 0) (tCons (tC (.ref Γ.cBadSplit)) tNil))) tNil))))) (gName 1))
  (tSeq (tAsg (tOp (rAddU Γ.K) (tVar 1) (tLst (tCons (tCB (rIsErr Γ.K) (tCons (tVar 0) (tCons (tC (.ref Γ.cBadStyle)) tNil))) (tCons (tCB (rIsErr Γ.K) (tCons (tVar 0) (tCons (tC (.ref Γ.cBadSums)) tNil))) (tCons (tCB (rIsErr Γ.K) (tCons (tVar 0) (tCons (tC (.ref Γ.cBadText)) tNil))) tNil))))) (gName 1))
  (tSeq (tAsg (tOp (rAddU Γ.K) (tVar 1) (tLst (tCons (tCB (rIsErr Γ.K) (tCons (tVar 0) (tCons (tC (.ref Γ.cBadWay)) tNil))) (tCons (tCB (rIsErr Γ.K) (tCons (tVar 0) (tCons (tC (.ref Γ.cNoTable)) tNil))) (tCons (tCB (rIsErr Γ.K) (tCons (tVar 0) (tCons (tC (.ref Γ.cNoTerms)) tNil))) tNil))))) (gName 1))
  (tRet (tCB (rLen Γ.K) (tCons (tLc (iSeq Γ.K (tOp (rAddU Γ.K) (tVar 1) (tLst (tCons (tCB (rIsErr Γ.K) (tCons (tVar 0) (tCons (tC (.ref Γ.cNotSure)) tNil))) (tCons (tCB (rIsErr Γ.K) (tCons (tVar 0) (tCons (tC (.ref Γ.cTooGreat)) tNil))) tNil))))) (gName 2) (tB (tVar 2)) (tVar 2) [2]) tNil)))))))
theorem rd__law_classes_k24 (Γ : Gm) (F : ErrsF Γ) (vs : List V) (H : Hp) (Q : VK) (E : XK) (h : sp__law_classes Γ vs H Q E) : t__law_classes_k24 Γ ⟨fun _ H' => Q .non H', Q, fun _ _ => False, fun _ _ => False⟩ (startN 3 vs) H := by
  obtain ⟨a, i, rfl, he, k⟩ := h
  have lt := he.lt
  unfold t__law_classes_k24
  walk_at "ss"
  refine w_isE F he 0 rfl ?_
  walk_at "ss"
  refine w_isE F he 1 rfl ?_
  walk_at "ss"
  refine w_isE F he 2 rfl ?_
  walk_at "ss"
  refine n_lst fun l1 H1 f1 e1 g1 => ?_
  have h1 := he.mono e1
  walk_at "ss"
  refine w_isE F h1 3 rfl ?_
  walk_at "ss"
  refine w_isE F h1 4 rfl ?_
  walk_at "ss"
  refine w_isE F h1 5 rfl ?_
  walk_at "ss"
  refine n_lst fun l2 H2 f2 e2 g2 => ?_
  refine w_addL (e2 _ _ g1) g2 (by simp only [List.length_cons, List.length_nil]; decide) fun m3 H3 f3 e3 g3 => ?_
  have h3 := h1.mono (e2.trans e3)
  walk_at "ss"
  refine w_isE F h3 6 rfl ?_
  walk_at "ss"
  refine w_isE F h3 7 rfl ?_
  walk_at "ss"
  refine w_isE F h3 8 rfl ?_
  walk_at "ss"
  refine n_lst fun l4 H4 f4 e4 g4 => ?_
  refine w_addL (e4 _ _ g3) g4 (by simp only [List.length_append, List.length_cons, List.length_nil]; decide) fun m5 H5 f5 e5 g5 => ?_
  have h5 := h3.mono (e4.trans e5)
  walk_at "ss"
  refine w_isE F h5 9 rfl ?_
  walk_at "ss"
  refine w_isE F h5 10 rfl ?_
  walk_at "ss"
  refine w_isE F h5 11 rfl ?_
  walk_at "ss"
  refine n_lst fun l6 H6 f6 e6 g6 => ?_
  refine w_addL (e6 _ _ g5) g6 (by simp only [List.length_append, List.length_cons, List.length_nil]; decide) fun m7 H7 f7 e7 g7 => ?_
  have h7 := h5.mono (e6.trans e7)
  walk_at "ss"
  refine w_isE F h7 12 rfl ?_
  walk_at "ss"
  refine w_isE F h7 13 rfl ?_
  walk_at "ss"
  refine n_lst fun l8 H8 f8 e8 g8 => ?_
  refine w_addL (e8 _ _ g7) g8 (by simp only [List.length_append, List.length_cons, List.length_nil]; decide) fun m9 H9 f9 e9 g9 => ?_
  replace g9 : H9 m9 = some (.lst (((List.range 14).map fun j => decide (j = i)).map V.bl)) := g9
  have len : (((List.range 14).map fun j => decide (j = i)).map V.bl).length = 14 := by rw [List.length_map, List.length_map, List.length_range]
  refine k_seqL (SqL.of g9) ?_
  refine k_lcListT (fun c acc _ => acc = ((((List.range 14).map fun j => decide (j = i)).take c).filter id).map V.bl) (SqL.of g9) (fun _ _ => rfl) ?_ ?_
  · rintro c x D acc HA hc hD eA hacc rfl
    rw [List.getElem?_map] at hc
    obtain ⟨b, hb, rfl⟩ := Option.map_eq_some_iff.mp hc
    have al := List.length_filter_le id (((List.range 14).map fun j => decide (j = i)).take c)
    rw [List.length_take, List.length_map, List.length_range] at al
    walk_at "ss"
    refine ⟨rfl, ?_⟩
    walk_at "ss"
    rw [take_succ hb, List.filter_append]
    cases b with
    | true =>
      refine w_iteT ?_
      walk_at "ss"
      refine lcTurn.mk hD eA hacc (by rw [List.length_map]; omega) ?_
      rw [List.map_append]
      rfl
    | false =>
      refine w_iteF ?_
      refine ⟨_, hD, eA, hacc, ?_⟩
      simp
  · rintro D acc HA hD eA hacc rfl
    rw [len, List.take_of_length_le (by rw [List.length_map, List.length_range]; exact Nat.le_refl _)] at hacc
    walk_at "ss"
    refine w_lenL (SqL.of hacc) ?_
    rw [List.length_map, once i lt]
    walk_at "ss"
    exact k HA (e1.trans (e2.trans (e3.trans (e4.trans (e5.trans (e6.trans (e7.trans (e8.trans (e9.trans eA)))))))))
/-! ### one drawn -/
theorem same_eq {K : PySem.W.Frag} {H : Hp} {Q : VK} {x : V} (hx : x = .int 0 ∨ x = .int (-1) ∨ x = .non ∨ x = .str "a" ∨ ∃ t, x = .ref t ∧ H t = some (.tup [])) (q : Q (.bl true) H) : rEqU K x x H Q := by
  rcases hx with rfl | rfl | rfl | rfl | ⟨t, rfl, ht⟩
  · exact w_eqI (by rw [decide_eq_true rfl]; exact q)
  · exact w_eqI (by rw [decide_eq_true rfl]; exact q)
  · exact .inl ⟨rfl, by rw [decide_eq_true rfl]; exact q⟩
  · exact w_eqS (by rw [decide_eq_true rfl]; exact q)
  · have dec : Decidable (PyData.tuple [] = .tuple []) := Classical.propDecidable _
    exact w_eqD (dec := dec) (.tup ht .nil) (.tup ht .nil) rfl rfl rfl rfl (by rw [@decide_eq_true _ dec rfl]; exact q)
def sp__law_one (Γ : Gm) : Sp := fun vs H Q _ => ∃ d : Addr, vs = [.ref d] ∧ H d = some (dO d) ∧ ∀ p e i H', Same H H' → H' p = some (.tup [.ref e, .bl true]) → ErrAt Γ H' e i → Q (.ref p) H'
/-- law_one: _law_d, _law_one_here, _law_error -/
def t__law_one_k24 (Γ : Gm) : TS := (tSeq (tAsg (tCal (sp__law_pick Γ) E0 (tCons (tVar 0) (tCons (tLst (tCons (tC (.int 0)) (tCons (tUn (rU fun i => .int (-i)) (tC (.int 1))) (tCons (tC .non) (tCons (tC (.str "a")) (tCons (tTup tNil) tNil)))))) tNil))) (gName 1))
  (tSeq (tIfS (tTest (tOp (rEqU Γ.K) (tCal (sp__law_below Γ) E0 (tCons (tVar 0) (tCons (tC (.int 2)) tNil))) (tC (.int 0)))) (tSeq (tAsg (tMkV Γ.cNotSure (sp_NotSureU_initU Γ) (tCons (tVar 1) tNil)) (gName 2))
  (tRet (tTup (tCons (tVar 2) (tCons (tOp (rEqU Γ.K) (tOfld Γ.cNotSure "heap" (tVar 2)) (tVar 1)) tNil))))) tNext)
  (tSeq (tAsg (tMkV Γ.cBadText (sp_BadTextU_initU Γ) (tCons (tVar 1) tNil)) (gName 2))
  (tRet (tTup (tCons (tVar 2) (tCons (tOp (rEqU Γ.K) (tOfld Γ.cBadText "word" (tVar 2)) (tVar 1)) tNil)))))))
theorem rd__law_one_k24 (Γ : Gm) (vs : List V) (H : Hp) (Q : VK) (E : XK) (h : sp__law_one Γ vs H Q E) : t__law_one_k24 Γ ⟨fun _ H' => Q .non H', Q, fun _ _ => False, fun _ _ => False⟩ (startN 3 vs) H := by
  obtain ⟨d, rfl, hd, k⟩ := h
  unfold t__law_one_k24
  walk_at "ss"
  refine n_tup fun t1 H1 f1 e1 g1 => ?_
  walk_at "ss"
  refine n_lst fun l2 H2 f2 e2 g2 => ?_
  walk_at "ss"
  refine w_pick ((e1.trans e2) _ _ hd) (SqL.of g2) fun i x hx => ?_
  have hx' : x = .int 0 ∨ x = .int (-1) ∨ x = .non ∨ x = .str "a" ∨ ∃ t, x = .ref t ∧ H2 t = some (.tup []) := by
    have := List.mem_of_getElem? hx
    simp only [List.mem_cons, List.not_mem_nil, or_false] at this
    rcases this with rfl | rfl | rfl | rfl | rfl
    · exact .inl rfl
    · exact .inr (.inl rfl)
    · exact .inr (.inr (.inl rfl))
    · exact .inr (.inr (.inr (.inl rfl)))
    · exact .inr (.inr (.inr (.inr ⟨t1, rfl, e2 _ _ g1⟩)))
  have up : ∀ {H'}, Same H2 H' → x = .int 0 ∨ x = .int (-1) ∨ x = .non ∨ x = .str "a" ∨ ∃ t, x = .ref t ∧ H' t = some (.tup []) := fun {H'} e => by
    rcases hx' with h | h | h | h | ⟨t, h1, h2⟩
    · exact .inl h
    · exact .inr (.inl h)
    · exact .inr (.inr (.inl h))
    · exact .inr (.inr (.inr (.inl h)))
    · exact .inr (.inr (.inr (.inr ⟨t, h1, e _ _ h2⟩)))
  walk_at "ss"
  refine w_below ((e1.trans e2) _ _ hd) (by decide) (by decide) fun r r0 r1 => ?_
  walk_at "ss"
  have e02 := e1.trans e2
  refine w_ite (fun _ => ?_) (fun _ => ?_)
  · walk_at "ss"
    refine w_mkV ?_
    walk_at "ss"
    refine mkV_ost fun e dx H3 e3 ga gd => ?_
    walk_at "ss"
    refine w_ofld ?_
    walk_at "ss"
    refine ⟨e, dx, [("heap", x)], x, rfl, ga, gd, by simp [List.lookup], ?_⟩
    walk_at "ss"
    refine same_eq (up e3) ?_
    walk_at "ss"
    refine n_tup fun p H4 f4 e4 g4 => ?_
    exact k p e 12 H4 (e02.trans (e3.trans e4)) g4 ⟨Γ.cNotSure, rfl, .inr ⟨dx, _, e4 _ _ ga, e4 _ _ gd⟩⟩
  · walk_at "ss"
    refine w_mkV ?_
    walk_at "ss"
    refine mkV_ost fun e dx H3 e3 ga gd => ?_
    walk_at "ss"
    refine w_ofld ?_
    walk_at "ss"
    refine ⟨e, dx, [("word", x)], x, rfl, ga, gd, by simp [List.lookup], ?_⟩
    walk_at "ss"
    refine same_eq (up e3) ?_
    walk_at "ss"
    refine n_tup fun p H4 f4 e4 g4 => ?_
    exact k p e 8 H4 (e02.trans (e3.trans e4)) g4 ⟨Γ.cBadText, rfl, .inr ⟨dx, _, e4 _ _ ga, e4 _ _ gd⟩⟩
/-! ### the law -/
theorem w_newE {C : Addr} {σ : St} {H : Hp} {Q : VK} (k : ∀ a H', Same H H' → H' a = some (ExO (.ref C) a) → Q (.ref a) H') : tNewE C σ H Q := fun a ha => k a _ (Same.new ha) upd_same
/-- law: _law_script, _law_d, _law_turn, _law_error, _law_is_right, _law_errors, _law_one_here -/
def t_law_k24 (Γ : Gm) : TS := (tSeq (tAsg (tCal (sp__law_random Γ) E0 (tCons (tVar 0) (tCons (tC (.int 2824)) tNil))) (gName 1))
  (tSeq (tFor (iRng1 (tCons (tC (.int 4)) tNil)) (gName 2) (tSeq (tAsg (tCal (sp__law_one Γ) E0 (tCons (tVar 1) tNil)) (gTup Γ.K 2 (gCons (gName 3) (gCons (gName 4) gNil))))
  (tSeq (tIfS (tOr (tNot (tB (tVar 4))) (tOr (tTest (tOp (rNeU Γ.K) (tCal (sp__law_classes Γ) E0 (tCons (tVar 3) tNil)) (tC (.int 1)))) (tNot (tB (tCB (rIsErr Γ.K) (tCons (tVar 3) (tCons (tC (.ref Γ.cSplitError)) tNil))))))) (tRet (tC (.bl false))) tNext)
  (tIfS (tNot (tB (tCB (rIsErr Γ.K) (tCons (tVar 3) (tCons (tC (.ty "ValueError")) tNil))))) (tRet (tC (.bl false))) tNext))))
  (tSeq (tAsg (tLst (tCons (tNewE Γ.cBadRule) (tCons (tNewE Γ.cBadHeap) (tCons (tNewE Γ.cBadSplit) (tCons (tNewE Γ.cNoTerms) (tCons (tNewE Γ.cNoTable) (tCons (tNewE Γ.cBadWay) (tCons (tNewE Γ.cBadStyle) (tCons (tNewE Γ.cBadSums) (tCons (tNewE Γ.cBadNumber) tNil)))))))))) (gName 5))
  (tSeq (tAsg (tOp (rAddU Γ.K) (tVar 5) (tLst (tCons (tNewE Γ.cTooGreat) (tCons (tNewE Γ.cBadRow) (tCons (tNewE Γ.cBadPlace) tNil))))) (gName 5))
  (tRet (tOp (rEqU Γ.K) (tLc (iSeq Γ.K (tVar 5)) (gName 6) (tOr (tTest (tOp (rNeU Γ.K) (tCal (sp__law_classes Γ) E0 (tCons (tVar 6) tNil)) (tC (.int 1)))) (tNot (tB (tCB (rIsErr Γ.K) (tCons (tVar 6) (tCons (tC (.ref Γ.cSplitError)) tNil)))))) (tVar 6) [6]) (tLst tNil)))))))
theorem rd_law_k24 (Γ : Gm) (F : ErrsF Γ) (vs : List V) (H : Hp) (Q : VK) (E : XK) (h : spLaw Γ.K vs H Q E) : t_law_k24 Γ ⟨fun _ H' => Q .non H', Q, fun _ _ => False, fun _ _ => False⟩ (startN 7 vs) H := by
  obtain ⟨a, ns, rfl, hS, hl, k⟩ := h
  unfold t_law_k24
  walk_at "ss"
  refine ⟨a, ns, 2824, rfl, hS, hl, by decide, by decide, fun d H1 hd0 e1 hd => ?_⟩
  walk_at "ss"
  refine k_rng1 (by decide) ?_
  refine k_range (fun i σ H' => ∃ x2 x3 x4 x5 x6, σ = [some (.ref a), some (.ref d), x2, x3, x4, x5, x6] ∧ Same H1 H') ⟨none, none, none, none, none, rfl, Same.refl H1⟩ ?_ ?_
  · rintro i σ H2 hi ⟨x2, x3, x4, x5, x6, rfl, e2⟩
    walk_at "ss"
    refine ⟨d, rfl, e2 _ _ hd, fun p e c H3 e3 gp he => ?_⟩
    refine w_gTup (SqT.of gp) rfl ?_
    walk_at "ss"
    refine ⟨e, c, rfl, he, fun H4 e4 => ?_⟩
    walk_at "ss"
    rw [decide_eq_true rfl]
    walk_at "ss"
    refine w_isS F (he.mono e4) ?_
    walk_at "ss"
    refine w_isV F (he.mono e4) ?_
    walk_at "ss"
    exact ⟨_, _, _, _, _, rfl, e2.trans (e3.trans e4)⟩
  · rintro σ H2 ⟨x2, x3, x4, x5, x6, rfl, e2⟩
    walk_at "ss"
    refine w_newE fun a0 H3 e3 g3 => ?_
    walk_at "ss"
    refine w_newE fun a1 H4 e4 g4 => ?_
    walk_at "ss"
    refine w_newE fun a2 H5 e5 g5 => ?_
    walk_at "ss"
    refine w_newE fun a3 H6 e6 g6 => ?_
    walk_at "ss"
    refine w_newE fun a4 H7 e7 g7 => ?_
    walk_at "ss"
    refine w_newE fun a5 H8 e8 g8 => ?_
    walk_at "ss"
    refine w_newE fun a6 H9 e9 g9 => ?_
    walk_at "ss"
    refine w_newE fun a7 HA eA gA => ?_
    walk_at "ss"
    refine w_newE fun a8 HB eB gB => ?_
    walk_at "ss"
    refine n_lst fun l1 HC fC eC gC => ?_
    walk_at "ss"
    refine w_newE fun a9 HD eD gD => ?_
    walk_at "ss"
    refine w_newE fun a10 HE eE gE => ?_
    walk_at "ss"
    refine w_newE fun a11 HF eF gF => ?_
    walk_at "ss"
    refine n_lst fun l2 HG fG eG gG => ?_
    refine w_addL ((eD.trans (eE.trans (eF.trans eG))) _ _ gC) gG (by simp only [List.length_cons, List.length_nil]; decide) fun l3 HH fH eH gH => ?_
    have s11 := eG.trans eH
    have s10 := eF.trans s11
    have s9 := eE.trans s10
    have s8 := eC.trans (eD.trans s9)
    have s7 := eB.trans s8
    have s6 := eA.trans s7
    have s5 := e9.trans s6
    have s4 := e8.trans s5
    have s3 := e7.trans s4
    have s2 := e6.trans s3
    have s1 := e5.trans s2
    have s0 := e4.trans s1
    have all : ∀ x ∈ [V.ref a0, .ref a1, .ref a2, .ref a3, .ref a4, .ref a5, .ref a6, .ref a7, .ref a8, .ref a9, .ref a10, .ref a11], ∃ e c, x = .ref e ∧ ErrAt Γ HH e c := by
      intro x hx
      simp only [List.mem_cons, List.not_mem_nil, or_false] at hx
      rcases hx with rfl | rfl | rfl | rfl | rfl | rfl | rfl | rfl | rfl | rfl | rfl | rfl
      · exact ⟨_, 4, rfl, _, rfl, .inl (s0 _ _ g3)⟩
      · exact ⟨_, 0, rfl, _, rfl, .inl (s1 _ _ g4)⟩
      · exact ⟨_, 5, rfl, _, rfl, .inl (s2 _ _ g5)⟩
      · exact ⟨_, 11, rfl, _, rfl, .inl (s3 _ _ g6)⟩
      · exact ⟨_, 10, rfl, _, rfl, .inl (s4 _ _ g7)⟩
      · exact ⟨_, 9, rfl, _, rfl, .inl (s5 _ _ g8)⟩
      · exact ⟨_, 6, rfl, _, rfl, .inl (s6 _ _ g9)⟩
      · exact ⟨_, 7, rfl, _, rfl, .inl (s7 _ _ gA)⟩
      · exact ⟨_, 1, rfl, _, rfl, .inl (s8 _ _ gB)⟩
      · exact ⟨_, 13, rfl, _, rfl, .inl (s9 _ _ gD)⟩
      · exact ⟨_, 3, rfl, _, rfl, .inl (s10 _ _ gE)⟩
      · exact ⟨_, 2, rfl, _, rfl, .inl (s11 _ _ gF)⟩
    replace gH : HH l3 = some (.lst [V.ref a0, .ref a1, .ref a2, .ref a3, .ref a4, .ref a5, .ref a6, .ref a7, .ref a8, .ref a9, .ref a10, .ref a11]) := gH
    generalize [V.ref a0, .ref a1, .ref a2, .ref a3, .ref a4, .ref a5, .ref a6, .ref a7, .ref a8, .ref a9, .ref a10, .ref a11] = xs at gH all
    walk_at "ss"
    refine k_seqL (SqL.of gH) ?_
    refine k_lcListT (fun _ acc _ => acc = []) (SqL.of gH) (fun _ _ => rfl) ?_ ?_
    · rintro j x D acc HI hj hD eI hacc rfl
      obtain ⟨e, c, rfl, he⟩ := all x (List.mem_of_getElem? hj)
      have he := he.mono eI
      walk_at "ss"
      refine ⟨rfl, ?_⟩
      walk_at "ss"
      refine ⟨e, c, rfl, he, fun HJ eJ => ?_⟩
      walk_at "ss"
      rw [decide_eq_true rfl]
      walk_at "ss"
      refine w_isS F (he.mono eJ) ?_
      walk_at "ss"
      exact ⟨[], hD, eI.trans eJ, eJ _ _ hacc, rfl⟩
    · rintro D acc HI hD eI hacc rfl
      walk_at "ss"
      refine n_lst fun l0 HJ fJ eJ gJ => ?_
      refine w_eqLI (ns := []) (ms := []) (eJ _ _ hacc) gJ (by simp) (by simp) ?_
      walk_at "ss"
      rw [decide_eq_true rfl]
      exact k HJ


/-- a def of the top -/
def DefAt (K : PySem.W.Frag) (mg : Str → Option Value) (x qual : Str) (st : Stmt) : Prop := ∃ (f : Addr) (fd : FuncData), mg x = some (.ref f) ∧ Fun K x qual st f fd
def FunAt (K : PySem.W.Frag) (x qual : Str) (st : Stmt) (f : Addr) : Prop := ∃ fd : FuncData, Fun K x qual st f fd
theorem def_mk {K : PySem.W.Frag} {h : Heap} {mg : Str → Option Value} {x qual : Str} {st : Stmt} {f : Addr} {oc : Value} {od an : Option Addr} {osl : Array (Option Value)} {kV doc pm cdv ct : Value} (X : K.In h) (G : h.Ns mainGlobals mg)
    (a : PySem.W.nsIn K mainGlobals x = some (some (.ref f))) (l : K.lookup f = some ⟨oc, od, .func (PySem.W.fnOf x qual (defArgs st) (defBody st) (defScope st) .none kV doc pm an cdv ct), osl⟩)
    (c : PySem.W.codeIn K cdv qual = true) (k : PySem.W.keepIn K (.ref f) = true) : DefAt K mg x qual st := ⟨f, _, PySem.W.mg_of X G a, fun_mk l c k⟩
/-- is an error of the class at C one that «except S» names -/
theorem exm_of {K : PySem.W.Frag} {C S : Addr} {b : Bool} (h1 : PySem.W.subIn K (.ref S) (.type "BaseException") = some true) (h2 : PySem.W.isClsIn K S = true) (h3 : PySem.W.typeIn K (.ref S) = some (.type "type")) (h4 : PySem.W.subIn K (.ref C) (.ref S) = some b) :
    PySem.W.exmOne K (.ref C) (.ref S) = some b := by
  have e1 : (PySem.W.subIn K (.ref S) (.type "BaseException") == some true) = true := by rw [h1] <;> rfl
  have e2 : ((PySem.W.clsIn K S).isSome && PySem.W.typeIn K (.ref S) == some (.type "type")) = true := by
    have h2' : (PySem.W.clsIn K S).isSome = true := h2
    rw [h2', h3] <;> rfl
  show (if (PySem.W.subIn K (.ref S) (.type "BaseException") == some true) = true then (if ((PySem.W.clsIn K S).isSome && PySem.W.typeIn K (.ref S) == some (.type "type")) = true then PySem.W.subIn K (.ref C) (.ref S) else none) else none) = some b
  rw [if_pos e1, if_pos e2]
  exact h4
theorem funat_mk {K : PySem.W.Frag} {x qual : Str} {st : Stmt} {f : Addr} {oc : Value} {od an : Option Addr} {osl : Array (Option Value)} {kV doc pm cdv ct : Value}
    (l : K.lookup f = some ⟨oc, od, .func (PySem.W.fnOf x qual (defArgs st) (defBody st) (defScope st) .none kV doc pm an cdv ct), osl⟩)
    (c : PySem.W.codeIn K cdv qual = true) (k : PySem.W.keepIn K (.ref f) = true) : FunAt K x qual st f := ⟨_, fun_mk l c k⟩
/-! ### the text by places -/
def top (i : Nat) : Stmt := PySem.Challenge.pw_splitpoints_k24_errors_apart.main.body.getD i (.Pass ⟨0, 0, 0, 0⟩)
abbrev s_NotSureU_initU : Stmt := inClass (top 7) 0
abbrev N_NotSureU_initU : List Str := ["self", "heap"]
theorem sc_NotSureU_initU : FnScope N_NotSureU_initU ["self", "heap"] (defScope s_NotSureU_initU) := ⟨rfl, rfl, rfl, by decide +kernel, rfl, by decide +kernel, by decide +kernel⟩
theorem b_NotSureU_initU {K : PySem.W.Frag} {f : Addr} {fd : FuncData} (F : Fun K "__init__" "NotSure.__init__" s_NotSureU_initU f fd) : Binds K fd ["self", "heap"] [] := F.binds (ps := ["self", "heap"]) fun _ _ _ _ _ _ us hl => match us, hl with | [_, _], _ => rfl
abbrev s_BadTextU_initU : Stmt := inClass (top 15) 0
abbrev N_BadTextU_initU : List Str := ["self", "word"]
theorem sc_BadTextU_initU : FnScope N_BadTextU_initU ["self", "word"] (defScope s_BadTextU_initU) := ⟨rfl, rfl, rfl, by decide +kernel, rfl, by decide +kernel, by decide +kernel⟩
theorem b_BadTextU_initU {K : PySem.W.Frag} {f : Addr} {fd : FuncData} (F : Fun K "__init__" "BadText.__init__" s_BadTextU_initU f fd) : Binds K fd ["self", "word"] [] := F.binds (ps := ["self", "word"]) fun _ _ _ _ _ _ us hl => match us, hl with | [_, _], _ => rfl
abbrev s__law_random : Stmt := top 17
abbrev N__law_random : List Str := ["_law_script", "_law_salt", "_law_seed", "_law_cell"]
theorem sc__law_random : FnScope N__law_random ["_law_script", "_law_salt"] (defScope s__law_random) := ⟨rfl, rfl, rfl, by decide +kernel, rfl, by decide +kernel, by decide +kernel⟩
theorem b__law_random {K : PySem.W.Frag} {f : Addr} {fd : FuncData} (F : Fun K "_law_random" "_law_random" s__law_random f fd) : Binds K fd ["_law_script", "_law_salt"] [] := F.binds (ps := ["_law_script", "_law_salt"]) fun _ _ _ _ _ _ us hl => match us, hl with | [_, _], _ => rfl
abbrev s__law_below : Stmt := top 18
abbrev N__law_below : List Str := ["_law_d", "_law_size", "_law_result"]
theorem sc__law_below : FnScope N__law_below ["_law_d", "_law_size"] (defScope s__law_below) := ⟨rfl, rfl, rfl, by decide +kernel, rfl, by decide +kernel, by decide +kernel⟩
theorem b__law_below {K : PySem.W.Frag} {f : Addr} {fd : FuncData} (F : Fun K "_law_below" "_law_below" s__law_below f fd) : Binds K fd ["_law_d", "_law_size"] [] := F.binds (ps := ["_law_d", "_law_size"]) fun _ _ _ _ _ _ us hl => match us, hl with | [_, _], _ => rfl
abbrev s__law_pick : Stmt := top 19
abbrev N__law_pick : List Str := ["_law_d", "_law_items"]
theorem sc__law_pick : FnScope N__law_pick ["_law_d", "_law_items"] (defScope s__law_pick) := ⟨rfl, rfl, rfl, by decide +kernel, rfl, by decide +kernel, by decide +kernel⟩
theorem b__law_pick {K : PySem.W.Frag} {f : Addr} {fd : FuncData} (F : Fun K "_law_pick" "_law_pick" s__law_pick f fd) : Binds K fd ["_law_d", "_law_items"] [] := F.binds (ps := ["_law_d", "_law_items"]) fun _ _ _ _ _ _ us hl => match us, hl with | [_, _], _ => rfl
abbrev s__law_one : Stmt := top 20
abbrev N__law_one : List Str := ["_law_d", "_law_one_here", "_law_error"]
theorem sc__law_one : FnScope N__law_one ["_law_d"] (defScope s__law_one) := ⟨rfl, rfl, rfl, by decide +kernel, rfl, by decide +kernel, by decide +kernel⟩
theorem b__law_one {K : PySem.W.Frag} {f : Addr} {fd : FuncData} (F : Fun K "_law_one" "_law_one" s__law_one f fd) : Binds K fd ["_law_d"] [] := F.binds (ps := ["_law_d"]) fun _ _ _ _ _ _ us hl => match us, hl with | [_], _ => rfl
abbrev s__law_classes : Stmt := top 21
abbrev N__law_classes : List Str := ["_law_error", "_law_found", "_law_one_here"]
theorem sc__law_classes : FnScope N__law_classes ["_law_error"] (defScope s__law_classes) := ⟨rfl, rfl, rfl, by decide +kernel, rfl, by decide +kernel, by decide +kernel⟩
theorem b__law_classes {K : PySem.W.Frag} {f : Addr} {fd : FuncData} (F : Fun K "_law_classes" "_law_classes" s__law_classes f fd) : Binds K fd ["_law_error"] [] := F.binds (ps := ["_law_error"]) fun _ _ _ _ _ _ us hl => match us, hl with | [_], _ => rfl
abbrev s_law : Stmt := top 22
abbrev N_law : List Str := ["_law_script", "_law_d", "_law_turn", "_law_error", "_law_is_right", "_law_errors", "_law_one_here"]
theorem sc_law : FnScope N_law ["_law_script"] (defScope s_law) := ⟨rfl, rfl, rfl, by decide +kernel, rfl, by decide +kernel, by decide +kernel⟩
theorem b_law {K : PySem.W.Frag} {f : Addr} {fd : FuncData} (F : Fun K "law" "law" s_law f fd) : Binds K fd ["_law_script"] [] := F.binds (ps := ["_law_script"]) fun _ _ _ _ _ _ us hl => match us, hl with | [_], _ => rfl
/-! ### what the top has written -/
structure TX (Γ : Gm) (mg : Str → Option Value) : Prop where
  b_ValueError : mg "ValueError" = none
  b_abs : mg "abs" = none
  b_int : mg "int" = none
  b_isinstance : mg "isinstance" = none
  b_len : mg "len" = none
  b_range : mg "range" = none
  x_BadHeap : ExcF Γ.K mg "BadHeap" Γ.cBadHeap
  x_BadNumber : ExcF Γ.K mg "BadNumber" Γ.cBadNumber
  x_BadPlace : ExcF Γ.K mg "BadPlace" Γ.cBadPlace
  x_BadRow : ExcF Γ.K mg "BadRow" Γ.cBadRow
  x_BadRule : ExcF Γ.K mg "BadRule" Γ.cBadRule
  x_BadSplit : ExcF Γ.K mg "BadSplit" Γ.cBadSplit
  x_BadStyle : ExcF Γ.K mg "BadStyle" Γ.cBadStyle
  x_BadSums : ExcF Γ.K mg "BadSums" Γ.cBadSums
  x_BadWay : ExcF Γ.K mg "BadWay" Γ.cBadWay
  x_NoTable : ExcF Γ.K mg "NoTable" Γ.cNoTable
  x_NoTerms : ExcF Γ.K mg "NoTerms" Γ.cNoTerms
  x_TooGreat : ExcF Γ.K mg "TooGreat" Γ.cTooGreat
  m_BadHeap : mg "BadHeap" = some (.ref Γ.cBadHeap)
  m_BadNumber : mg "BadNumber" = some (.ref Γ.cBadNumber)
  m_BadPlace : mg "BadPlace" = some (.ref Γ.cBadPlace)
  m_BadRow : mg "BadRow" = some (.ref Γ.cBadRow)
  m_BadRule : mg "BadRule" = some (.ref Γ.cBadRule)
  m_BadSplit : mg "BadSplit" = some (.ref Γ.cBadSplit)
  m_BadStyle : mg "BadStyle" = some (.ref Γ.cBadStyle)
  m_BadSums : mg "BadSums" = some (.ref Γ.cBadSums)
  m_BadText : mg "BadText" = some (.ref Γ.cBadText)
  m_BadWay : mg "BadWay" = some (.ref Γ.cBadWay)
  m_NoTable : mg "NoTable" = some (.ref Γ.cNoTable)
  m_NoTerms : mg "NoTerms" = some (.ref Γ.cNoTerms)
  m_NotSure : mg "NotSure" = some (.ref Γ.cNotSure)
  m_SplitError : mg "SplitError" = some (.ref Γ.cSplitError)
  m_TooGreat : mg "TooGreat" = some (.ref Γ.cTooGreat)
  err_NotSure : ErrF Γ.K Γ.cNotSure "heap"
  err_BadText : ErrF Γ.K Γ.cBadText "word"
  errs : ErrsF Γ
section
variable {P : Program} {w : World} {mg : Str → Option Value} {base : Heap} {Γ : Gm}
theorem ok_NotSureU_initU {f : Addr} {fd : FuncData} (F : Fun Γ.K "__init__" "NotSure.__init__" s_NotSureU_initU f fd) (T : TX Γ mg) : FnOk P w Γ.K mg base CX0 1 f fd ["self", "heap"] (sp_NotSureU_initU Γ) := by
  have nd := sc_NotSureU_initU.nd
  refine F.ok sc_NotSureU_initU (fun vs H Q E h => ?_) (fun cdv A outer s H vs Q E hr h => ⟨t_NotSureU_initU Γ, ?_, rd_NotSureU_initU Γ T.err_NotSure vs H Q E h⟩)
  · repeat (first | (obtain ⟨rfl, _⟩ := h; rfl) | (obtain ⟨_, h⟩ := h))
  · have hu := hr.units
    exact (pss_one (ps_ost (pv 0) (pv 1) (by rfl)))
theorem ok_BadTextU_initU {f : Addr} {fd : FuncData} (F : Fun Γ.K "__init__" "BadText.__init__" s_BadTextU_initU f fd) (T : TX Γ mg) : FnOk P w Γ.K mg base CX0 1 f fd ["self", "word"] (sp_BadTextU_initU Γ) := by
  have nd := sc_BadTextU_initU.nd
  refine F.ok sc_BadTextU_initU (fun vs H Q E h => ?_) (fun cdv A outer s H vs Q E hr h => ⟨t_BadTextU_initU Γ, ?_, rd_BadTextU_initU Γ T.err_BadText vs H Q E h⟩)
  · repeat (first | (obtain ⟨rfl, _⟩ := h; rfl) | (obtain ⟨_, h⟩ := h))
  · have hu := hr.units
    exact (pss_one (ps_ost (pv 0) (pv 1) (by rfl)))
theorem ok__law_random {f : Addr} {fd : FuncData} (F : Fun Γ.K "_law_random" "_law_random" s__law_random f fd) (T : TX Γ mg) : FnOk P w Γ.K mg base CX0 1 f fd ["_law_script", "_law_salt"] (sp__law_random Γ) := by
  have nd := sc__law_random.nd
  refine F.ok sc__law_random (fun vs H Q E h => ?_) (fun cdv A outer s H vs Q E hr h => ⟨t__law_random Γ, ?_, rd__law_random Γ  vs H Q E h⟩)
  · repeat (first | (obtain ⟨rfl, _⟩ := h; rfl) | (obtain ⟨_, h⟩ := h))
  · have hu := hr.units
    exact (pss_shut DS (pss_cons (ps_set (i := 2) nd rfl (Or.inl rfl) (pv 1))
  (pss_cons (ps_for PassesOwn.never rfl (pi_seq (pv 0)) (pg_name (i := 3) nd rfl (Or.inl rfl)) (pss_one (ps_set (i := 2) nd rfl (Or.inl rfl) (pe_op op_modU (pe_callTy call_int1 (by rfl) T.b_int (by decide +kernel) (pa_cons (pe_op op_addU (pe_op op_mulU (pv 2) pe_int) (pe_callB call_abs (by rfl) T.b_abs (by decide +kernel) (pa_cons (pv 3) pa_nil))) pa_nil)) pe_int))))
  (pss_one (ps_ret (pe_op op_addU (pe_lst (pa_cons (pv 2) (pa_cons pe_int pa_nil))) (pe_lc (own := [("_law_cell", 3)]) (g := (gName 3)) (tt := (tTest (tOp rGe (tVar 3) (tOp rPowI (tC (.int 10)) (tC (.int 18)))))) rfl nd (pi_seq (pv 0)) (blkOk_by (N := N__law_random) (sc := (defScope s__law_random)) (own := [("_law_cell", 3)]) (by decide +kernel)) (fun _ _ _ _ _ => (pg_name (i := 3) nd rfl (Or.inl rfl))) (fun _ _ _ _ _ => pts_one (pt_cmpR op_geU (pv 3) (pe_op op_powU pe_int pe_int) (nomark _))) (fun _ _ _ _ _ => (pv 3)))))))))
theorem ok__law_below {f : Addr} {fd : FuncData} (F : Fun Γ.K "_law_below" "_law_below" s__law_below f fd) (T : TX Γ mg) : FnOk P w Γ.K mg base CX0 1 f fd ["_law_d", "_law_size"] (sp__law_below Γ) := by
  have nd := sc__law_below.nd
  refine F.ok sc__law_below (fun vs H Q E h => ?_) (fun cdv A outer s H vs Q E hr h => ⟨t__law_below Γ, ?_, rd__law_below Γ  vs H Q E h⟩)
  · repeat (first | (obtain ⟨rfl, _⟩ := h; rfl) | (obtain ⟨_, h⟩ := h))
  · have hu := hr.units
    exact (pss_open DS (pss_cut (ps_if (PW.pt (pw_and (pt_cmpR (op_eqU hu) (pe_ix ix_seq (pv 0) pe_int (fun _ _ => rfl)) pe_int (nomark _)) (pw_and1 (pt_cmpR op_gtU (pe_callB call_len (by rfl) T.b_len (by decide +kernel) (pa_cons (pv 0) pa_nil)) pe_int (nomark _))))) (pss_one (ps_asg (pe_bm PySem.F.plainAttrs_list PySem.F.slot_list_pop PySem.F.type_list_pop mt_popAt (pv 0) (pa_cons pe_int pa_nil)) (pg_sub (pv 0) pe_int set_list))) pss_nil)
  (pss_cons (ps_if (pt_cmpR op_gtU (pe_ix ix_seq (pv 0) pe_int (fun _ _ => rfl)) pe_int (nomark _)) (pss_cons (ps_set (i := 2) nd rfl (Or.inl rfl) (pe_op op_modU (pe_callTy call_int1 (by rfl) T.b_int (by decide +kernel) (pa_cons (pe_ix ix_seq (pv 0) pe_int (fun _ _ => rfl)) pa_nil)) (pv 1)))
  (pss_cons (ps_asg (pe_op op_divU (pe_ix ix_seq (pv 0) pe_int (fun _ _ => rfl)) (pv 1)) (pg_sub (pv 0) pe_int set_list))
  (pss_one (ps_ret (pv 2))))) pss_nil)
  (pss_cons (ps_asg (pe_op op_modU (pe_callTy call_int1 (by rfl) T.b_int (by decide +kernel) (pa_cons (pe_op op_addU (pe_op op_mulU (pe_ix ix_seq (pv 0) pe_int (fun _ _ => rfl)) pe_int) pe_int) pa_nil)) pe_int) (pg_sub (pv 0) pe_int set_list))
  (pss_one (ps_ret (pe_op op_modU (pe_callTy call_int1 (by rfl) T.b_int (by decide +kernel) (pa_cons (pe_op op_divU (pe_ix ix_seq (pv 0) pe_int (fun _ _ => rfl)) pe_int) pa_nil)) (pv 1))))))))
theorem ok__law_pick {f : Addr} {fd : FuncData} (F : Fun Γ.K "_law_pick" "_law_pick" s__law_pick f fd) (T : TX Γ mg) (c__law_below : Cal P w Γ.K mg base CX0 "_law_below" 1 ["_law_d", "_law_size"] (sp__law_below Γ)) : FnOk P w Γ.K mg base CX0 2 f fd ["_law_d", "_law_items"] (sp__law_pick Γ) := by
  have nd := sc__law_pick.nd
  refine F.ok sc__law_pick (fun vs H Q E h => ?_) (fun cdv A outer s H vs Q E hr h => ⟨t__law_pick Γ, ?_, rd__law_pick Γ  vs H Q E h⟩)
  · repeat (first | (obtain ⟨rfl, _⟩ := h; rfl) | (obtain ⟨_, h⟩ := h))
  · have hu := hr.units
    exact (pss_one (ps_ret (pe_ix ix_seq (pv 1) (pe_cal c__law_below (hr.mono (by omega)) (by rfl) pass0 (pa_cons (pv 0) (pa_cons (pe_callB call_len (by rfl) T.b_len (by decide +kernel) (pa_cons (pv 1) pa_nil)) pa_nil))) (fun _ _ => rfl))))
theorem ok__law_one {f : Addr} {fd : FuncData} (F : Fun Γ.K "_law_one" "_law_one" s__law_one f fd) (T : TX Γ mg) (c_BadTextU_initU : CalE P w Γ.K mg base Γ.cBadText "BadText" 1 ["self", "word"] (sp_BadTextU_initU Γ)) (c_NotSureU_initU : CalE P w Γ.K mg base Γ.cNotSure "NotSure" 1 ["self", "heap"] (sp_NotSureU_initU Γ)) (c__law_below : Cal P w Γ.K mg base CX0 "_law_below" 1 ["_law_d", "_law_size"] (sp__law_below Γ)) (c__law_pick : Cal P w Γ.K mg base CX0 "_law_pick" 2 ["_law_d", "_law_items"] (sp__law_pick Γ)) : FnOk P w Γ.K mg base CX0 3 f fd ["_law_d"] (sp__law_one Γ) := by
  have nd := sc__law_one.nd
  refine F.ok sc__law_one (fun vs H Q E h => ?_) (fun cdv A outer s H vs Q E hr h => ⟨t__law_one_k24 Γ, ?_, rd__law_one_k24 Γ  vs H Q E h⟩)
  · repeat (first | (obtain ⟨rfl, _⟩ := h; rfl) | (obtain ⟨_, h⟩ := h))
  · have hu := hr.units
    exact (pss_cons (ps_set (i := 1) nd rfl (Or.inl rfl) (pe_cal c__law_pick (hr.mono (by omega)) (by rfl) pass0 (pa_cons (pv 0) (pa_cons (pe_lst (pa_cons pe_int (pa_cons (pe_un un_neg pe_int) (pa_cons pe_non (pa_cons pe_str (pa_cons (pe_tup pa_nil) pa_nil)))))) pa_nil))))
  (pss_cons (ps_if (pt_cmpR (op_eqU hu) (pe_cal c__law_below (hr.mono (by omega)) (by rfl) pass0 (pa_cons (pv 0) (pa_cons pe_int pa_nil))) pe_int (nomark _)) (pss_cons (ps_set (i := 2) nd rfl (Or.inl rfl) (pe_oexV c_NotSureU_initU (hr.mono (by omega)) rfl (pa_cons (pv 1) pa_nil)))
  (pss_one (ps_ret (pe_tup (pa_cons (pv 2) (pa_cons (pe_cmpR (op_eqU hu) (pe_ofld T.err_NotSure.X T.err_NotSure.n (pv 2)) (pv 1) (nomark _)) pa_nil)))))) pss_nil)
  (pss_cons (ps_set (i := 2) nd rfl (Or.inl rfl) (pe_oexV c_BadTextU_initU (hr.mono (by omega)) rfl (pa_cons (pv 1) pa_nil)))
  (pss_one (ps_ret (pe_tup (pa_cons (pv 2) (pa_cons (pe_cmpR (op_eqU hu) (pe_ofld T.err_BadText.X T.err_BadText.n (pv 2)) (pv 1) (nomark _)) pa_nil))))))))
theorem ok__law_classes {f : Addr} {fd : FuncData} (F : Fun Γ.K "_law_classes" "_law_classes" s__law_classes f fd) (T : TX Γ mg) : FnOk P w Γ.K mg base CX0 1 f fd ["_law_error"] (sp__law_classes Γ) := by
  have nd := sc__law_classes.nd
  refine F.ok sc__law_classes (fun vs H Q E h => ?_) (fun cdv A outer s H vs Q E hr h => ⟨t__law_classes_k24 Γ, ?_, rd__law_classes_k24 Γ T.errs vs H Q E h⟩)
  · repeat (first | (obtain ⟨rfl, _⟩ := h; rfl) | (obtain ⟨_, h⟩ := h))
  · have hu := hr.units
    exact (pss_cons (ps_set (i := 1) nd rfl (Or.inl rfl) (pe_lst (pa_cons (pe_callB call_isErr (by rfl) T.b_isinstance (by decide +kernel) (pa_cons (pv 0) (pa_cons (pe_glob (by rfl) T.m_BadHeap rfl) pa_nil))) (pa_cons (pe_callB call_isErr (by rfl) T.b_isinstance (by decide +kernel) (pa_cons (pv 0) (pa_cons (pe_glob (by rfl) T.m_BadNumber rfl) pa_nil))) (pa_cons (pe_callB call_isErr (by rfl) T.b_isinstance (by decide +kernel) (pa_cons (pv 0) (pa_cons (pe_glob (by rfl) T.m_BadPlace rfl) pa_nil))) pa_nil)))))
  (pss_cons (ps_set (i := 1) nd rfl (Or.inl rfl) (pe_op op_addU (pv 1) (pe_lst (pa_cons (pe_callB call_isErr (by rfl) T.b_isinstance (by decide +kernel) (pa_cons (pv 0) (pa_cons (pe_glob (by rfl) T.m_BadRow rfl) pa_nil))) (pa_cons (pe_callB call_isErr (by rfl) T.b_isinstance (by decide +kernel) (pa_cons (pv 0) (pa_cons (pe_glob (by rfl) T.m_BadRule rfl) pa_nil))) (pa_cons (pe_callB call_isErr (by rfl) T.b_isinstance (by decide +kernel) (pa_cons (pv 0) (pa_cons (pe_glob (by rfl) T.m_BadSplit rfl) pa_nil))) pa_nil))))))
  (pss_cons (ps_set (i := 1) nd rfl (Or.inl rfl) (pe_op op_addU (pv 1) (pe_lst (pa_cons (pe_callB call_isErr (by rfl) T.b_isinstance (by decide +kernel) (pa_cons (pv 0) (pa_cons (pe_glob (by rfl) T.m_BadStyle rfl) pa_nil))) (pa_cons (pe_callB call_isErr (by rfl) T.b_isinstance (by decide +kernel) (pa_cons (pv 0) (pa_cons (pe_glob (by rfl) T.m_BadSums rfl) pa_nil))) (pa_cons (pe_callB call_isErr (by rfl) T.b_isinstance (by decide +kernel) (pa_cons (pv 0) (pa_cons (pe_glob (by rfl) T.m_BadText rfl) pa_nil))) pa_nil))))))
  (pss_cons (ps_set (i := 1) nd rfl (Or.inl rfl) (pe_op op_addU (pv 1) (pe_lst (pa_cons (pe_callB call_isErr (by rfl) T.b_isinstance (by decide +kernel) (pa_cons (pv 0) (pa_cons (pe_glob (by rfl) T.m_BadWay rfl) pa_nil))) (pa_cons (pe_callB call_isErr (by rfl) T.b_isinstance (by decide +kernel) (pa_cons (pv 0) (pa_cons (pe_glob (by rfl) T.m_NoTable rfl) pa_nil))) (pa_cons (pe_callB call_isErr (by rfl) T.b_isinstance (by decide +kernel) (pa_cons (pv 0) (pa_cons (pe_glob (by rfl) T.m_NoTerms rfl) pa_nil))) pa_nil))))))
  (pss_one (ps_ret (pe_callB call_len (by rfl) T.b_len (by decide +kernel) (pa_cons (pe_lc (own := [("_law_one_here", 2)]) (g := (gName 2)) (tt := (tB (tVar 2))) rfl nd (pi_seq (pe_op op_addU (pv 1) (pe_lst (pa_cons (pe_callB call_isErr (by rfl) T.b_isinstance (by decide +kernel) (pa_cons (pv 0) (pa_cons (pe_glob (by rfl) T.m_NotSure rfl) pa_nil))) (pa_cons (pe_callB call_isErr (by rfl) T.b_isinstance (by decide +kernel) (pa_cons (pv 0) (pa_cons (pe_glob (by rfl) T.m_TooGreat rfl) pa_nil))) pa_nil))))) (blkOk_by (N := N__law_classes) (sc := (defScope s__law_classes)) (own := [("_law_one_here", 2)]) (by decide +kernel)) (fun _ _ _ _ _ => (pg_name (i := 2) nd rfl (Or.inl rfl))) (fun _ _ _ _ _ => pts_one (pt_val (pv 2))) (fun _ _ _ _ _ => (pv 2))) pa_nil))))))))
theorem ok_law {f : Addr} {fd : FuncData} (F : Fun Γ.K "law" "law" s_law f fd) (T : TX Γ mg) (c__law_classes : Cal P w Γ.K mg base CX0 "_law_classes" 1 ["_law_error"] (sp__law_classes Γ)) (c__law_one : Cal P w Γ.K mg base CX0 "_law_one" 3 ["_law_d"] (sp__law_one Γ)) (c__law_random : Cal P w Γ.K mg base CX0 "_law_random" 1 ["_law_script", "_law_salt"] (sp__law_random Γ)) : FnOk P w Γ.K mg base CX0 4 f fd ["_law_script"] (spLaw Γ.K) := by
  have nd := sc_law.nd
  refine F.ok sc_law (fun vs H Q E h => ?_) (fun cdv A outer s H vs Q E hr h => ⟨t_law_k24 Γ, ?_, rd_law_k24 Γ T.errs vs H Q E h⟩)
  · repeat (first | (obtain ⟨rfl, _⟩ := h; rfl) | (obtain ⟨_, h⟩ := h))
  · have hu := hr.units
    exact (pss_cons (ps_set (i := 1) nd rfl (Or.inl rfl) (pe_cal c__law_random (hr.mono (by omega)) (by rfl) pass0 (pa_cons (pv 0) (pa_cons pe_int pa_nil))))
  (pss_cons (ps_for PassesOwn.never rfl (pi_range1 rfl T.b_range (pa_cons pe_int pa_nil)) (pg_name (i := 2) nd rfl (Or.inl rfl)) (pss_cons (ps_asg (pe_cal c__law_one (hr.mono (by omega)) (by rfl) pass0 (pa_cons (pv 1) pa_nil)) (pg_tup rfl (pgs_cons (pg_name (i := 3) nd rfl (Or.inl rfl)) (pgs_cons (pg_name (i := 4) nd rfl (Or.inl rfl)) pgs_nil))))
  (pss_cons (ps_if (PW.pt (pw_or (pt_not (pt_val (pv 4))) (pw_or (pt_cmpR (op_neU hu) (pe_cal c__law_classes (hr.mono (by omega)) (by rfl) pass0 (pa_cons (pv 3) pa_nil)) pe_int (nomark _)) (pw_or1 (pt_not (pt_val (pe_callB call_isErr (by rfl) T.b_isinstance (by decide +kernel) (pa_cons (pv 3) (pa_cons (pe_glob (by rfl) T.m_SplitError rfl) pa_nil))))))))) (pss_one (ps_ret pe_bl)) pss_nil)
  (pss_one (ps_if (pt_not (pt_val (pe_callB call_isErr (by rfl) T.b_isinstance (by decide +kernel) (pa_cons (pv 3) (pa_cons (pe_bltn (by rfl) T.b_ValueError (by decide +kernel) (v := .ty "ValueError") rfl) pa_nil))))) (pss_one (ps_ret pe_bl)) pss_nil)))))
  (pss_cons (ps_set (i := 5) nd rfl (Or.inl rfl) (pe_lst (pa_cons (pe_exc0 T.x_BadRule rfl) (pa_cons (pe_exc0 T.x_BadHeap rfl) (pa_cons (pe_exc0 T.x_BadSplit rfl) (pa_cons (pe_exc0 T.x_NoTerms rfl) (pa_cons (pe_exc0 T.x_NoTable rfl) (pa_cons (pe_exc0 T.x_BadWay rfl) (pa_cons (pe_exc0 T.x_BadStyle rfl) (pa_cons (pe_exc0 T.x_BadSums rfl) (pa_cons (pe_exc0 T.x_BadNumber rfl) pa_nil)))))))))))
  (pss_cons (ps_set (i := 5) nd rfl (Or.inl rfl) (pe_op op_addU (pv 5) (pe_lst (pa_cons (pe_exc0 T.x_TooGreat rfl) (pa_cons (pe_exc0 T.x_BadRow rfl) (pa_cons (pe_exc0 T.x_BadPlace rfl) pa_nil))))))
  (pss_one (ps_ret (pe_cmpR (op_eqU hu) (pe_lc (own := [("_law_one_here", 6)]) (g := (gName 6)) (tt := (tOr (tTest (tOp (rNeU Γ.K) (tCal (sp__law_classes Γ) E0 (tCons (tVar 6) tNil)) (tC (.int 1)))) (tNot (tB (tCB (rIsErr Γ.K) (tCons (tVar 6) (tCons (tC (.ref Γ.cSplitError)) tNil))))))) rfl nd (pi_seq (pv 5)) (blkOk_by (N := N_law) (sc := (defScope s_law)) (own := [("_law_one_here", 6)]) (by decide +kernel)) (fun _ _ _ _ _ => (pg_name (i := 6) nd rfl (Or.inl rfl))) (fun _ _ _ _ _ => pts_one (PW.pt (pw_or (pt_cmpR (op_neU hu) (pe_cal c__law_classes (hr.mono (by omega)) (by rfl) pass0 (pa_cons (pv 6) pa_nil)) pe_int (nomark _)) (pw_or1 (pt_not (pt_val (pe_callB call_isErr (by rfl) T.b_isinstance (by decide +kernel) (pa_cons (pv 6) (pa_cons (pe_glob (by rfl) T.m_SplitError rfl) pa_nil))))))))) (fun _ _ _ _ _ => (pv 6))) (pe_lst pa_nil) (nomark _))))))))
end
theorem all {l : PySem.W.OpenLaw} {w : World} {K : PySem.W.Frag} {h : Heap} {mg : Str → Option Value} {fa : Addr} (X : K.In h) (G : h.Ns mainGlobals mg) (hfa : mg "law" = some (.ref fa))
    {cBadHeap cBadNumber cBadPlace cBadRow cBadRule cBadSplit cBadStyle cBadSums cBadText cBadWay cNoTable cNoTerms cNotSure cSplitError cTooGreat f_NotSureU_initU f_BadTextU_initU : Addr}
    {nmNotSure qNotSure : Str} {NNotSure : Addr} {bsNotSure bmNotSure : List Value} {snNotSure : List Str} {subNotSure : List Value} {abNotSure : Bool} {colNotSure : Option Bool} {ddNotSure : Option Addr} {k0NotSure k1NotSure k2NotSure k3NotSure k5NotSure : Option Value}
    {nmBadText qBadText : Str} {NBadText : Addr} {bsBadText bmBadText : List Value} {snBadText : List Str} {subBadText : List Value} {abBadText : Bool} {colBadText : Option Bool} {ddBadText : Option Addr} {k0BadText k1BadText k2BadText k3BadText k5BadText : Option Value}
    
    (D__law_random : DefAt K mg "_law_random" "_law_random" s__law_random)
    (D__law_below : DefAt K mg "_law_below" "_law_below" s__law_below)
    (D__law_pick : DefAt K mg "_law_pick" "_law_pick" s__law_pick)
    (D__law_one : DefAt K mg "_law_one" "_law_one" s__law_one)
    (D__law_classes : DefAt K mg "_law_classes" "_law_classes" s__law_classes)
    (D_law : DefAt K mg "law" "law" s_law)
    (b_ValueError : PySem.W.nsIn K mainGlobals "ValueError" = some none)
    (b_abs : PySem.W.nsIn K mainGlobals "abs" = some none)
    (b_int : PySem.W.nsIn K mainGlobals "int" = some none)
    (b_isinstance : PySem.W.nsIn K mainGlobals "isinstance" = some none)
    (b_len : PySem.W.nsIn K mainGlobals "len" = some none)
    (b_range : PySem.W.nsIn K mainGlobals "range" = some none)
    (a_BadHeap : PySem.W.nsIn K mainGlobals "BadHeap" = some (some (.ref cBadHeap)))
    (a_BadNumber : PySem.W.nsIn K mainGlobals "BadNumber" = some (some (.ref cBadNumber)))
    (a_BadPlace : PySem.W.nsIn K mainGlobals "BadPlace" = some (some (.ref cBadPlace)))
    (a_BadRow : PySem.W.nsIn K mainGlobals "BadRow" = some (some (.ref cBadRow)))
    (a_BadRule : PySem.W.nsIn K mainGlobals "BadRule" = some (some (.ref cBadRule)))
    (a_BadSplit : PySem.W.nsIn K mainGlobals "BadSplit" = some (some (.ref cBadSplit)))
    (a_BadStyle : PySem.W.nsIn K mainGlobals "BadStyle" = some (some (.ref cBadStyle)))
    (a_BadSums : PySem.W.nsIn K mainGlobals "BadSums" = some (some (.ref cBadSums)))
    (a_BadText : PySem.W.nsIn K mainGlobals "BadText" = some (some (.ref cBadText)))
    (a_BadWay : PySem.W.nsIn K mainGlobals "BadWay" = some (some (.ref cBadWay)))
    (a_NoTable : PySem.W.nsIn K mainGlobals "NoTable" = some (some (.ref cNoTable)))
    (a_NoTerms : PySem.W.nsIn K mainGlobals "NoTerms" = some (some (.ref cNoTerms)))
    (a_NotSure : PySem.W.nsIn K mainGlobals "NotSure" = some (some (.ref cNotSure)))
    (a_SplitError : PySem.W.nsIn K mainGlobals "SplitError" = some (some (.ref cSplitError)))
    (a_TooGreat : PySem.W.nsIn K mainGlobals "TooGreat" = some (some (.ref cTooGreat)))
    (f_NotSureU_initU_at : PySem.W.findIn K (.ref cNotSure) "__init__" = some (some (.ref f_NotSureU_initU)))
    (i_NotSureU_initU : PySem.W.isFn K (.ref f_NotSureU_initU) = true)
    (F_NotSureU_initU : FunAt K "__init__" "NotSure.__init__" s_NotSureU_initU f_NotSureU_initU)
    (f_BadTextU_initU_at : PySem.W.findIn K (.ref cBadText) "__init__" = some (some (.ref f_BadTextU_initU)))
    (i_BadTextU_initU : PySem.W.isFn K (.ref f_BadTextU_initU) = true)
    (F_BadTextU_initU : FunAt K "__init__" "BadText.__init__" s_BadTextU_initU f_BadTextU_initU)
    (xx_BadHeap : PySem.W.excIn K cBadHeap [.type "ValueError", .type "Exception", .type "BaseException", .type "object"] "ValueError.__new__" = true)
    (xk_BadHeap : PySem.W.keepIn K (.ref cBadHeap) = true)
    (xb_BadHeap : PySem.W.subIn K (.ref cBadHeap) (.type "BaseException") = some true)
    (xt_BadHeap : PySem.W.typeIn K (.ref cBadHeap) = some (.type "type"))
    (xx_BadNumber : PySem.W.excIn K cBadNumber [.type "ValueError", .type "Exception", .type "BaseException", .type "object"] "ValueError.__new__" = true)
    (xk_BadNumber : PySem.W.keepIn K (.ref cBadNumber) = true)
    (xb_BadNumber : PySem.W.subIn K (.ref cBadNumber) (.type "BaseException") = some true)
    (xt_BadNumber : PySem.W.typeIn K (.ref cBadNumber) = some (.type "type"))
    (xx_BadPlace : PySem.W.excIn K cBadPlace [.type "ValueError", .type "Exception", .type "BaseException", .type "object"] "ValueError.__new__" = true)
    (xk_BadPlace : PySem.W.keepIn K (.ref cBadPlace) = true)
    (xb_BadPlace : PySem.W.subIn K (.ref cBadPlace) (.type "BaseException") = some true)
    (xt_BadPlace : PySem.W.typeIn K (.ref cBadPlace) = some (.type "type"))
    (xx_BadRow : PySem.W.excIn K cBadRow [.type "ValueError", .type "Exception", .type "BaseException", .type "object"] "ValueError.__new__" = true)
    (xk_BadRow : PySem.W.keepIn K (.ref cBadRow) = true)
    (xb_BadRow : PySem.W.subIn K (.ref cBadRow) (.type "BaseException") = some true)
    (xt_BadRow : PySem.W.typeIn K (.ref cBadRow) = some (.type "type"))
    (xx_BadRule : PySem.W.excIn K cBadRule [.type "ValueError", .type "Exception", .type "BaseException", .type "object"] "ValueError.__new__" = true)
    (xk_BadRule : PySem.W.keepIn K (.ref cBadRule) = true)
    (xb_BadRule : PySem.W.subIn K (.ref cBadRule) (.type "BaseException") = some true)
    (xt_BadRule : PySem.W.typeIn K (.ref cBadRule) = some (.type "type"))
    (xx_BadSplit : PySem.W.excIn K cBadSplit [.type "ValueError", .type "Exception", .type "BaseException", .type "object"] "ValueError.__new__" = true)
    (xk_BadSplit : PySem.W.keepIn K (.ref cBadSplit) = true)
    (xb_BadSplit : PySem.W.subIn K (.ref cBadSplit) (.type "BaseException") = some true)
    (xt_BadSplit : PySem.W.typeIn K (.ref cBadSplit) = some (.type "type"))
    (xx_BadStyle : PySem.W.excIn K cBadStyle [.type "ValueError", .type "Exception", .type "BaseException", .type "object"] "ValueError.__new__" = true)
    (xk_BadStyle : PySem.W.keepIn K (.ref cBadStyle) = true)
    (xb_BadStyle : PySem.W.subIn K (.ref cBadStyle) (.type "BaseException") = some true)
    (xt_BadStyle : PySem.W.typeIn K (.ref cBadStyle) = some (.type "type"))
    (xx_BadSums : PySem.W.excIn K cBadSums [.type "ValueError", .type "Exception", .type "BaseException", .type "object"] "ValueError.__new__" = true)
    (xk_BadSums : PySem.W.keepIn K (.ref cBadSums) = true)
    (xb_BadSums : PySem.W.subIn K (.ref cBadSums) (.type "BaseException") = some true)
    (xt_BadSums : PySem.W.typeIn K (.ref cBadSums) = some (.type "type"))
    (xx_BadWay : PySem.W.excIn K cBadWay [.type "ValueError", .type "Exception", .type "BaseException", .type "object"] "ValueError.__new__" = true)
    (xk_BadWay : PySem.W.keepIn K (.ref cBadWay) = true)
    (xb_BadWay : PySem.W.subIn K (.ref cBadWay) (.type "BaseException") = some true)
    (xt_BadWay : PySem.W.typeIn K (.ref cBadWay) = some (.type "type"))
    (xx_NoTable : PySem.W.excIn K cNoTable [.type "ValueError", .type "Exception", .type "BaseException", .type "object"] "ValueError.__new__" = true)
    (xk_NoTable : PySem.W.keepIn K (.ref cNoTable) = true)
    (xb_NoTable : PySem.W.subIn K (.ref cNoTable) (.type "BaseException") = some true)
    (xt_NoTable : PySem.W.typeIn K (.ref cNoTable) = some (.type "type"))
    (xx_NoTerms : PySem.W.excIn K cNoTerms [.type "ValueError", .type "Exception", .type "BaseException", .type "object"] "ValueError.__new__" = true)
    (xk_NoTerms : PySem.W.keepIn K (.ref cNoTerms) = true)
    (xb_NoTerms : PySem.W.subIn K (.ref cNoTerms) (.type "BaseException") = some true)
    (xt_NoTerms : PySem.W.typeIn K (.ref cNoTerms) = some (.type "type"))
    (xx_TooGreat : PySem.W.excIn K cTooGreat [.type "ValueError", .type "Exception", .type "BaseException", .type "object"] "ValueError.__new__" = true)
    (xk_TooGreat : PySem.W.keepIn K (.ref cTooGreat) = true)
    (xb_TooGreat : PySem.W.subIn K (.ref cTooGreat) (.type "BaseException") = some true)
    (xt_TooGreat : PySem.W.typeIn K (.ref cTooGreat) = some (.type "type"))
    (oc_NotSure : K.lookup cNotSure = some (excClassObj nmNotSure qNotSure cNotSure NNotSure bsNotSure bmNotSure true snNotSure subNotSure abNotSure colNotSure ddNotSure k0NotSure k1NotSure k2NotSure k3NotSure k5NotSure "ValueError.__new__"))
    (or_NotSure : PySem.HandSPX.refsVE bmNotSure = true)
    (os_NotSure : PySem.W.findIn K (.ref cNotSure) "__setattr__" = some (some (.builtin "object.__setattr__")))
    (ox_NotSure : PySem.W.subIn K (.ref cNotSure) (.type "BaseException") = some true)
    (ot_NotSure : PySem.W.typeIn K (.ref cNotSure) = some (.type "type"))
    (okk_NotSure : PySem.W.keepIn K (.ref cNotSure) = true)
    (oga_NotSure : PySem.W.findIn K (.ref cNotSure) "__getattribute__" = some (some (.builtin "BaseException.__getattribute__")))
    (ogg_NotSure : PySem.W.findIn K (.ref cNotSure) "__getattr__" = some none)
    (ohd_NotSure : PySem.W.hasDictIn K cNotSure = true)
    (on_NotSure : PySem.W.findIn K (.ref cNotSure) "heap" = some none)
    (oc_BadText : K.lookup cBadText = some (excClassObj nmBadText qBadText cBadText NBadText bsBadText bmBadText true snBadText subBadText abBadText colBadText ddBadText k0BadText k1BadText k2BadText k3BadText k5BadText "ValueError.__new__"))
    (or_BadText : PySem.HandSPX.refsVE bmBadText = true)
    (os_BadText : PySem.W.findIn K (.ref cBadText) "__setattr__" = some (some (.builtin "object.__setattr__")))
    (ox_BadText : PySem.W.subIn K (.ref cBadText) (.type "BaseException") = some true)
    (ot_BadText : PySem.W.typeIn K (.ref cBadText) = some (.type "type"))
    (okk_BadText : PySem.W.keepIn K (.ref cBadText) = true)
    (oga_BadText : PySem.W.findIn K (.ref cBadText) "__getattribute__" = some (some (.builtin "BaseException.__getattribute__")))
    (ogg_BadText : PySem.W.findIn K (.ref cBadText) "__getattr__" = some none)
    (ohd_BadText : PySem.W.hasDictIn K cBadText = true)
    (on_BadText : PySem.W.findIn K (.ref cBadText) "word" = some none)
    (kn1 : PySem.W.specialIn K (.builtin "object.__class__") "__get__" = some (some (.builtin "getset_descriptor.__get__")))
    (kn2 : PySem.W.takesIn K (.builtin "object.__class__") = some true)
    (kc0_1 : PySem.W.isClsIn K cBadHeap = true)
    (kc0_2 : PySem.W.findIn K (.ref cBadHeap) "__getattribute__" = some (some (.builtin "BaseException.__getattribute__")))
    (kc0_3 : PySem.W.findIn K (.ref cBadHeap) "__getattr__" = some none)
    (kc0_4 : PySem.W.subIn K (.ref cBadHeap) (.type "BaseException") = some true)
    (kc0_5 : PySem.W.findIn K (.ref cBadHeap) "__class__" = some (some (.builtin "object.__class__")))
    (kc0_6 : PySem.W.mroIn K cBadHeap (.type "object") = some true)
    (ki_s_0 : PySem.W.kitOne K (.ref cBadHeap) (.ref cSplitError) = some true)
    (ki_v_0 : PySem.W.kitOne K (.ref cBadHeap) (.type "ValueError") = some true)
    (ki_0_0 : PySem.W.kitOne K (.ref cBadHeap) (.ref cBadHeap) = some true)
    (ki_0_1 : PySem.W.kitOne K (.ref cBadHeap) (.ref cBadNumber) = some false)
    (ki_0_2 : PySem.W.kitOne K (.ref cBadHeap) (.ref cBadPlace) = some false)
    (ki_0_3 : PySem.W.kitOne K (.ref cBadHeap) (.ref cBadRow) = some false)
    (ki_0_4 : PySem.W.kitOne K (.ref cBadHeap) (.ref cBadRule) = some false)
    (ki_0_5 : PySem.W.kitOne K (.ref cBadHeap) (.ref cBadSplit) = some false)
    (ki_0_6 : PySem.W.kitOne K (.ref cBadHeap) (.ref cBadStyle) = some false)
    (ki_0_7 : PySem.W.kitOne K (.ref cBadHeap) (.ref cBadSums) = some false)
    (ki_0_8 : PySem.W.kitOne K (.ref cBadHeap) (.ref cBadText) = some false)
    (ki_0_9 : PySem.W.kitOne K (.ref cBadHeap) (.ref cBadWay) = some false)
    (ki_0_10 : PySem.W.kitOne K (.ref cBadHeap) (.ref cNoTable) = some false)
    (ki_0_11 : PySem.W.kitOne K (.ref cBadHeap) (.ref cNoTerms) = some false)
    (ki_0_12 : PySem.W.kitOne K (.ref cBadHeap) (.ref cNotSure) = some false)
    (ki_0_13 : PySem.W.kitOne K (.ref cBadHeap) (.ref cTooGreat) = some false)
    (kc1_1 : PySem.W.isClsIn K cBadNumber = true)
    (kc1_2 : PySem.W.findIn K (.ref cBadNumber) "__getattribute__" = some (some (.builtin "BaseException.__getattribute__")))
    (kc1_3 : PySem.W.findIn K (.ref cBadNumber) "__getattr__" = some none)
    (kc1_4 : PySem.W.subIn K (.ref cBadNumber) (.type "BaseException") = some true)
    (kc1_5 : PySem.W.findIn K (.ref cBadNumber) "__class__" = some (some (.builtin "object.__class__")))
    (kc1_6 : PySem.W.mroIn K cBadNumber (.type "object") = some true)
    (ki_s_1 : PySem.W.kitOne K (.ref cBadNumber) (.ref cSplitError) = some true)
    (ki_v_1 : PySem.W.kitOne K (.ref cBadNumber) (.type "ValueError") = some true)
    (ki_1_0 : PySem.W.kitOne K (.ref cBadNumber) (.ref cBadHeap) = some false)
    (ki_1_1 : PySem.W.kitOne K (.ref cBadNumber) (.ref cBadNumber) = some true)
    (ki_1_2 : PySem.W.kitOne K (.ref cBadNumber) (.ref cBadPlace) = some false)
    (ki_1_3 : PySem.W.kitOne K (.ref cBadNumber) (.ref cBadRow) = some false)
    (ki_1_4 : PySem.W.kitOne K (.ref cBadNumber) (.ref cBadRule) = some false)
    (ki_1_5 : PySem.W.kitOne K (.ref cBadNumber) (.ref cBadSplit) = some false)
    (ki_1_6 : PySem.W.kitOne K (.ref cBadNumber) (.ref cBadStyle) = some false)
    (ki_1_7 : PySem.W.kitOne K (.ref cBadNumber) (.ref cBadSums) = some false)
    (ki_1_8 : PySem.W.kitOne K (.ref cBadNumber) (.ref cBadText) = some false)
    (ki_1_9 : PySem.W.kitOne K (.ref cBadNumber) (.ref cBadWay) = some false)
    (ki_1_10 : PySem.W.kitOne K (.ref cBadNumber) (.ref cNoTable) = some false)
    (ki_1_11 : PySem.W.kitOne K (.ref cBadNumber) (.ref cNoTerms) = some false)
    (ki_1_12 : PySem.W.kitOne K (.ref cBadNumber) (.ref cNotSure) = some false)
    (ki_1_13 : PySem.W.kitOne K (.ref cBadNumber) (.ref cTooGreat) = some false)
    (kc2_1 : PySem.W.isClsIn K cBadPlace = true)
    (kc2_2 : PySem.W.findIn K (.ref cBadPlace) "__getattribute__" = some (some (.builtin "BaseException.__getattribute__")))
    (kc2_3 : PySem.W.findIn K (.ref cBadPlace) "__getattr__" = some none)
    (kc2_4 : PySem.W.subIn K (.ref cBadPlace) (.type "BaseException") = some true)
    (kc2_5 : PySem.W.findIn K (.ref cBadPlace) "__class__" = some (some (.builtin "object.__class__")))
    (kc2_6 : PySem.W.mroIn K cBadPlace (.type "object") = some true)
    (ki_s_2 : PySem.W.kitOne K (.ref cBadPlace) (.ref cSplitError) = some true)
    (ki_v_2 : PySem.W.kitOne K (.ref cBadPlace) (.type "ValueError") = some true)
    (ki_2_0 : PySem.W.kitOne K (.ref cBadPlace) (.ref cBadHeap) = some false)
    (ki_2_1 : PySem.W.kitOne K (.ref cBadPlace) (.ref cBadNumber) = some false)
    (ki_2_2 : PySem.W.kitOne K (.ref cBadPlace) (.ref cBadPlace) = some true)
    (ki_2_3 : PySem.W.kitOne K (.ref cBadPlace) (.ref cBadRow) = some false)
    (ki_2_4 : PySem.W.kitOne K (.ref cBadPlace) (.ref cBadRule) = some false)
    (ki_2_5 : PySem.W.kitOne K (.ref cBadPlace) (.ref cBadSplit) = some false)
    (ki_2_6 : PySem.W.kitOne K (.ref cBadPlace) (.ref cBadStyle) = some false)
    (ki_2_7 : PySem.W.kitOne K (.ref cBadPlace) (.ref cBadSums) = some false)
    (ki_2_8 : PySem.W.kitOne K (.ref cBadPlace) (.ref cBadText) = some false)
    (ki_2_9 : PySem.W.kitOne K (.ref cBadPlace) (.ref cBadWay) = some false)
    (ki_2_10 : PySem.W.kitOne K (.ref cBadPlace) (.ref cNoTable) = some false)
    (ki_2_11 : PySem.W.kitOne K (.ref cBadPlace) (.ref cNoTerms) = some false)
    (ki_2_12 : PySem.W.kitOne K (.ref cBadPlace) (.ref cNotSure) = some false)
    (ki_2_13 : PySem.W.kitOne K (.ref cBadPlace) (.ref cTooGreat) = some false)
    (kc3_1 : PySem.W.isClsIn K cBadRow = true)
    (kc3_2 : PySem.W.findIn K (.ref cBadRow) "__getattribute__" = some (some (.builtin "BaseException.__getattribute__")))
    (kc3_3 : PySem.W.findIn K (.ref cBadRow) "__getattr__" = some none)
    (kc3_4 : PySem.W.subIn K (.ref cBadRow) (.type "BaseException") = some true)
    (kc3_5 : PySem.W.findIn K (.ref cBadRow) "__class__" = some (some (.builtin "object.__class__")))
    (kc3_6 : PySem.W.mroIn K cBadRow (.type "object") = some true)
    (ki_s_3 : PySem.W.kitOne K (.ref cBadRow) (.ref cSplitError) = some true)
    (ki_v_3 : PySem.W.kitOne K (.ref cBadRow) (.type "ValueError") = some true)
    (ki_3_0 : PySem.W.kitOne K (.ref cBadRow) (.ref cBadHeap) = some false)
    (ki_3_1 : PySem.W.kitOne K (.ref cBadRow) (.ref cBadNumber) = some false)
    (ki_3_2 : PySem.W.kitOne K (.ref cBadRow) (.ref cBadPlace) = some false)
    (ki_3_3 : PySem.W.kitOne K (.ref cBadRow) (.ref cBadRow) = some true)
    (ki_3_4 : PySem.W.kitOne K (.ref cBadRow) (.ref cBadRule) = some false)
    (ki_3_5 : PySem.W.kitOne K (.ref cBadRow) (.ref cBadSplit) = some false)
    (ki_3_6 : PySem.W.kitOne K (.ref cBadRow) (.ref cBadStyle) = some false)
    (ki_3_7 : PySem.W.kitOne K (.ref cBadRow) (.ref cBadSums) = some false)
    (ki_3_8 : PySem.W.kitOne K (.ref cBadRow) (.ref cBadText) = some false)
    (ki_3_9 : PySem.W.kitOne K (.ref cBadRow) (.ref cBadWay) = some false)
    (ki_3_10 : PySem.W.kitOne K (.ref cBadRow) (.ref cNoTable) = some false)
    (ki_3_11 : PySem.W.kitOne K (.ref cBadRow) (.ref cNoTerms) = some false)
    (ki_3_12 : PySem.W.kitOne K (.ref cBadRow) (.ref cNotSure) = some false)
    (ki_3_13 : PySem.W.kitOne K (.ref cBadRow) (.ref cTooGreat) = some false)
    (kc4_1 : PySem.W.isClsIn K cBadRule = true)
    (kc4_2 : PySem.W.findIn K (.ref cBadRule) "__getattribute__" = some (some (.builtin "BaseException.__getattribute__")))
    (kc4_3 : PySem.W.findIn K (.ref cBadRule) "__getattr__" = some none)
    (kc4_4 : PySem.W.subIn K (.ref cBadRule) (.type "BaseException") = some true)
    (kc4_5 : PySem.W.findIn K (.ref cBadRule) "__class__" = some (some (.builtin "object.__class__")))
    (kc4_6 : PySem.W.mroIn K cBadRule (.type "object") = some true)
    (ki_s_4 : PySem.W.kitOne K (.ref cBadRule) (.ref cSplitError) = some true)
    (ki_v_4 : PySem.W.kitOne K (.ref cBadRule) (.type "ValueError") = some true)
    (ki_4_0 : PySem.W.kitOne K (.ref cBadRule) (.ref cBadHeap) = some false)
    (ki_4_1 : PySem.W.kitOne K (.ref cBadRule) (.ref cBadNumber) = some false)
    (ki_4_2 : PySem.W.kitOne K (.ref cBadRule) (.ref cBadPlace) = some false)
    (ki_4_3 : PySem.W.kitOne K (.ref cBadRule) (.ref cBadRow) = some false)
    (ki_4_4 : PySem.W.kitOne K (.ref cBadRule) (.ref cBadRule) = some true)
    (ki_4_5 : PySem.W.kitOne K (.ref cBadRule) (.ref cBadSplit) = some false)
    (ki_4_6 : PySem.W.kitOne K (.ref cBadRule) (.ref cBadStyle) = some false)
    (ki_4_7 : PySem.W.kitOne K (.ref cBadRule) (.ref cBadSums) = some false)
    (ki_4_8 : PySem.W.kitOne K (.ref cBadRule) (.ref cBadText) = some false)
    (ki_4_9 : PySem.W.kitOne K (.ref cBadRule) (.ref cBadWay) = some false)
    (ki_4_10 : PySem.W.kitOne K (.ref cBadRule) (.ref cNoTable) = some false)
    (ki_4_11 : PySem.W.kitOne K (.ref cBadRule) (.ref cNoTerms) = some false)
    (ki_4_12 : PySem.W.kitOne K (.ref cBadRule) (.ref cNotSure) = some false)
    (ki_4_13 : PySem.W.kitOne K (.ref cBadRule) (.ref cTooGreat) = some false)
    (kc5_1 : PySem.W.isClsIn K cBadSplit = true)
    (kc5_2 : PySem.W.findIn K (.ref cBadSplit) "__getattribute__" = some (some (.builtin "BaseException.__getattribute__")))
    (kc5_3 : PySem.W.findIn K (.ref cBadSplit) "__getattr__" = some none)
    (kc5_4 : PySem.W.subIn K (.ref cBadSplit) (.type "BaseException") = some true)
    (kc5_5 : PySem.W.findIn K (.ref cBadSplit) "__class__" = some (some (.builtin "object.__class__")))
    (kc5_6 : PySem.W.mroIn K cBadSplit (.type "object") = some true)
    (ki_s_5 : PySem.W.kitOne K (.ref cBadSplit) (.ref cSplitError) = some true)
    (ki_v_5 : PySem.W.kitOne K (.ref cBadSplit) (.type "ValueError") = some true)
    (ki_5_0 : PySem.W.kitOne K (.ref cBadSplit) (.ref cBadHeap) = some false)
    (ki_5_1 : PySem.W.kitOne K (.ref cBadSplit) (.ref cBadNumber) = some false)
    (ki_5_2 : PySem.W.kitOne K (.ref cBadSplit) (.ref cBadPlace) = some false)
    (ki_5_3 : PySem.W.kitOne K (.ref cBadSplit) (.ref cBadRow) = some false)
    (ki_5_4 : PySem.W.kitOne K (.ref cBadSplit) (.ref cBadRule) = some false)
    (ki_5_5 : PySem.W.kitOne K (.ref cBadSplit) (.ref cBadSplit) = some true)
    (ki_5_6 : PySem.W.kitOne K (.ref cBadSplit) (.ref cBadStyle) = some false)
    (ki_5_7 : PySem.W.kitOne K (.ref cBadSplit) (.ref cBadSums) = some false)
    (ki_5_8 : PySem.W.kitOne K (.ref cBadSplit) (.ref cBadText) = some false)
    (ki_5_9 : PySem.W.kitOne K (.ref cBadSplit) (.ref cBadWay) = some false)
    (ki_5_10 : PySem.W.kitOne K (.ref cBadSplit) (.ref cNoTable) = some false)
    (ki_5_11 : PySem.W.kitOne K (.ref cBadSplit) (.ref cNoTerms) = some false)
    (ki_5_12 : PySem.W.kitOne K (.ref cBadSplit) (.ref cNotSure) = some false)
    (ki_5_13 : PySem.W.kitOne K (.ref cBadSplit) (.ref cTooGreat) = some false)
    (kc6_1 : PySem.W.isClsIn K cBadStyle = true)
    (kc6_2 : PySem.W.findIn K (.ref cBadStyle) "__getattribute__" = some (some (.builtin "BaseException.__getattribute__")))
    (kc6_3 : PySem.W.findIn K (.ref cBadStyle) "__getattr__" = some none)
    (kc6_4 : PySem.W.subIn K (.ref cBadStyle) (.type "BaseException") = some true)
    (kc6_5 : PySem.W.findIn K (.ref cBadStyle) "__class__" = some (some (.builtin "object.__class__")))
    (kc6_6 : PySem.W.mroIn K cBadStyle (.type "object") = some true)
    (ki_s_6 : PySem.W.kitOne K (.ref cBadStyle) (.ref cSplitError) = some true)
    (ki_v_6 : PySem.W.kitOne K (.ref cBadStyle) (.type "ValueError") = some true)
    (ki_6_0 : PySem.W.kitOne K (.ref cBadStyle) (.ref cBadHeap) = some false)
    (ki_6_1 : PySem.W.kitOne K (.ref cBadStyle) (.ref cBadNumber) = some false)
    (ki_6_2 : PySem.W.kitOne K (.ref cBadStyle) (.ref cBadPlace) = some false)
    (ki_6_3 : PySem.W.kitOne K (.ref cBadStyle) (.ref cBadRow) = some false)
    (ki_6_4 : PySem.W.kitOne K (.ref cBadStyle) (.ref cBadRule) = some false)
    (ki_6_5 : PySem.W.kitOne K (.ref cBadStyle) (.ref cBadSplit) = some false)
    (ki_6_6 : PySem.W.kitOne K (.ref cBadStyle) (.ref cBadStyle) = some true)
    (ki_6_7 : PySem.W.kitOne K (.ref cBadStyle) (.ref cBadSums) = some false)
    (ki_6_8 : PySem.W.kitOne K (.ref cBadStyle) (.ref cBadText) = some false)
    (ki_6_9 : PySem.W.kitOne K (.ref cBadStyle) (.ref cBadWay) = some false)
    (ki_6_10 : PySem.W.kitOne K (.ref cBadStyle) (.ref cNoTable) = some false)
    (ki_6_11 : PySem.W.kitOne K (.ref cBadStyle) (.ref cNoTerms) = some false)
    (ki_6_12 : PySem.W.kitOne K (.ref cBadStyle) (.ref cNotSure) = some false)
    (ki_6_13 : PySem.W.kitOne K (.ref cBadStyle) (.ref cTooGreat) = some false)
    (kc7_1 : PySem.W.isClsIn K cBadSums = true)
    (kc7_2 : PySem.W.findIn K (.ref cBadSums) "__getattribute__" = some (some (.builtin "BaseException.__getattribute__")))
    (kc7_3 : PySem.W.findIn K (.ref cBadSums) "__getattr__" = some none)
    (kc7_4 : PySem.W.subIn K (.ref cBadSums) (.type "BaseException") = some true)
    (kc7_5 : PySem.W.findIn K (.ref cBadSums) "__class__" = some (some (.builtin "object.__class__")))
    (kc7_6 : PySem.W.mroIn K cBadSums (.type "object") = some true)
    (ki_s_7 : PySem.W.kitOne K (.ref cBadSums) (.ref cSplitError) = some true)
    (ki_v_7 : PySem.W.kitOne K (.ref cBadSums) (.type "ValueError") = some true)
    (ki_7_0 : PySem.W.kitOne K (.ref cBadSums) (.ref cBadHeap) = some false)
    (ki_7_1 : PySem.W.kitOne K (.ref cBadSums) (.ref cBadNumber) = some false)
    (ki_7_2 : PySem.W.kitOne K (.ref cBadSums) (.ref cBadPlace) = some false)
    (ki_7_3 : PySem.W.kitOne K (.ref cBadSums) (.ref cBadRow) = some false)
    (ki_7_4 : PySem.W.kitOne K (.ref cBadSums) (.ref cBadRule) = some false)
    (ki_7_5 : PySem.W.kitOne K (.ref cBadSums) (.ref cBadSplit) = some false)
    (ki_7_6 : PySem.W.kitOne K (.ref cBadSums) (.ref cBadStyle) = some false)
    (ki_7_7 : PySem.W.kitOne K (.ref cBadSums) (.ref cBadSums) = some true)
    (ki_7_8 : PySem.W.kitOne K (.ref cBadSums) (.ref cBadText) = some false)
    (ki_7_9 : PySem.W.kitOne K (.ref cBadSums) (.ref cBadWay) = some false)
    (ki_7_10 : PySem.W.kitOne K (.ref cBadSums) (.ref cNoTable) = some false)
    (ki_7_11 : PySem.W.kitOne K (.ref cBadSums) (.ref cNoTerms) = some false)
    (ki_7_12 : PySem.W.kitOne K (.ref cBadSums) (.ref cNotSure) = some false)
    (ki_7_13 : PySem.W.kitOne K (.ref cBadSums) (.ref cTooGreat) = some false)
    (kc8_1 : PySem.W.isClsIn K cBadText = true)
    (kc8_2 : PySem.W.findIn K (.ref cBadText) "__getattribute__" = some (some (.builtin "BaseException.__getattribute__")))
    (kc8_3 : PySem.W.findIn K (.ref cBadText) "__getattr__" = some none)
    (kc8_4 : PySem.W.subIn K (.ref cBadText) (.type "BaseException") = some true)
    (kc8_5 : PySem.W.findIn K (.ref cBadText) "__class__" = some (some (.builtin "object.__class__")))
    (kc8_6 : PySem.W.mroIn K cBadText (.type "object") = some true)
    (ki_s_8 : PySem.W.kitOne K (.ref cBadText) (.ref cSplitError) = some true)
    (ki_v_8 : PySem.W.kitOne K (.ref cBadText) (.type "ValueError") = some true)
    (ki_8_0 : PySem.W.kitOne K (.ref cBadText) (.ref cBadHeap) = some false)
    (ki_8_1 : PySem.W.kitOne K (.ref cBadText) (.ref cBadNumber) = some false)
    (ki_8_2 : PySem.W.kitOne K (.ref cBadText) (.ref cBadPlace) = some false)
    (ki_8_3 : PySem.W.kitOne K (.ref cBadText) (.ref cBadRow) = some false)
    (ki_8_4 : PySem.W.kitOne K (.ref cBadText) (.ref cBadRule) = some false)
    (ki_8_5 : PySem.W.kitOne K (.ref cBadText) (.ref cBadSplit) = some false)
    (ki_8_6 : PySem.W.kitOne K (.ref cBadText) (.ref cBadStyle) = some false)
    (ki_8_7 : PySem.W.kitOne K (.ref cBadText) (.ref cBadSums) = some false)
    (ki_8_8 : PySem.W.kitOne K (.ref cBadText) (.ref cBadText) = some true)
    (ki_8_9 : PySem.W.kitOne K (.ref cBadText) (.ref cBadWay) = some false)
    (ki_8_10 : PySem.W.kitOne K (.ref cBadText) (.ref cNoTable) = some false)
    (ki_8_11 : PySem.W.kitOne K (.ref cBadText) (.ref cNoTerms) = some false)
    (ki_8_12 : PySem.W.kitOne K (.ref cBadText) (.ref cNotSure) = some false)
    (ki_8_13 : PySem.W.kitOne K (.ref cBadText) (.ref cTooGreat) = some false)
    (kc9_1 : PySem.W.isClsIn K cBadWay = true)
    (kc9_2 : PySem.W.findIn K (.ref cBadWay) "__getattribute__" = some (some (.builtin "BaseException.__getattribute__")))
    (kc9_3 : PySem.W.findIn K (.ref cBadWay) "__getattr__" = some none)
    (kc9_4 : PySem.W.subIn K (.ref cBadWay) (.type "BaseException") = some true)
    (kc9_5 : PySem.W.findIn K (.ref cBadWay) "__class__" = some (some (.builtin "object.__class__")))
    (kc9_6 : PySem.W.mroIn K cBadWay (.type "object") = some true)
    (ki_s_9 : PySem.W.kitOne K (.ref cBadWay) (.ref cSplitError) = some true)
    (ki_v_9 : PySem.W.kitOne K (.ref cBadWay) (.type "ValueError") = some true)
    (ki_9_0 : PySem.W.kitOne K (.ref cBadWay) (.ref cBadHeap) = some false)
    (ki_9_1 : PySem.W.kitOne K (.ref cBadWay) (.ref cBadNumber) = some false)
    (ki_9_2 : PySem.W.kitOne K (.ref cBadWay) (.ref cBadPlace) = some false)
    (ki_9_3 : PySem.W.kitOne K (.ref cBadWay) (.ref cBadRow) = some false)
    (ki_9_4 : PySem.W.kitOne K (.ref cBadWay) (.ref cBadRule) = some false)
    (ki_9_5 : PySem.W.kitOne K (.ref cBadWay) (.ref cBadSplit) = some false)
    (ki_9_6 : PySem.W.kitOne K (.ref cBadWay) (.ref cBadStyle) = some false)
    (ki_9_7 : PySem.W.kitOne K (.ref cBadWay) (.ref cBadSums) = some false)
    (ki_9_8 : PySem.W.kitOne K (.ref cBadWay) (.ref cBadText) = some false)
    (ki_9_9 : PySem.W.kitOne K (.ref cBadWay) (.ref cBadWay) = some true)
    (ki_9_10 : PySem.W.kitOne K (.ref cBadWay) (.ref cNoTable) = some false)
    (ki_9_11 : PySem.W.kitOne K (.ref cBadWay) (.ref cNoTerms) = some false)
    (ki_9_12 : PySem.W.kitOne K (.ref cBadWay) (.ref cNotSure) = some false)
    (ki_9_13 : PySem.W.kitOne K (.ref cBadWay) (.ref cTooGreat) = some false)
    (kc10_1 : PySem.W.isClsIn K cNoTable = true)
    (kc10_2 : PySem.W.findIn K (.ref cNoTable) "__getattribute__" = some (some (.builtin "BaseException.__getattribute__")))
    (kc10_3 : PySem.W.findIn K (.ref cNoTable) "__getattr__" = some none)
    (kc10_4 : PySem.W.subIn K (.ref cNoTable) (.type "BaseException") = some true)
    (kc10_5 : PySem.W.findIn K (.ref cNoTable) "__class__" = some (some (.builtin "object.__class__")))
    (kc10_6 : PySem.W.mroIn K cNoTable (.type "object") = some true)
    (ki_s_10 : PySem.W.kitOne K (.ref cNoTable) (.ref cSplitError) = some true)
    (ki_v_10 : PySem.W.kitOne K (.ref cNoTable) (.type "ValueError") = some true)
    (ki_10_0 : PySem.W.kitOne K (.ref cNoTable) (.ref cBadHeap) = some false)
    (ki_10_1 : PySem.W.kitOne K (.ref cNoTable) (.ref cBadNumber) = some false)
    (ki_10_2 : PySem.W.kitOne K (.ref cNoTable) (.ref cBadPlace) = some false)
    (ki_10_3 : PySem.W.kitOne K (.ref cNoTable) (.ref cBadRow) = some false)
    (ki_10_4 : PySem.W.kitOne K (.ref cNoTable) (.ref cBadRule) = some false)
    (ki_10_5 : PySem.W.kitOne K (.ref cNoTable) (.ref cBadSplit) = some false)
    (ki_10_6 : PySem.W.kitOne K (.ref cNoTable) (.ref cBadStyle) = some false)
    (ki_10_7 : PySem.W.kitOne K (.ref cNoTable) (.ref cBadSums) = some false)
    (ki_10_8 : PySem.W.kitOne K (.ref cNoTable) (.ref cBadText) = some false)
    (ki_10_9 : PySem.W.kitOne K (.ref cNoTable) (.ref cBadWay) = some false)
    (ki_10_10 : PySem.W.kitOne K (.ref cNoTable) (.ref cNoTable) = some true)
    (ki_10_11 : PySem.W.kitOne K (.ref cNoTable) (.ref cNoTerms) = some false)
    (ki_10_12 : PySem.W.kitOne K (.ref cNoTable) (.ref cNotSure) = some false)
    (ki_10_13 : PySem.W.kitOne K (.ref cNoTable) (.ref cTooGreat) = some false)
    (kc11_1 : PySem.W.isClsIn K cNoTerms = true)
    (kc11_2 : PySem.W.findIn K (.ref cNoTerms) "__getattribute__" = some (some (.builtin "BaseException.__getattribute__")))
    (kc11_3 : PySem.W.findIn K (.ref cNoTerms) "__getattr__" = some none)
    (kc11_4 : PySem.W.subIn K (.ref cNoTerms) (.type "BaseException") = some true)
    (kc11_5 : PySem.W.findIn K (.ref cNoTerms) "__class__" = some (some (.builtin "object.__class__")))
    (kc11_6 : PySem.W.mroIn K cNoTerms (.type "object") = some true)
    (ki_s_11 : PySem.W.kitOne K (.ref cNoTerms) (.ref cSplitError) = some true)
    (ki_v_11 : PySem.W.kitOne K (.ref cNoTerms) (.type "ValueError") = some true)
    (ki_11_0 : PySem.W.kitOne K (.ref cNoTerms) (.ref cBadHeap) = some false)
    (ki_11_1 : PySem.W.kitOne K (.ref cNoTerms) (.ref cBadNumber) = some false)
    (ki_11_2 : PySem.W.kitOne K (.ref cNoTerms) (.ref cBadPlace) = some false)
    (ki_11_3 : PySem.W.kitOne K (.ref cNoTerms) (.ref cBadRow) = some false)
    (ki_11_4 : PySem.W.kitOne K (.ref cNoTerms) (.ref cBadRule) = some false)
    (ki_11_5 : PySem.W.kitOne K (.ref cNoTerms) (.ref cBadSplit) = some false)
    (ki_11_6 : PySem.W.kitOne K (.ref cNoTerms) (.ref cBadStyle) = some false)
    (ki_11_7 : PySem.W.kitOne K (.ref cNoTerms) (.ref cBadSums) = some false)
    (ki_11_8 : PySem.W.kitOne K (.ref cNoTerms) (.ref cBadText) = some false)
    (ki_11_9 : PySem.W.kitOne K (.ref cNoTerms) (.ref cBadWay) = some false)
    (ki_11_10 : PySem.W.kitOne K (.ref cNoTerms) (.ref cNoTable) = some false)
    (ki_11_11 : PySem.W.kitOne K (.ref cNoTerms) (.ref cNoTerms) = some true)
    (ki_11_12 : PySem.W.kitOne K (.ref cNoTerms) (.ref cNotSure) = some false)
    (ki_11_13 : PySem.W.kitOne K (.ref cNoTerms) (.ref cTooGreat) = some false)
    (kc12_1 : PySem.W.isClsIn K cNotSure = true)
    (kc12_2 : PySem.W.findIn K (.ref cNotSure) "__getattribute__" = some (some (.builtin "BaseException.__getattribute__")))
    (kc12_3 : PySem.W.findIn K (.ref cNotSure) "__getattr__" = some none)
    (kc12_4 : PySem.W.subIn K (.ref cNotSure) (.type "BaseException") = some true)
    (kc12_5 : PySem.W.findIn K (.ref cNotSure) "__class__" = some (some (.builtin "object.__class__")))
    (kc12_6 : PySem.W.mroIn K cNotSure (.type "object") = some true)
    (ki_s_12 : PySem.W.kitOne K (.ref cNotSure) (.ref cSplitError) = some true)
    (ki_v_12 : PySem.W.kitOne K (.ref cNotSure) (.type "ValueError") = some true)
    (ki_12_0 : PySem.W.kitOne K (.ref cNotSure) (.ref cBadHeap) = some false)
    (ki_12_1 : PySem.W.kitOne K (.ref cNotSure) (.ref cBadNumber) = some false)
    (ki_12_2 : PySem.W.kitOne K (.ref cNotSure) (.ref cBadPlace) = some false)
    (ki_12_3 : PySem.W.kitOne K (.ref cNotSure) (.ref cBadRow) = some false)
    (ki_12_4 : PySem.W.kitOne K (.ref cNotSure) (.ref cBadRule) = some false)
    (ki_12_5 : PySem.W.kitOne K (.ref cNotSure) (.ref cBadSplit) = some false)
    (ki_12_6 : PySem.W.kitOne K (.ref cNotSure) (.ref cBadStyle) = some false)
    (ki_12_7 : PySem.W.kitOne K (.ref cNotSure) (.ref cBadSums) = some false)
    (ki_12_8 : PySem.W.kitOne K (.ref cNotSure) (.ref cBadText) = some false)
    (ki_12_9 : PySem.W.kitOne K (.ref cNotSure) (.ref cBadWay) = some false)
    (ki_12_10 : PySem.W.kitOne K (.ref cNotSure) (.ref cNoTable) = some false)
    (ki_12_11 : PySem.W.kitOne K (.ref cNotSure) (.ref cNoTerms) = some false)
    (ki_12_12 : PySem.W.kitOne K (.ref cNotSure) (.ref cNotSure) = some true)
    (ki_12_13 : PySem.W.kitOne K (.ref cNotSure) (.ref cTooGreat) = some false)
    (kc13_1 : PySem.W.isClsIn K cTooGreat = true)
    (kc13_2 : PySem.W.findIn K (.ref cTooGreat) "__getattribute__" = some (some (.builtin "BaseException.__getattribute__")))
    (kc13_3 : PySem.W.findIn K (.ref cTooGreat) "__getattr__" = some none)
    (kc13_4 : PySem.W.subIn K (.ref cTooGreat) (.type "BaseException") = some true)
    (kc13_5 : PySem.W.findIn K (.ref cTooGreat) "__class__" = some (some (.builtin "object.__class__")))
    (kc13_6 : PySem.W.mroIn K cTooGreat (.type "object") = some true)
    (ki_s_13 : PySem.W.kitOne K (.ref cTooGreat) (.ref cSplitError) = some true)
    (ki_v_13 : PySem.W.kitOne K (.ref cTooGreat) (.type "ValueError") = some true)
    (ki_13_0 : PySem.W.kitOne K (.ref cTooGreat) (.ref cBadHeap) = some false)
    (ki_13_1 : PySem.W.kitOne K (.ref cTooGreat) (.ref cBadNumber) = some false)
    (ki_13_2 : PySem.W.kitOne K (.ref cTooGreat) (.ref cBadPlace) = some false)
    (ki_13_3 : PySem.W.kitOne K (.ref cTooGreat) (.ref cBadRow) = some false)
    (ki_13_4 : PySem.W.kitOne K (.ref cTooGreat) (.ref cBadRule) = some false)
    (ki_13_5 : PySem.W.kitOne K (.ref cTooGreat) (.ref cBadSplit) = some false)
    (ki_13_6 : PySem.W.kitOne K (.ref cTooGreat) (.ref cBadStyle) = some false)
    (ki_13_7 : PySem.W.kitOne K (.ref cTooGreat) (.ref cBadSums) = some false)
    (ki_13_8 : PySem.W.kitOne K (.ref cTooGreat) (.ref cBadText) = some false)
    (ki_13_9 : PySem.W.kitOne K (.ref cTooGreat) (.ref cBadWay) = some false)
    (ki_13_10 : PySem.W.kitOne K (.ref cTooGreat) (.ref cNoTable) = some false)
    (ki_13_11 : PySem.W.kitOne K (.ref cTooGreat) (.ref cNoTerms) = some false)
    (ki_13_12 : PySem.W.kitOne K (.ref cTooGreat) (.ref cNotSure) = some false)
    (ki_13_13 : PySem.W.kitOne K (.ref cTooGreat) (.ref cTooGreat) = some true)
    : ∃ fd : FuncData, (∀ (s : Shared) (v : Value), BindsTo s fd ⟨[v], []⟩ [("_law_script", v)]) ∧ ∀ base : Heap, K.In base → base.Ns mainGlobals mg → FnOk l.prog w K mg base CX0 4 fa fd ["_law_script"] (spLaw K) := by
  obtain ⟨Γ, hΓ⟩ : ∃ Γ : Gm, Γ = { K := K, cRule := fa, cGame := fa, cSplitError := cSplitError, cBadRule := cBadRule, cBadHeap := cBadHeap, cBadSplit := cBadSplit, cNoTerms := cNoTerms, cNoTable := cNoTable, cNotSure := cNotSure, cBadWay := cBadWay, cBadStyle := cBadStyle, cBadSums := cBadSums, cBadNumber := cBadNumber, cTooGreat := cTooGreat, cBadRow := cBadRow, cBadPlace := cBadPlace, cBadText := cBadText, aSTYLES := fa } := ⟨_, rfl⟩
  have hK : K = Γ.K := by rw [hΓ]
  have h_cBadHeap : cBadHeap = Γ.cBadHeap := by rw [hΓ]
  have h_cBadNumber : cBadNumber = Γ.cBadNumber := by rw [hΓ]
  have h_cBadPlace : cBadPlace = Γ.cBadPlace := by rw [hΓ]
  have h_cBadRow : cBadRow = Γ.cBadRow := by rw [hΓ]
  have h_cBadRule : cBadRule = Γ.cBadRule := by rw [hΓ]
  have h_cBadSplit : cBadSplit = Γ.cBadSplit := by rw [hΓ]
  have h_cBadStyle : cBadStyle = Γ.cBadStyle := by rw [hΓ]
  have h_cBadSums : cBadSums = Γ.cBadSums := by rw [hΓ]
  have h_cBadText : cBadText = Γ.cBadText := by rw [hΓ]
  have h_cBadWay : cBadWay = Γ.cBadWay := by rw [hΓ]
  have h_cNoTable : cNoTable = Γ.cNoTable := by rw [hΓ]
  have h_cNoTerms : cNoTerms = Γ.cNoTerms := by rw [hΓ]
  have h_cNotSure : cNotSure = Γ.cNotSure := by rw [hΓ]
  have h_cSplitError : cSplitError = Γ.cSplitError := by rw [hΓ]
  have h_cTooGreat : cTooGreat = Γ.cTooGreat := by rw [hΓ]
  clear hΓ
  subst h_cBadHeap h_cBadNumber h_cBadPlace h_cBadRow h_cBadRule h_cBadSplit h_cBadStyle h_cBadSums h_cBadText h_cBadWay h_cNoTable h_cNoTerms h_cNotSure h_cSplitError h_cTooGreat hK
  have T : TX Γ mg := {
    b_ValueError := PySem.W.mg_none_of X G b_ValueError
    b_abs := PySem.W.mg_none_of X G b_abs
    b_int := PySem.W.mg_none_of X G b_int
    b_isinstance := PySem.W.mg_none_of X G b_isinstance
    b_len := PySem.W.mg_none_of X G b_len
    b_range := PySem.W.mg_none_of X G b_range
    x_BadHeap := ⟨⟨_, xx_BadHeap, _, _, PySem.F.excBase_ValueError⟩, PySem.W.mg_of X G a_BadHeap, xk_BadHeap, xb_BadHeap, xt_BadHeap⟩
    x_BadNumber := ⟨⟨_, xx_BadNumber, _, _, PySem.F.excBase_ValueError⟩, PySem.W.mg_of X G a_BadNumber, xk_BadNumber, xb_BadNumber, xt_BadNumber⟩
    x_BadPlace := ⟨⟨_, xx_BadPlace, _, _, PySem.F.excBase_ValueError⟩, PySem.W.mg_of X G a_BadPlace, xk_BadPlace, xb_BadPlace, xt_BadPlace⟩
    x_BadRow := ⟨⟨_, xx_BadRow, _, _, PySem.F.excBase_ValueError⟩, PySem.W.mg_of X G a_BadRow, xk_BadRow, xb_BadRow, xt_BadRow⟩
    x_BadRule := ⟨⟨_, xx_BadRule, _, _, PySem.F.excBase_ValueError⟩, PySem.W.mg_of X G a_BadRule, xk_BadRule, xb_BadRule, xt_BadRule⟩
    x_BadSplit := ⟨⟨_, xx_BadSplit, _, _, PySem.F.excBase_ValueError⟩, PySem.W.mg_of X G a_BadSplit, xk_BadSplit, xb_BadSplit, xt_BadSplit⟩
    x_BadStyle := ⟨⟨_, xx_BadStyle, _, _, PySem.F.excBase_ValueError⟩, PySem.W.mg_of X G a_BadStyle, xk_BadStyle, xb_BadStyle, xt_BadStyle⟩
    x_BadSums := ⟨⟨_, xx_BadSums, _, _, PySem.F.excBase_ValueError⟩, PySem.W.mg_of X G a_BadSums, xk_BadSums, xb_BadSums, xt_BadSums⟩
    x_BadWay := ⟨⟨_, xx_BadWay, _, _, PySem.F.excBase_ValueError⟩, PySem.W.mg_of X G a_BadWay, xk_BadWay, xb_BadWay, xt_BadWay⟩
    x_NoTable := ⟨⟨_, xx_NoTable, _, _, PySem.F.excBase_ValueError⟩, PySem.W.mg_of X G a_NoTable, xk_NoTable, xb_NoTable, xt_NoTable⟩
    x_NoTerms := ⟨⟨_, xx_NoTerms, _, _, PySem.F.excBase_ValueError⟩, PySem.W.mg_of X G a_NoTerms, xk_NoTerms, xb_NoTerms, xt_NoTerms⟩
    x_TooGreat := ⟨⟨_, xx_TooGreat, _, _, PySem.F.excBase_ValueError⟩, PySem.W.mg_of X G a_TooGreat, xk_TooGreat, xb_TooGreat, xt_TooGreat⟩
    m_BadHeap := PySem.W.mg_of X G a_BadHeap
    m_BadNumber := PySem.W.mg_of X G a_BadNumber
    m_BadPlace := PySem.W.mg_of X G a_BadPlace
    m_BadRow := PySem.W.mg_of X G a_BadRow
    m_BadRule := PySem.W.mg_of X G a_BadRule
    m_BadSplit := PySem.W.mg_of X G a_BadSplit
    m_BadStyle := PySem.W.mg_of X G a_BadStyle
    m_BadSums := PySem.W.mg_of X G a_BadSums
    m_BadText := PySem.W.mg_of X G a_BadText
    m_BadWay := PySem.W.mg_of X G a_BadWay
    m_NoTable := PySem.W.mg_of X G a_NoTable
    m_NoTerms := PySem.W.mg_of X G a_NoTerms
    m_NotSure := PySem.W.mg_of X G a_NotSure
    m_SplitError := PySem.W.mg_of X G a_SplitError
    m_TooGreat := PySem.W.mg_of X G a_TooGreat
    err_NotSure := ⟨oex_mk oc_NotSure or_NotSure os_NotSure ox_NotSure ot_NotSure okk_NotSure, ⟨oga_NotSure, ogg_NotSure, ox_NotSure, ohd_NotSure⟩, on_NotSure⟩
    err_BadText := ⟨oex_mk oc_BadText or_BadText os_BadText ox_BadText ot_BadText okk_BadText, ⟨oga_BadText, ogg_BadText, ox_BadText, ohd_BadText⟩, on_BadText⟩
    errs := ⟨(fm ⟨kc0_1, kc0_2, kc0_3, kc0_4, kc0_5, kn1, kn2, kc0_6⟩ (fm ⟨kc1_1, kc1_2, kc1_3, kc1_4, kc1_5, kn1, kn2, kc1_6⟩ (fm ⟨kc2_1, kc2_2, kc2_3, kc2_4, kc2_5, kn1, kn2, kc2_6⟩ (fm ⟨kc3_1, kc3_2, kc3_3, kc3_4, kc3_5, kn1, kn2, kc3_6⟩ (fm ⟨kc4_1, kc4_2, kc4_3, kc4_4, kc4_5, kn1, kn2, kc4_6⟩ (fm ⟨kc5_1, kc5_2, kc5_3, kc5_4, kc5_5, kn1, kn2, kc5_6⟩ (fm ⟨kc6_1, kc6_2, kc6_3, kc6_4, kc6_5, kn1, kn2, kc6_6⟩ (fm ⟨kc7_1, kc7_2, kc7_3, kc7_4, kc7_5, kn1, kn2, kc7_6⟩ (fm ⟨kc8_1, kc8_2, kc8_3, kc8_4, kc8_5, kn1, kn2, kc8_6⟩ (fm ⟨kc9_1, kc9_2, kc9_3, kc9_4, kc9_5, kn1, kn2, kc9_6⟩ (fm ⟨kc10_1, kc10_2, kc10_3, kc10_4, kc10_5, kn1, kn2, kc10_6⟩ (fm ⟨kc11_1, kc11_2, kc11_3, kc11_4, kc11_5, kn1, kn2, kc11_6⟩ (fm ⟨kc12_1, kc12_2, kc12_3, kc12_4, kc12_5, kn1, kn2, kc12_6⟩ (fm ⟨kc13_1, kc13_2, kc13_3, kc13_4, kc13_5, kn1, kn2, kc13_6⟩ fm0)))))))))))))), fun i j D C => rows_mk (fi (fi ki_0_0 (fi ki_0_1 (fi ki_0_2 (fi ki_0_3 (fi ki_0_4 (fi ki_0_5 (fi ki_0_6 (fi ki_0_7 (fi ki_0_8 (fi ki_0_9 (fi ki_0_10 (fi ki_0_11 (fi ki_0_12 (fi ki_0_13 fi0)))))))))))))) (fi (fi ki_1_0 (fi ki_1_1 (fi ki_1_2 (fi ki_1_3 (fi ki_1_4 (fi ki_1_5 (fi ki_1_6 (fi ki_1_7 (fi ki_1_8 (fi ki_1_9 (fi ki_1_10 (fi ki_1_11 (fi ki_1_12 (fi ki_1_13 fi0)))))))))))))) (fi (fi ki_2_0 (fi ki_2_1 (fi ki_2_2 (fi ki_2_3 (fi ki_2_4 (fi ki_2_5 (fi ki_2_6 (fi ki_2_7 (fi ki_2_8 (fi ki_2_9 (fi ki_2_10 (fi ki_2_11 (fi ki_2_12 (fi ki_2_13 fi0)))))))))))))) (fi (fi ki_3_0 (fi ki_3_1 (fi ki_3_2 (fi ki_3_3 (fi ki_3_4 (fi ki_3_5 (fi ki_3_6 (fi ki_3_7 (fi ki_3_8 (fi ki_3_9 (fi ki_3_10 (fi ki_3_11 (fi ki_3_12 (fi ki_3_13 fi0)))))))))))))) (fi (fi ki_4_0 (fi ki_4_1 (fi ki_4_2 (fi ki_4_3 (fi ki_4_4 (fi ki_4_5 (fi ki_4_6 (fi ki_4_7 (fi ki_4_8 (fi ki_4_9 (fi ki_4_10 (fi ki_4_11 (fi ki_4_12 (fi ki_4_13 fi0)))))))))))))) (fi (fi ki_5_0 (fi ki_5_1 (fi ki_5_2 (fi ki_5_3 (fi ki_5_4 (fi ki_5_5 (fi ki_5_6 (fi ki_5_7 (fi ki_5_8 (fi ki_5_9 (fi ki_5_10 (fi ki_5_11 (fi ki_5_12 (fi ki_5_13 fi0)))))))))))))) (fi (fi ki_6_0 (fi ki_6_1 (fi ki_6_2 (fi ki_6_3 (fi ki_6_4 (fi ki_6_5 (fi ki_6_6 (fi ki_6_7 (fi ki_6_8 (fi ki_6_9 (fi ki_6_10 (fi ki_6_11 (fi ki_6_12 (fi ki_6_13 fi0)))))))))))))) (fi (fi ki_7_0 (fi ki_7_1 (fi ki_7_2 (fi ki_7_3 (fi ki_7_4 (fi ki_7_5 (fi ki_7_6 (fi ki_7_7 (fi ki_7_8 (fi ki_7_9 (fi ki_7_10 (fi ki_7_11 (fi ki_7_12 (fi ki_7_13 fi0)))))))))))))) (fi (fi ki_8_0 (fi ki_8_1 (fi ki_8_2 (fi ki_8_3 (fi ki_8_4 (fi ki_8_5 (fi ki_8_6 (fi ki_8_7 (fi ki_8_8 (fi ki_8_9 (fi ki_8_10 (fi ki_8_11 (fi ki_8_12 (fi ki_8_13 fi0)))))))))))))) (fi (fi ki_9_0 (fi ki_9_1 (fi ki_9_2 (fi ki_9_3 (fi ki_9_4 (fi ki_9_5 (fi ki_9_6 (fi ki_9_7 (fi ki_9_8 (fi ki_9_9 (fi ki_9_10 (fi ki_9_11 (fi ki_9_12 (fi ki_9_13 fi0)))))))))))))) (fi (fi ki_10_0 (fi ki_10_1 (fi ki_10_2 (fi ki_10_3 (fi ki_10_4 (fi ki_10_5 (fi ki_10_6 (fi ki_10_7 (fi ki_10_8 (fi ki_10_9 (fi ki_10_10 (fi ki_10_11 (fi ki_10_12 (fi ki_10_13 fi0)))))))))))))) (fi (fi ki_11_0 (fi ki_11_1 (fi ki_11_2 (fi ki_11_3 (fi ki_11_4 (fi ki_11_5 (fi ki_11_6 (fi ki_11_7 (fi ki_11_8 (fi ki_11_9 (fi ki_11_10 (fi ki_11_11 (fi ki_11_12 (fi ki_11_13 fi0)))))))))))))) (fi (fi ki_12_0 (fi ki_12_1 (fi ki_12_2 (fi ki_12_3 (fi ki_12_4 (fi ki_12_5 (fi ki_12_6 (fi ki_12_7 (fi ki_12_8 (fi ki_12_9 (fi ki_12_10 (fi ki_12_11 (fi ki_12_12 (fi ki_12_13 fi0)))))))))))))) (fi (fi ki_13_0 (fi ki_13_1 (fi ki_13_2 (fi ki_13_3 (fi ki_13_4 (fi ki_13_5 (fi ki_13_6 (fi ki_13_7 (fi ki_13_8 (fi ki_13_9 (fi ki_13_10 (fi ki_13_11 (fi ki_13_12 (fi ki_13_13 fi0)))))))))))))) fi0)))))))))))))) i D j C, (fm ki_s_0 (fm ki_s_1 (fm ki_s_2 (fm ki_s_3 (fm ki_s_4 (fm ki_s_5 (fm ki_s_6 (fm ki_s_7 (fm ki_s_8 (fm ki_s_9 (fm ki_s_10 (fm ki_s_11 (fm ki_s_12 (fm ki_s_13 fm0)))))))))))))), (fm ki_v_0 (fm ki_v_1 (fm ki_v_2 (fm ki_v_3 (fm ki_v_4 (fm ki_v_5 (fm ki_v_6 (fm ki_v_7 (fm ki_v_8 (fm ki_v_9 (fm ki_v_10 (fm ki_v_11 (fm ki_v_12 (fm ki_v_13 fm0))))))))))))))⟩
  }
  obtain ⟨fl, fdl, ml, Fl⟩ := D_law
  cases hfa.symm.trans ml
  obtain ⟨f__law_random, fd__law_random, m__law_random, F__law_random⟩ := D__law_random
  obtain ⟨f__law_below, fd__law_below, m__law_below, F__law_below⟩ := D__law_below
  obtain ⟨f__law_pick, fd__law_pick, m__law_pick, F__law_pick⟩ := D__law_pick
  obtain ⟨f__law_one, fd__law_one, m__law_one, F__law_one⟩ := D__law_one
  obtain ⟨f__law_classes, fd__law_classes, m__law_classes, F__law_classes⟩ := D__law_classes
  obtain ⟨fd_NotSureU_initU, F_NotSureU_initU⟩ := F_NotSureU_initU
  obtain ⟨fd_BadTextU_initU, F_BadTextU_initU⟩ := F_BadTextU_initU
  refine ⟨fdl, fun s v => ?_, fun base kin kns => ?_⟩
  · obtain ⟨_, _, _, _, _, _, _, _, _, rfl, _, _⟩ := Fl.ex
    exact .of_eq rfl
  have c_NotSureU_initU : CalE l.prog w Γ.K mg base Γ.cNotSure "NotSure" 1 ["self", "heap"] (sp_NotSureU_initU Γ) := ⟨T.m_NotSure, T.err_NotSure.T, f_NotSureU_initU, fd_NotSureU_initU, ok_NotSureU_initU F_NotSureU_initU T , f_NotSureU_initU_at, i_NotSureU_initU, b_NotSureU_initU F_NotSureU_initU⟩
  have c_BadTextU_initU : CalE l.prog w Γ.K mg base Γ.cBadText "BadText" 1 ["self", "word"] (sp_BadTextU_initU Γ) := ⟨T.m_BadText, T.err_BadText.T, f_BadTextU_initU, fd_BadTextU_initU, ok_BadTextU_initU F_BadTextU_initU T , f_BadTextU_initU_at, i_BadTextU_initU, b_BadTextU_initU F_BadTextU_initU⟩
  have c__law_random : Cal l.prog w Γ.K mg base CX0 "_law_random" 1 ["_law_script", "_law_salt"] (sp__law_random Γ) := ⟨f__law_random, fd__law_random, ok__law_random F__law_random T , m__law_random, F__law_random.kp, b__law_random F__law_random⟩
  have c__law_below : Cal l.prog w Γ.K mg base CX0 "_law_below" 1 ["_law_d", "_law_size"] (sp__law_below Γ) := ⟨f__law_below, fd__law_below, ok__law_below F__law_below T , m__law_below, F__law_below.kp, b__law_below F__law_below⟩
  have c__law_pick : Cal l.prog w Γ.K mg base CX0 "_law_pick" 2 ["_law_d", "_law_items"] (sp__law_pick Γ) := ⟨f__law_pick, fd__law_pick, ok__law_pick F__law_pick T c__law_below, m__law_pick, F__law_pick.kp, b__law_pick F__law_pick⟩
  have c__law_one : Cal l.prog w Γ.K mg base CX0 "_law_one" 3 ["_law_d"] (sp__law_one Γ) := ⟨f__law_one, fd__law_one, ok__law_one F__law_one T c_BadTextU_initU c_NotSureU_initU c__law_below c__law_pick, m__law_one, F__law_one.kp, b__law_one F__law_one⟩
  have c__law_classes : Cal l.prog w Γ.K mg base CX0 "_law_classes" 1 ["_law_error"] (sp__law_classes Γ) := ⟨f__law_classes, fd__law_classes, ok__law_classes F__law_classes T , m__law_classes, F__law_classes.kp, b__law_classes F__law_classes⟩
  exact ok_law Fl T c__law_classes c__law_one c__law_random
theorem walk {l : PySem.W.OpenLaw} {q : Program} {loose : List Str} {XP : (Str → Option Value) → Heap → Prop} {YP : World → Heap → Prop} {d : DefRec} {K : Params → PySem.W.Frag} (hn : l.most = some 63) (hdf : d.params.defaults = [])
    (hY : ∀ (w : World) (h : Heap), YP w h → (K w.params).In h)
    (F : ∀ (w : World) (mg : Str → Option Value) (fa : Addr) (h : Heap), (K w.params).In h → h.Ns mainGlobals mg → mg d.name = some (.ref fa) →
      ∃ fd : FuncData, (∀ (s : Shared) (u : Value), BindsTo s fd ⟨[u], []⟩ [("_law_script", u)]) ∧ ∀ base : Heap, (K w.params).In base → base.Ns mainGlobals mg → FnOk l.prog w (K w.params) mg base CX0 4 fa fd ["_law_script"] (spLaw (K w.params))) :
    PySem.W.WalkO q loose XP YP l.row.toRowW d [] (fun f vs => PySem.call f vs) :=
  L2.walk_of (n := 63) (k := 4) (x := "_law_script") (CX := fun _ => CX0) (sp := fun w => spLaw (K w.params)) hn (by decide) hdf ⟨rfl, by decide, by decide⟩ hY F (fun _ _ a ns hl _ hS => ⟨a, ns, rfl, hS, hl, fun _ => rfl⟩) fun _ _ _ _ _ z => z

end Spt
open PySem PySem.W PyProof.Rows
set_option maxRecDepth 100000 in
set_option maxHeartbeats 0 in
theorem PySem.Challenge.cw_splitpoints_k24_errors_apart_holds : PySem.Challenge.rw_splitpoints_k24_errors_apart.Holds := by
  w_on; o_law; k_head; (case hw => w_witness2)
  k_fill
  refine Spt.walk (l := PySem.Challenge.rw_splitpoints_k24_errors_apart) rfl rfl (fun w h Y => PySem.W.kIn_of Y) ?F
  case F =>
    intro w mg fa h KX G hmg
    refine' Spt.all KX G hmg ?D__law_random ?D__law_below ?D__law_pick ?D__law_one ?D__law_classes ?D_law ?b_ValueError ?b_abs ?b_int ?b_isinstance ?b_len ?b_range ?a_BadHeap ?a_BadNumber ?a_BadPlace ?a_BadRow ?a_BadRule ?a_BadSplit ?a_BadStyle ?a_BadSums ?a_BadText ?a_BadWay ?a_NoTable ?a_NoTerms ?a_NotSure ?a_SplitError ?a_TooGreat ?f_NotSureU_initU_at ?i_NotSureU_initU ?F_NotSureU_initU ?f_BadTextU_initU_at ?i_BadTextU_initU ?F_BadTextU_initU ?xx_BadHeap ?xk_BadHeap ?xb_BadHeap ?xt_BadHeap ?xx_BadNumber ?xk_BadNumber ?xb_BadNumber ?xt_BadNumber ?xx_BadPlace ?xk_BadPlace ?xb_BadPlace ?xt_BadPlace ?xx_BadRow ?xk_BadRow ?xb_BadRow ?xt_BadRow ?xx_BadRule ?xk_BadRule ?xb_BadRule ?xt_BadRule ?xx_BadSplit ?xk_BadSplit ?xb_BadSplit ?xt_BadSplit ?xx_BadStyle ?xk_BadStyle ?xb_BadStyle ?xt_BadStyle ?xx_BadSums ?xk_BadSums ?xb_BadSums ?xt_BadSums ?xx_BadWay ?xk_BadWay ?xb_BadWay ?xt_BadWay ?xx_NoTable ?xk_NoTable ?xb_NoTable ?xt_NoTable ?xx_NoTerms ?xk_NoTerms ?xb_NoTerms ?xt_NoTerms ?xx_TooGreat ?xk_TooGreat ?xb_TooGreat ?xt_TooGreat ?oc_NotSure ?or_NotSure ?os_NotSure ?ox_NotSure ?ot_NotSure ?okk_NotSure ?oga_NotSure ?ogg_NotSure ?ohd_NotSure ?on_NotSure ?oc_BadText ?or_BadText ?os_BadText ?ox_BadText ?ot_BadText ?okk_BadText ?oga_BadText ?ogg_BadText ?ohd_BadText ?on_BadText ?kn1 ?kn2 ?kc0_1 ?kc0_2 ?kc0_3 ?kc0_4 ?kc0_5 ?kc0_6 ?ki_s_0 ?ki_v_0 ?ki_0_0 ?ki_0_1 ?ki_0_2 ?ki_0_3 ?ki_0_4 ?ki_0_5 ?ki_0_6 ?ki_0_7 ?ki_0_8 ?ki_0_9 ?ki_0_10 ?ki_0_11 ?ki_0_12 ?ki_0_13 ?kc1_1 ?kc1_2 ?kc1_3 ?kc1_4 ?kc1_5 ?kc1_6 ?ki_s_1 ?ki_v_1 ?ki_1_0 ?ki_1_1 ?ki_1_2 ?ki_1_3 ?ki_1_4 ?ki_1_5 ?ki_1_6 ?ki_1_7 ?ki_1_8 ?ki_1_9 ?ki_1_10 ?ki_1_11 ?ki_1_12 ?ki_1_13 ?kc2_1 ?kc2_2 ?kc2_3 ?kc2_4 ?kc2_5 ?kc2_6 ?ki_s_2 ?ki_v_2 ?ki_2_0 ?ki_2_1 ?ki_2_2 ?ki_2_3 ?ki_2_4 ?ki_2_5 ?ki_2_6 ?ki_2_7 ?ki_2_8 ?ki_2_9 ?ki_2_10 ?ki_2_11 ?ki_2_12 ?ki_2_13 ?kc3_1 ?kc3_2 ?kc3_3 ?kc3_4 ?kc3_5 ?kc3_6 ?ki_s_3 ?ki_v_3 ?ki_3_0 ?ki_3_1 ?ki_3_2 ?ki_3_3 ?ki_3_4 ?ki_3_5 ?ki_3_6 ?ki_3_7 ?ki_3_8 ?ki_3_9 ?ki_3_10 ?ki_3_11 ?ki_3_12 ?ki_3_13 ?kc4_1 ?kc4_2 ?kc4_3 ?kc4_4 ?kc4_5 ?kc4_6 ?ki_s_4 ?ki_v_4 ?ki_4_0 ?ki_4_1 ?ki_4_2 ?ki_4_3 ?ki_4_4 ?ki_4_5 ?ki_4_6 ?ki_4_7 ?ki_4_8 ?ki_4_9 ?ki_4_10 ?ki_4_11 ?ki_4_12 ?ki_4_13 ?kc5_1 ?kc5_2 ?kc5_3 ?kc5_4 ?kc5_5 ?kc5_6 ?ki_s_5 ?ki_v_5 ?ki_5_0 ?ki_5_1 ?ki_5_2 ?ki_5_3 ?ki_5_4 ?ki_5_5 ?ki_5_6 ?ki_5_7 ?ki_5_8 ?ki_5_9 ?ki_5_10 ?ki_5_11 ?ki_5_12 ?ki_5_13 ?kc6_1 ?kc6_2 ?kc6_3 ?kc6_4 ?kc6_5 ?kc6_6 ?ki_s_6 ?ki_v_6 ?ki_6_0 ?ki_6_1 ?ki_6_2 ?ki_6_3 ?ki_6_4 ?ki_6_5 ?ki_6_6 ?ki_6_7 ?ki_6_8 ?ki_6_9 ?ki_6_10 ?ki_6_11 ?ki_6_12 ?ki_6_13 ?kc7_1 ?kc7_2 ?kc7_3 ?kc7_4 ?kc7_5 ?kc7_6 ?ki_s_7 ?ki_v_7 ?ki_7_0 ?ki_7_1 ?ki_7_2 ?ki_7_3 ?ki_7_4 ?ki_7_5 ?ki_7_6 ?ki_7_7 ?ki_7_8 ?ki_7_9 ?ki_7_10 ?ki_7_11 ?ki_7_12 ?ki_7_13 ?kc8_1 ?kc8_2 ?kc8_3 ?kc8_4 ?kc8_5 ?kc8_6 ?ki_s_8 ?ki_v_8 ?ki_8_0 ?ki_8_1 ?ki_8_2 ?ki_8_3 ?ki_8_4 ?ki_8_5 ?ki_8_6 ?ki_8_7 ?ki_8_8 ?ki_8_9 ?ki_8_10 ?ki_8_11 ?ki_8_12 ?ki_8_13 ?kc9_1 ?kc9_2 ?kc9_3 ?kc9_4 ?kc9_5 ?kc9_6 ?ki_s_9 ?ki_v_9 ?ki_9_0 ?ki_9_1 ?ki_9_2 ?ki_9_3 ?ki_9_4 ?ki_9_5 ?ki_9_6 ?ki_9_7 ?ki_9_8 ?ki_9_9 ?ki_9_10 ?ki_9_11 ?ki_9_12 ?ki_9_13 ?kc10_1 ?kc10_2 ?kc10_3 ?kc10_4 ?kc10_5 ?kc10_6 ?ki_s_10 ?ki_v_10 ?ki_10_0 ?ki_10_1 ?ki_10_2 ?ki_10_3 ?ki_10_4 ?ki_10_5 ?ki_10_6 ?ki_10_7 ?ki_10_8 ?ki_10_9 ?ki_10_10 ?ki_10_11 ?ki_10_12 ?ki_10_13 ?kc11_1 ?kc11_2 ?kc11_3 ?kc11_4 ?kc11_5 ?kc11_6 ?ki_s_11 ?ki_v_11 ?ki_11_0 ?ki_11_1 ?ki_11_2 ?ki_11_3 ?ki_11_4 ?ki_11_5 ?ki_11_6 ?ki_11_7 ?ki_11_8 ?ki_11_9 ?ki_11_10 ?ki_11_11 ?ki_11_12 ?ki_11_13 ?kc12_1 ?kc12_2 ?kc12_3 ?kc12_4 ?kc12_5 ?kc12_6 ?ki_s_12 ?ki_v_12 ?ki_12_0 ?ki_12_1 ?ki_12_2 ?ki_12_3 ?ki_12_4 ?ki_12_5 ?ki_12_6 ?ki_12_7 ?ki_12_8 ?ki_12_9 ?ki_12_10 ?ki_12_11 ?ki_12_12 ?ki_12_13 ?kc13_1 ?kc13_2 ?kc13_3 ?kc13_4 ?kc13_5 ?kc13_6 ?ki_s_13 ?ki_v_13 ?ki_13_0 ?ki_13_1 ?ki_13_2 ?ki_13_3 ?ki_13_4 ?ki_13_5 ?ki_13_6 ?ki_13_7 ?ki_13_8 ?ki_13_9 ?ki_13_10 ?ki_13_11 ?ki_13_12 ?ki_13_13
    (case a_BadHeap => k_is)
    (case a_BadNumber => k_is)
    (case a_BadPlace => k_is)
    (case a_BadRow => k_is)
    (case a_BadRule => k_is)
    (case a_BadSplit => k_is)
    (case a_BadStyle => k_is)
    (case a_BadSums => k_is)
    (case a_BadText => k_is)
    (case a_BadWay => k_is)
    (case a_NoTable => k_is)
    (case a_NoTerms => k_is)
    (case a_NotSure => k_is)
    (case a_SplitError => k_is)
    (case a_TooGreat => k_is)
    (case f_NotSureU_initU_at => k_is)
    (case f_BadTextU_initU_at => k_is)
    (case D__law_random => (refine' Spt.def_mk KX G ?a ?l ?c ?k; (case a => k_is); (case l => k_is); (case c => k_is); (case k => k_is)))
    (case D__law_below => (refine' Spt.def_mk KX G ?a ?l ?c ?k; (case a => k_is); (case l => k_is); (case c => k_is); (case k => k_is)))
    (case D__law_pick => (refine' Spt.def_mk KX G ?a ?l ?c ?k; (case a => k_is); (case l => k_is); (case c => k_is); (case k => k_is)))
    (case D__law_one => (refine' Spt.def_mk KX G ?a ?l ?c ?k; (case a => k_is); (case l => k_is); (case c => k_is); (case k => k_is)))
    (case D__law_classes => (refine' Spt.def_mk KX G ?a ?l ?c ?k; (case a => k_is); (case l => k_is); (case c => k_is); (case k => k_is)))
    (case D_law => (refine' Spt.def_mk KX G ?a ?l ?c ?k; (case a => k_is); (case l => k_is); (case c => k_is); (case k => k_is)))
    (case b_ValueError => k_is)
    (case b_abs => k_is)
    (case b_int => k_is)
    (case b_isinstance => k_is)
    (case b_len => k_is)
    (case b_range => k_is)
    (case i_NotSureU_initU => k_is)
    (case F_NotSureU_initU => (refine' Spt.funat_mk ?l ?c ?k; (case l => k_is); (case c => k_is); (case k => k_is)))
    (case i_BadTextU_initU => k_is)
    (case F_BadTextU_initU => (refine' Spt.funat_mk ?l ?c ?k; (case l => k_is); (case c => k_is); (case k => k_is)))
    (case xx_BadHeap => k_exc)
    (case xk_BadHeap => k_is)
    (case xb_BadHeap => k_is)
    (case xt_BadHeap => k_is)
    (case xx_BadNumber => k_exc)
    (case xk_BadNumber => k_is)
    (case xb_BadNumber => k_is)
    (case xt_BadNumber => k_is)
    (case xx_BadPlace => k_exc)
    (case xk_BadPlace => k_is)
    (case xb_BadPlace => k_is)
    (case xt_BadPlace => k_is)
    (case xx_BadRow => k_exc)
    (case xk_BadRow => k_is)
    (case xb_BadRow => k_is)
    (case xt_BadRow => k_is)
    (case xx_BadRule => k_exc)
    (case xk_BadRule => k_is)
    (case xb_BadRule => k_is)
    (case xt_BadRule => k_is)
    (case xx_BadSplit => k_exc)
    (case xk_BadSplit => k_is)
    (case xb_BadSplit => k_is)
    (case xt_BadSplit => k_is)
    (case xx_BadStyle => k_exc)
    (case xk_BadStyle => k_is)
    (case xb_BadStyle => k_is)
    (case xt_BadStyle => k_is)
    (case xx_BadSums => k_exc)
    (case xk_BadSums => k_is)
    (case xb_BadSums => k_is)
    (case xt_BadSums => k_is)
    (case xx_BadWay => k_exc)
    (case xk_BadWay => k_is)
    (case xb_BadWay => k_is)
    (case xt_BadWay => k_is)
    (case xx_NoTable => k_exc)
    (case xk_NoTable => k_is)
    (case xb_NoTable => k_is)
    (case xt_NoTable => k_is)
    (case xx_NoTerms => k_exc)
    (case xk_NoTerms => k_is)
    (case xb_NoTerms => k_is)
    (case xt_NoTerms => k_is)
    (case xx_TooGreat => k_exc)
    (case xk_TooGreat => k_is)
    (case xb_TooGreat => k_is)
    (case xt_TooGreat => k_is)
    (case oc_NotSure => k_is)
    (case or_NotSure => rfl)
    (case os_NotSure => k_is)
    (case ox_NotSure => k_is)
    (case ot_NotSure => k_is)
    (case okk_NotSure => k_is)
    (case oga_NotSure => k_is)
    (case ogg_NotSure => k_is)
    (case ohd_NotSure => k_is)
    (case on_NotSure => k_is)
    (case oc_BadText => k_is)
    (case or_BadText => rfl)
    (case os_BadText => k_is)
    (case ox_BadText => k_is)
    (case ot_BadText => k_is)
    (case okk_BadText => k_is)
    (case oga_BadText => k_is)
    (case ogg_BadText => k_is)
    (case ohd_BadText => k_is)
    (case on_BadText => k_is)
    (case kn1 => k_is)
    (case kn2 => k_is)
    (case kc0_1 => k_is)
    (case kc0_2 => k_is)
    (case kc0_3 => k_is)
    (case kc0_4 => k_is)
    (case kc0_5 => k_is)
    (case kc0_6 => k_is)
    (case ki_s_0 => kit_is)
    (case ki_v_0 => kit_is)
    (case ki_0_0 => kit_is)
    (case ki_0_1 => kit_is)
    (case ki_0_2 => kit_is)
    (case ki_0_3 => kit_is)
    (case ki_0_4 => kit_is)
    (case ki_0_5 => kit_is)
    (case ki_0_6 => kit_is)
    (case ki_0_7 => kit_is)
    (case ki_0_8 => kit_is)
    (case ki_0_9 => kit_is)
    (case ki_0_10 => kit_is)
    (case ki_0_11 => kit_is)
    (case ki_0_12 => kit_is)
    (case ki_0_13 => kit_is)
    (case kc1_1 => k_is)
    (case kc1_2 => k_is)
    (case kc1_3 => k_is)
    (case kc1_4 => k_is)
    (case kc1_5 => k_is)
    (case kc1_6 => k_is)
    (case ki_s_1 => kit_is)
    (case ki_v_1 => kit_is)
    (case ki_1_0 => kit_is)
    (case ki_1_1 => kit_is)
    (case ki_1_2 => kit_is)
    (case ki_1_3 => kit_is)
    (case ki_1_4 => kit_is)
    (case ki_1_5 => kit_is)
    (case ki_1_6 => kit_is)
    (case ki_1_7 => kit_is)
    (case ki_1_8 => kit_is)
    (case ki_1_9 => kit_is)
    (case ki_1_10 => kit_is)
    (case ki_1_11 => kit_is)
    (case ki_1_12 => kit_is)
    (case ki_1_13 => kit_is)
    (case kc2_1 => k_is)
    (case kc2_2 => k_is)
    (case kc2_3 => k_is)
    (case kc2_4 => k_is)
    (case kc2_5 => k_is)
    (case kc2_6 => k_is)
    (case ki_s_2 => kit_is)
    (case ki_v_2 => kit_is)
    (case ki_2_0 => kit_is)
    (case ki_2_1 => kit_is)
    (case ki_2_2 => kit_is)
    (case ki_2_3 => kit_is)
    (case ki_2_4 => kit_is)
    (case ki_2_5 => kit_is)
    (case ki_2_6 => kit_is)
    (case ki_2_7 => kit_is)
    (case ki_2_8 => kit_is)
    (case ki_2_9 => kit_is)
    (case ki_2_10 => kit_is)
    (case ki_2_11 => kit_is)
    (case ki_2_12 => kit_is)
    (case ki_2_13 => kit_is)
    (case kc3_1 => k_is)
    (case kc3_2 => k_is)
    (case kc3_3 => k_is)
    (case kc3_4 => k_is)
    (case kc3_5 => k_is)
    (case kc3_6 => k_is)
    (case ki_s_3 => kit_is)
    (case ki_v_3 => kit_is)
    (case ki_3_0 => kit_is)
    (case ki_3_1 => kit_is)
    (case ki_3_2 => kit_is)
    (case ki_3_3 => kit_is)
    (case ki_3_4 => kit_is)
    (case ki_3_5 => kit_is)
    (case ki_3_6 => kit_is)
    (case ki_3_7 => kit_is)
    (case ki_3_8 => kit_is)
    (case ki_3_9 => kit_is)
    (case ki_3_10 => kit_is)
    (case ki_3_11 => kit_is)
    (case ki_3_12 => kit_is)
    (case ki_3_13 => kit_is)
    (case kc4_1 => k_is)
    (case kc4_2 => k_is)
    (case kc4_3 => k_is)
    (case kc4_4 => k_is)
    (case kc4_5 => k_is)
    (case kc4_6 => k_is)
    (case ki_s_4 => kit_is)
    (case ki_v_4 => kit_is)
    (case ki_4_0 => kit_is)
    (case ki_4_1 => kit_is)
    (case ki_4_2 => kit_is)
    (case ki_4_3 => kit_is)
    (case ki_4_4 => kit_is)
    (case ki_4_5 => kit_is)
    (case ki_4_6 => kit_is)
    (case ki_4_7 => kit_is)
    (case ki_4_8 => kit_is)
    (case ki_4_9 => kit_is)
    (case ki_4_10 => kit_is)
    (case ki_4_11 => kit_is)
    (case ki_4_12 => kit_is)
    (case ki_4_13 => kit_is)
    (case kc5_1 => k_is)
    (case kc5_2 => k_is)
    (case kc5_3 => k_is)
    (case kc5_4 => k_is)
    (case kc5_5 => k_is)
    (case kc5_6 => k_is)
    (case ki_s_5 => kit_is)
    (case ki_v_5 => kit_is)
    (case ki_5_0 => kit_is)
    (case ki_5_1 => kit_is)
    (case ki_5_2 => kit_is)
    (case ki_5_3 => kit_is)
    (case ki_5_4 => kit_is)
    (case ki_5_5 => kit_is)
    (case ki_5_6 => kit_is)
    (case ki_5_7 => kit_is)
    (case ki_5_8 => kit_is)
    (case ki_5_9 => kit_is)
    (case ki_5_10 => kit_is)
    (case ki_5_11 => kit_is)
    (case ki_5_12 => kit_is)
    (case ki_5_13 => kit_is)
    (case kc6_1 => k_is)
    (case kc6_2 => k_is)
    (case kc6_3 => k_is)
    (case kc6_4 => k_is)
    (case kc6_5 => k_is)
    (case kc6_6 => k_is)
    (case ki_s_6 => kit_is)
    (case ki_v_6 => kit_is)
    (case ki_6_0 => kit_is)
    (case ki_6_1 => kit_is)
    (case ki_6_2 => kit_is)
    (case ki_6_3 => kit_is)
    (case ki_6_4 => kit_is)
    (case ki_6_5 => kit_is)
    (case ki_6_6 => kit_is)
    (case ki_6_7 => kit_is)
    (case ki_6_8 => kit_is)
    (case ki_6_9 => kit_is)
    (case ki_6_10 => kit_is)
    (case ki_6_11 => kit_is)
    (case ki_6_12 => kit_is)
    (case ki_6_13 => kit_is)
    (case kc7_1 => k_is)
    (case kc7_2 => k_is)
    (case kc7_3 => k_is)
    (case kc7_4 => k_is)
    (case kc7_5 => k_is)
    (case kc7_6 => k_is)
    (case ki_s_7 => kit_is)
    (case ki_v_7 => kit_is)
    (case ki_7_0 => kit_is)
    (case ki_7_1 => kit_is)
    (case ki_7_2 => kit_is)
    (case ki_7_3 => kit_is)
    (case ki_7_4 => kit_is)
    (case ki_7_5 => kit_is)
    (case ki_7_6 => kit_is)
    (case ki_7_7 => kit_is)
    (case ki_7_8 => kit_is)
    (case ki_7_9 => kit_is)
    (case ki_7_10 => kit_is)
    (case ki_7_11 => kit_is)
    (case ki_7_12 => kit_is)
    (case ki_7_13 => kit_is)
    (case kc8_1 => k_is)
    (case kc8_2 => k_is)
    (case kc8_3 => k_is)
    (case kc8_4 => k_is)
    (case kc8_5 => k_is)
    (case kc8_6 => k_is)
    (case ki_s_8 => kit_is)
    (case ki_v_8 => kit_is)
    (case ki_8_0 => kit_is)
    (case ki_8_1 => kit_is)
    (case ki_8_2 => kit_is)
    (case ki_8_3 => kit_is)
    (case ki_8_4 => kit_is)
    (case ki_8_5 => kit_is)
    (case ki_8_6 => kit_is)
    (case ki_8_7 => kit_is)
    (case ki_8_8 => kit_is)
    (case ki_8_9 => kit_is)
    (case ki_8_10 => kit_is)
    (case ki_8_11 => kit_is)
    (case ki_8_12 => kit_is)
    (case ki_8_13 => kit_is)
    (case kc9_1 => k_is)
    (case kc9_2 => k_is)
    (case kc9_3 => k_is)
    (case kc9_4 => k_is)
    (case kc9_5 => k_is)
    (case kc9_6 => k_is)
    (case ki_s_9 => kit_is)
    (case ki_v_9 => kit_is)
    (case ki_9_0 => kit_is)
    (case ki_9_1 => kit_is)
    (case ki_9_2 => kit_is)
    (case ki_9_3 => kit_is)
    (case ki_9_4 => kit_is)
    (case ki_9_5 => kit_is)
    (case ki_9_6 => kit_is)
    (case ki_9_7 => kit_is)
    (case ki_9_8 => kit_is)
    (case ki_9_9 => kit_is)
    (case ki_9_10 => kit_is)
    (case ki_9_11 => kit_is)
    (case ki_9_12 => kit_is)
    (case ki_9_13 => kit_is)
    (case kc10_1 => k_is)
    (case kc10_2 => k_is)
    (case kc10_3 => k_is)
    (case kc10_4 => k_is)
    (case kc10_5 => k_is)
    (case kc10_6 => k_is)
    (case ki_s_10 => kit_is)
    (case ki_v_10 => kit_is)
    (case ki_10_0 => kit_is)
    (case ki_10_1 => kit_is)
    (case ki_10_2 => kit_is)
    (case ki_10_3 => kit_is)
    (case ki_10_4 => kit_is)
    (case ki_10_5 => kit_is)
    (case ki_10_6 => kit_is)
    (case ki_10_7 => kit_is)
    (case ki_10_8 => kit_is)
    (case ki_10_9 => kit_is)
    (case ki_10_10 => kit_is)
    (case ki_10_11 => kit_is)
    (case ki_10_12 => kit_is)
    (case ki_10_13 => kit_is)
    (case kc11_1 => k_is)
    (case kc11_2 => k_is)
    (case kc11_3 => k_is)
    (case kc11_4 => k_is)
    (case kc11_5 => k_is)
    (case kc11_6 => k_is)
    (case ki_s_11 => kit_is)
    (case ki_v_11 => kit_is)
    (case ki_11_0 => kit_is)
    (case ki_11_1 => kit_is)
    (case ki_11_2 => kit_is)
    (case ki_11_3 => kit_is)
    (case ki_11_4 => kit_is)
    (case ki_11_5 => kit_is)
    (case ki_11_6 => kit_is)
    (case ki_11_7 => kit_is)
    (case ki_11_8 => kit_is)
    (case ki_11_9 => kit_is)
    (case ki_11_10 => kit_is)
    (case ki_11_11 => kit_is)
    (case ki_11_12 => kit_is)
    (case ki_11_13 => kit_is)
    (case kc12_1 => k_is)
    (case kc12_2 => k_is)
    (case kc12_3 => k_is)
    (case kc12_4 => k_is)
    (case kc12_5 => k_is)
    (case kc12_6 => k_is)
    (case ki_s_12 => kit_is)
    (case ki_v_12 => kit_is)
    (case ki_12_0 => kit_is)
    (case ki_12_1 => kit_is)
    (case ki_12_2 => kit_is)
    (case ki_12_3 => kit_is)
    (case ki_12_4 => kit_is)
    (case ki_12_5 => kit_is)
    (case ki_12_6 => kit_is)
    (case ki_12_7 => kit_is)
    (case ki_12_8 => kit_is)
    (case ki_12_9 => kit_is)
    (case ki_12_10 => kit_is)
    (case ki_12_11 => kit_is)
    (case ki_12_12 => kit_is)
    (case ki_12_13 => kit_is)
    (case kc13_1 => k_is)
    (case kc13_2 => k_is)
    (case kc13_3 => k_is)
    (case kc13_4 => k_is)
    (case kc13_5 => k_is)
    (case kc13_6 => k_is)
    (case ki_s_13 => kit_is)
    (case ki_v_13 => kit_is)
    (case ki_13_0 => kit_is)
    (case ki_13_1 => kit_is)
    (case ki_13_2 => kit_is)
    (case ki_13_3 => kit_is)
    (case ki_13_4 => kit_is)
    (case ki_13_5 => kit_is)
    (case ki_13_6 => kit_is)
    (case ki_13_7 => kit_is)
    (case ki_13_8 => kit_is)
    (case ki_13_9 => kit_is)
    (case ki_13_10 => kit_is)
    (case ki_13_11 => kit_is)
    (case ki_13_12 => kit_is)
    (case ki_13_13 => kit_is)
