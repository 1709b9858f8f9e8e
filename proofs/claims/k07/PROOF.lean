import PyProof.Rows.All
import Wide.All
import OpenK.AllK
import Wide.FinOn
import HandS.ForMost
import HandS.Exc
import HandS.TryOnly
import HandS.TryMany
import HandS.ExcOwn
import HandS.WordsExc
import HandS.Wide
import HandS.IsInst
import HandS.Property
import HandS.Small
import HandS.Star
import HandS.Style
import HandS.TupAny
import HandS.TupMul
import KE.GoesEnum
import HandS.Walk
import PySem.Challenge.RW_splitpoints_k07_great_sure_sums
set_option pp.maxSteps 300
set_option Elab.async false
set_option linter.all false
set_option maxRecDepth 100000
set_option maxHeartbeats 8000000
namespace Spt
open PySem PySem.Spec L2
open PyProof.Rows hiding St

/-! ### universal operators -/
section
variable {X : Cx}
def rAddS : R2 := fun x y H Q => ∃ i j, x = .str i ∧ y = .str j ∧ i.length + j.length ≤ sizeLine ∧ Q (.str (i ++ j)) H
def rAddI : R2 := rI0 fun i j => .int (i + j)
def rSubI : R2 := rI0 fun i j => .int (i - j)
def rAddU (K : PySem.W.Frag) : R2 := fun x y H Q => rAddI x y H Q ∨ rCat x y H Q ∨ rCatA K x y H Q ∨ rAddS x y H Q
theorem op_addU : OpR X (binaryOp .Add) (rAddU X.K) := by
  intro pins s σ H x y v u Q I rx ry h
  rcases h with h | h | h | h
  · exact op_add pins s σ H x y v u Q I rx ry h
  · exact op_cat pins s σ H x y v u Q I rx ry h
  · exact op_catA pins s σ H x y v u Q I rx ry h
  · exact op_add_str pins s σ H x y v u Q I rx ry h
theorem op_subU : OpR X (binaryOp .Sub) rSubI := op_sub
def rMulI : R2 := rI CMulW fun i j => .int (i * j)
def rMulU (K : PySem.W.Frag) : R2 := fun x y H Q => rMulI x y H Q ∨ rRep x y H Q ∨ rRepT K x y H Q
theorem op_mulU : OpR X (binaryOp .Mult) (rMulU X.K) := by
  intro pins s σ H x y v u Q I rx ry h
  rcases h with h | h | h
  · exact op_mulW pins s σ H x y v u Q I rx ry h
  · exact op_rep pins s σ H x y v u Q I rx ry h
  · exact op_repT pins s σ H x y v u Q I rx ry h
def rDivI : R2 := rI CDivW fun i j => .int (i / j)
theorem op_divU : OpR X (binaryOp .FloorDiv) rDivI := op_fdivW
def rModI : R2 := rI (fun _ j => 0 < j) fun i j => .int (i % j)
theorem op_modU : OpR X (binaryOp .Mod) rModI := op_mod
def rPowI : R2 := rI CPow fun i j => .int (i ^ j.toNat)
theorem op_powU : OpR X (binaryOp .Pow) rPowI := op_pow
def rLt : R2 := rI0 fun i j => .bl (decide (i < j))
def rLe : R2 := rI0 fun i j => .bl (decide (i ≤ j))
def rGt : R2 := rI0 fun i j => .bl (decide (j < i))
def rGe : R2 := rI0 fun i j => .bl (decide (j ≤ i))
theorem op_ltU : OpR X (compareOp .Lt) rLt := op_lt
theorem op_leU : OpR X (compareOp .LtE) rLe := op_le
theorem op_gtU : OpR X (compareOp .Gt) rGt := op_gt
theorem op_geU : OpR X (compareOp .GtE) rGe := op_ge
def rEqU (K : PySem.W.Frag) : R2 := fun x y H Q => rEq x y H Q ∨ rEqD K x y H Q
def rNeU (K : PySem.W.Frag) : R2 := fun x y H Q => rNe x y H Q ∨ rNeD K x y H Q
theorem op_eqU (hu : X.A.units + 64 < cLine) : OpR X (compareOp .Eq) (rEqU X.K) := by
  intro pins s σ H x y v u Q I rx ry h
  rcases h with h | h
  · exact op_eq pins s σ H x y v u Q I rx ry h
  · exact op_eqD hu pins s σ H x y v u Q I rx ry h
theorem op_neU (hu : X.A.units + 64 < cLine) : OpR X (compareOp .NotEq) (rNeU X.K) := by
  intro pins s σ H x y v u Q I rx ry h
  rcases h with h | h
  · exact op_ne pins s σ H x y v u Q I rx ry h
  · exact op_neD hu pins s σ H x y v u Q I rx ry h
def rIsN : R2 := fun x y H Q => y = .non ∧ Q (.bl (decide (x = .non))) H
def rNotN : R2 := fun x y H Q => y = .non ∧ Q (.bl (!decide (x = .non))) H
def rIsU : R2 := fun x y H Q => rIsN x y H Q ∨ rIsB x y H Q
def rNotIsU : R2 := fun x y H Q => rNotN x y H Q ∨ rNotB x y H Q
theorem op_isU : OpR X (compareOp .Is) rIsU := by
  intro pins s σ H x y v u Q I rx ry h
  rcases h with h | h
  · exact op_isN pins s σ H x y v u Q I rx ry h
  · exact op_isBl pins s σ H x y v u Q I rx ry h
theorem op_notIsU : OpR X (compareOp .IsNot) rNotIsU := by
  intro pins s σ H x y v u Q I rx ry h
  rcases h with h | h
  · exact op_notN pins s σ H x y v u Q I rx ry h
  · exact op_notBl pins s σ H x y v u Q I rx ry h
def rInS : R2 := fun x y H Q => ∃ i j, x = .str i ∧ y = .str j ∧ Q (.bl (!(Builtin.Str.occurrences j i 0 j.length 1).isEmpty)) H
def rNotInS : R2 := fun x y H Q => ∃ i j, x = .str i ∧ y = .str j ∧ Q (.bl (!(!(Builtin.Str.occurrences j i 0 j.length 1).isEmpty))) H
def rInU (K : PySem.W.Frag) : R2 := fun x y H Q => rIn K false x y H Q ∨ rInS x y H Q
def rNotInU (K : PySem.W.Frag) : R2 := fun x y H Q => rIn K true x y H Q ∨ rNotInS x y H Q
theorem op_inU : OpR X (compareOp .In) (rInU X.K) := by
  intro pins s σ H x y v u Q I rx ry h
  rcases h with h | h
  · exact op_in_seq pins s σ H x y v u Q I rx ry h
  · exact op_in_str pins s σ H x y v u Q I rx ry h
theorem op_notInU : OpR X (compareOp .NotIn) (rNotInU X.K) := by
  intro pins s σ H x y v u Q I rx ry h
  rcases h with h | h
  · exact op_notIn_seq pins s σ H x y v u Q I rx ry h
  · exact op_notin_str pins s σ H x y v u Q I rx ry h
/-- slices of lists, tuples, texts -/
abbrev RSl := V → Option Int → Option Int → Hp → VK → Prop
def rSlU (K : PySem.W.Frag) : RSl := fun x lo hi H Q => rSlL K x lo hi H Q ∨ rSlA K x lo hi H Q ∨ rSlS x lo hi H Q
theorem sl_U : SlR X (rSlU X.K) := by
  intro pins s σ H x v vl vu lo hi sl Q I rx hs pl pu h
  rcases h with h | h | h
  · exact sl_list pins s σ H x v vl vu lo hi sl Q I rx hs pl pu h
  · exact sl_tupA pins s σ H x v vl vu lo hi sl Q I rx hs pl pu h
  · exact sl_str pins s σ H x v vl vu lo hi sl Q I rx hs pl pu h
/-- what a for walks: a list or a tuple -/
def kSeq (K : PySem.W.Frag) (x : V) (H : Hp) (R : It → Hp → Prop) : Prop := (∃ a, x = .ref a ∧ (∃ xs, SqL K H a xs) ∧ R (Itl K a) H) ∨ (∃ a, x = .ref a ∧ (∃ xs, SqT K H a xs) ∧ R (Itt K a) H)
def iSeq (K : PySem.W.Frag) (tl : TE) : TI := fun σ H R => tl σ H fun x H1 => kSeq K x H1 R
theorem pi_seq {tg l : Expr} {tl : TE} (hl : PE X l tl) : PI X tg l (iSeq X.K tl) := by
  refine ⟨fun pins s σ H R I h => ?_⟩
  refine thn (hl.run pins s σ H _ I h) fun v s1 ⟨x, H1, I1, r1, q1⟩ => ?_
  rcases q1 with ⟨a, e, ⟨xs, hq⟩, q⟩ | ⟨a, e, ⟨xs, hq⟩, q⟩
  · subst e
    cases r1
    obtain ⟨its, rv, p, hz⟩ := I1.list hq
    refine wpAny_pyIter_list p.isList ?_
    refine ⟨s1.heap.objs.size, [s1.heap.objs.size], _, _, H1, rfl, I1.kept (t' := s1.toks) fun b o e => Heap.get?_push_of_some _ e, turn_list a _, ⟨_, Heap.get?_push_size _ rfl, rfl, rfl⟩, fun b hb => ?_, q⟩
    have e : b = s1.heap.objs.size := by simpa using hb
    subst e
    exact I1.fpOk (Nat.le_refl _) (I1.hok.fresh (Nat.le_refl _))
  · subst e
    cases r1
    obtain ⟨its, rv, p, hz⟩ := I1.tuple hq
    refine wpAny_pyIter_tuple (show s1.heap.IsTuple a its.toArray from p) ?_
    refine ⟨s1.heap.objs.size, [s1.heap.objs.size], _, _, H1, rfl, I1.kept (t' := s1.toks) fun b o e => Heap.get?_push_of_some _ e, turn_tuple a _, ⟨_, Heap.get?_push_size _ rfl, rfl, rfl⟩, fun b hb => ?_, q⟩
    have e : b = s1.heap.objs.size := by simpa using hb
    subst e
    exact I1.fpOk (Nat.le_refl _) (I1.hok.fresh (Nat.le_refl _))
end

/-! ### calls -/
structure Cal (P : Program) (w : World) (K : PySem.W.Frag) (mg : Str → Option Value) (base : Heap) (CX : CXT) (x : Str) (k : Nat) (ps : List Str) (sp : Sp) : Prop where
  ex : ∃ (f : Addr) (fd : FuncData), FnOk P w K mg base CX k f fd ps sp ∧ mg x = some (.ref f) ∧ PySem.W.keepIn K (.ref f) = true ∧ Binds K fd ps []
def tCal (sp : Sp) (E : XK) (t : TA) : TE := fun σ H Q => t σ H fun vs H1 => sp vs H1 Q E
def tCalS (sp : Sp) (E : St → XK) (t : TA) : TE := fun σ H Q => t σ H fun vs H1 => sp vs H1 Q (E σ)
section
variable {X : Cx} {CX : CXT} {k : Nat} {ps : List Str} {sp : Sp} {E : XK} {x : Str} {p pos : Pos} {e : Expr} {es : List Expr} {t : TA}
theorem tCal_eq (t : TA) : tCall sp [] E t = tCal sp E t := by
  funext σ H Q
  unfold tCall tCal
  simp only [List.append_nil]
theorem pe_cal (c : Cal X.prog X.w X.K X.mg X.base CX x k ps sp) (hr : Room k X.A) (hg : Gl X x) (hx : Passes CX X E) (ha : PA X (e :: es) t) (hdb : (x == ("__debug__" : Str)) = false := by decide)
    (he : starEach (e :: es) X.env = (false, eval e X.env) :: starEach es X.env := by rfl) (hpl : (backTo pos (starEach es X.env)).any (·.1) = false := by rfl) :
    PE X (.Call (.Name x p) (e :: es) [] pos) (tCal sp E t) := by
  obtain ⟨f, fd, F, hm, hk, hb⟩ := c.ex
  have h := pe_call (p := p) (pos := pos) F hr hg hm hk hb .nil hx ha hdb he hpl
  rw [tCal_eq] at h
  exact h
theorem pe_cal0 (c : Cal X.prog X.w X.K X.mg X.base CX x k ps sp) (hr : Room k X.A) (hg : Gl X x) (hx : Passes CX X E) (hdb : (x == ("__debug__" : Str)) = false := by decide) :
    PE X (.Call (.Name x p) [] [] pos) (tCal sp E tNil) := by
  obtain ⟨f, fd, F, hm, hk, hb⟩ := c.ex
  have h := pe_call0 (p := p) (pos := pos) F hr hg hm hk hb .nil hx hdb
  rw [tCal_eq] at h
  exact h
theorem pe_calS {E : St → XK} (c : Cal X.prog X.w X.K X.mg X.base CX x k ps sp) (hr : Room k X.A) (hg : Gl X x) (hx : ∀ σ, PassesAt CX X σ (E σ)) (ha : PA X (e :: es) t) (hdb : (x == ("__debug__" : Str)) = false := by decide)
    (he : starEach (e :: es) X.env = (false, eval e X.env) :: starEach es X.env := by rfl) (hpl : (backTo pos (starEach es X.env)).any (·.1) = false := by rfl) :
    PE X (.Call (.Name x p) (e :: es) [] pos) (tCalS sp E t) := by
  obtain ⟨f, fd, F, hm, hk, hb⟩ := c.ex
  exact pe_callS (p := p) (pos := pos) F hr hg hm hk hb hx ha hdb he hpl
end

/-! ### methods, makers -/
structure CalM (P : Program) (w : World) (K : PySem.W.Frag) (mg : Str → Option Value) (base : Heap) (CX : CXT) (C : Addr) (m : Str) (k : Nat) (ps : List Str) (sp : Sp) : Prop where
  cls : Cls K C
  ex : ∃ (f : Addr) (fd : FuncData), FnOk P w K mg base CX k f fd ps sp ∧ Meth K C m f ∧ Binds K fd ps []
structure CalC (P : Program) (w : World) (K : PySem.W.Frag) (mg : Str → Option Value) (base : Heap) (CX : CXT) (C : Addr) (x : Str) (k : Nat) (ps : List Str) (sp : Sp) : Prop where
  m : mg x = some (.ref C)
  ex : ∃ (f : Addr) (fd : FuncData), FnOk P w K mg base CX k f fd ps sp ∧ Mk K C f ∧ Binds K fd ps []
def tMet (C : Addr) (m : Str) (sp : Sp) (E : XK) (ta : TE) (t : TA) : TE := fun σ H Q => ta σ H fun x H1 => ∃ a dx fs, x = .ref a ∧ H1 a = some (.ins C dx fs) ∧ fs.lookup m = none ∧
  t σ H1 fun vs H2 => sp (x :: vs) H2 Q E
def tMetS (C : Addr) (m : Str) (sp : Sp) (E : St → XK) (ta : TE) (t : TA) : TE := fun σ H Q => ta σ H fun x H1 => ∃ a dx fs, x = .ref a ∧ H1 a = some (.ins C dx fs) ∧ fs.lookup m = none ∧
  t σ H1 fun vs H2 => sp (x :: vs) H2 Q (E σ)
def tMak (C : Addr) (sp : Sp) (E : XK) (t : TA) : TE := fun σ H Q => t σ H fun vs H1 => ∀ x dx, H1 x = none → H1 dx = none → dx ≠ x →
  sp (.ref x :: vs) (upd (upd H1 dx (.own x)) x (.ins C dx [])) (fun v H2 => v = .non ∧ Q (.ref x) H2) E
def tMakS (C : Addr) (sp : Sp) (E : St → XK) (t : TA) : TE := fun σ H Q => t σ H fun vs H1 => ∀ x dx, H1 x = none → H1 dx = none → dx ≠ x →
  sp (.ref x :: vs) (upd (upd H1 dx (.own x)) x (.ins C dx [])) (fun v H2 => v = .non ∧ Q (.ref x) H2) (E σ)
section
variable {X : Cx} {CX : CXT} {k : Nat} {C : Addr} {ps : List Str} {sp : Sp} {E : XK} {x m : Str} {p pos apos : Pos} {o e : Expr} {es : List Expr} {ta : TE} {t : TA}
theorem tMet_eq (ta : TE) (t : TA) : tMeth C m sp [] E ta t = tMet C m sp E ta t := by
  funext σ H Q
  unfold tMeth tMet
  simp only [List.append_nil]
theorem tMak_eq (t : TA) : tMake C sp [] E t = tMak C sp E t := by
  funext σ H Q
  unfold tMake tMak
  simp only [List.append_nil]
theorem pe_met {pl : Sem Bool} (he : PE X o ta) (c : CalM X.prog X.w X.K X.mg X.base CX C m k ps sp) (hr : Room k X.A) (hx : Passes CX X E) (ha : PA X (e :: es) t)
    (hst : starEach (e :: es) X.env = (false, eval e X.env) :: starEach es X.env := by rfl) (hpl : (backTo pos (starEach es X.env)).any (·.1) = false := by rfl)
    (ht : eval (.Call (.Attribute o m apos) (e :: es) [] pos) X.env = (do
      let ov ← eval o X.env
      standAt apos.atName
      let (f, first) ← holding [ov] (getMethod ov m pl)
      callWith pos f first (backTo pos (starEach (e :: es) X.env)) (backToKw pos (keywordEach [] X.env))) := by rfl) :
    PE X (.Call (.Attribute o m apos) (e :: es) [] pos) (tMet C m sp E ta t) := by
  obtain ⟨f, fd, F, hm, hb⟩ := c.ex
  have h := pe_meth he c.cls hm F hr hb .nil hx ha hst hpl ht
  rw [tMet_eq] at h
  exact h
theorem pe_met0 {pl : Sem Bool} (he : PE X o ta) (c : CalM X.prog X.w X.K X.mg X.base CX C m k ps sp) (hr : Room k X.A) (hx : Passes CX X E)
    (ht : eval (.Call (.Attribute o m apos) [] [] pos) X.env = (do
      let ov ← eval o X.env
      standAt apos.atName
      let (f, first) ← holding [ov] (getMethod ov m pl)
      callWith pos f first (backTo pos (starEach [] X.env)) (backToKw pos (keywordEach [] X.env))) := by rfl) :
    PE X (.Call (.Attribute o m apos) [] [] pos) (tMet C m sp E ta tNil) := by
  obtain ⟨f, fd, F, hm, hb⟩ := c.ex
  have h := pe_meth0 he c.cls hm F hr hb .nil hx ht
  rw [tMet_eq] at h
  exact h
theorem pe_metS {E : St → XK} {pl : Sem Bool} (he : PE X o ta) (c : CalM X.prog X.w X.K X.mg X.base CX C m k ps sp) (hr : Room k X.A) (hx : ∀ σ, PassesAt CX X σ (E σ)) (ha : PA X (e :: es) t)
    (hst : starEach (e :: es) X.env = (false, eval e X.env) :: starEach es X.env := by rfl) (hpl : (backTo pos (starEach es X.env)).any (·.1) = false := by rfl)
    (ht : eval (.Call (.Attribute o m apos) (e :: es) [] pos) X.env = (do
      let ov ← eval o X.env
      standAt apos.atName
      let (f, first) ← holding [ov] (getMethod ov m pl)
      callWith pos f first (backTo pos (starEach (e :: es) X.env)) (backToKw pos (keywordEach [] X.env))) := by rfl) :
    PE X (.Call (.Attribute o m apos) (e :: es) [] pos) (tMetS C m sp E ta t) := by
  obtain ⟨f, fd, F, hm, hb⟩ := c.ex
  refine ⟨fun pins s σ H Q I h => ?_⟩
  refine PySem.W.methodCall_KW (pl := pl) (thn (he.run pins s σ H _ I h) fun u s1 ⟨x, H1, I1, rx, a, dx, fs, ex, ea, l, q⟩ => ?_) ht
  subst ex
  obtain rfl : u = Value.ref a := rx
  refine getmeth_ok I1 ea c.cls hm l ?_
  refine PySem.W.callWith_K (first := [.ref a]) (h₀ := X.base) I.ok.mod.kin hm.kp (thn (ha.run pos pins s1 σ H1 _ I1 q) fun us s2 ⟨vs, H2, I2, r, q2⟩ => ⟨I2.kIn, ?_⟩) hst hpl
  exact run_fnS (us := .ref a :: us) (vs := .ref a :: vs) F hr hb (hx σ) I2 (.cons rfl r) q2
theorem pe_mak (c : CalC X.prog X.w X.K X.mg X.base CX C x k ps sp) (hr : Room (k + 1) X.A) (hg : Gl X x) (hx : Passes CX X E)
    (ha : PA X (e :: es) t) (hdb : (x == ("__debug__" : Str)) = false := by decide) (he : starEach (e :: es) X.env = (false, eval e X.env) :: starEach es X.env := by rfl) (hpl : (backTo pos (starEach es X.env)).any (·.1) = false := by rfl) :
    PE X (.Call (.Name x p) (e :: es) [] pos) (tMak C sp E t) := by
  obtain ⟨f, fd, F, M, hb⟩ := c.ex
  have h := pe_make (p := p) (pos := pos) M F hr hg c.m hb .nil hx ha hdb he hpl
  rw [tMak_eq] at h
  exact h
/-- run_make at the slots σ -/
theorem run_makeS {E : XK} {f : Addr} {fd : FuncData} {pins : List (Addr × Obj)} {σ : St} {H : Hp} {s : Shared} {Q : VK} {us : List Value} {vs : List V} (M : Mk X.K C f) (F : FnOk X.prog X.w X.K X.mg X.base CX k f fd ps sp) (hr : Room (k + 1) X.A) (hb : Binds X.K fd ps [])
    (hx : ∀ (pins : List (Addr × Obj)) (H : Hp) (s : Shared) (e : Value) (s' : Shared), Inv X pins σ H s → CX X.stack H s E e s' → X.xe e s') (I : Inv X pins σ H s) (r : Vals vs us)
    (h : ∀ x dx, H x = none → H dx = none → dx ≠ x → sp (.ref x :: vs) (upd (upd H dx (.own x)) x (.ins C dx [])) (fun v H2 => v = .non ∧ Q (.ref x) H2) E) :
    wpAny (model X.prog X.w) X.A (call (.ref C) us) (EP X pins σ Q) X.xe s := by
  have hq := h (s.heap.objs.size + 1) s.heap.objs.size (I.hok.fresh (Nat.le_succ _)) (I.hok.fresh (Nat.le_refl _)) (Nat.ne_of_lt (Nat.lt_succ_self _))
  have I2 := Inv.made (C := C) I
  have r2 : Vals (V.ref (s.heap.objs.size + 1) :: vs) (Value.ref (s.heap.objs.size + 1) :: us) := .cons rfl r
  have hl : (Value.ref (s.heap.objs.size + 1) :: us ++ ([] : List Value)).length = ps.length := by
    have e := r2.length
    rw [F.len _ _ _ _ hq] at e
    simpa using e.symm
  have hbb := hb _ (Value.ref (s.heap.objs.size + 1) :: us) I2.kIn hl
  rw [List.append_nil] at hbb
  refine wpAny_call (make_map (f := f) I.kIn M.makes M.init (beq_iff_eq.mp M.fn) (codeAny_mono (F.run _ X.stack _ _ ⟨Value.ref (s.heap.objs.size + 1) :: us, []⟩ (Value.ref (s.heap.objs.size + 1) :: us) _ _ E (hr.make C us [])
    (I2.env0.make C us []) hbb r2 hq) fun r s' hq' => ?_))
  cases r with
  | error e => exact hx pins _ _ e s' I2 hq'
  | ok fl =>
    cases fl with
    | ret u =>
      obtain ⟨v, H', I3, rv, ev, q3⟩ := I2.after hq'
      subst ev
      exact ⟨rv, ⟨V.ref (s.heap.objs.size + 1), H', I3, rfl, q3⟩⟩
    | next => exact False.elim hq'
    | brk => exact False.elim hq'
    | cont => exact False.elim hq'
theorem pe_makS {E : St → XK} (c : CalC X.prog X.w X.K X.mg X.base CX C x k ps sp) (hr : Room (k + 1) X.A) (hg : Gl X x) (hx : ∀ σ, PassesAt CX X σ (E σ))
    (ha : PA X (e :: es) t) (hdb : (x == ("__debug__" : Str)) = false := by decide) (he : starEach (e :: es) X.env = (false, eval e X.env) :: starEach es X.env := by rfl) (hpl : (backTo pos (starEach es X.env)).any (·.1) = false := by rfl) :
    PE X (.Call (.Name x p) (e :: es) [] pos) (tMakS C sp E t) := by
  obtain ⟨f, fd, F, M, hb⟩ := c.ex
  refine ⟨fun pins s σ H Q I h => ?_⟩
  refine wpAny_Call_Name_kw (ld_glob I hg c.m ?_ hdb)
  refine PySem.W.callWith_K (h₀ := X.base) I.ok.mod.kin M.kp (thn (ha.run pos pins s σ H _ I h) fun us s1 ⟨vs, H1, I1, r, q⟩ => ⟨I1.kIn, ?_⟩) he hpl
  exact run_makeS M F hr hb (hx σ) I1 r q
end

/-! ### a statement, then the rest, with a word between them -/
def tCut (t u : TS) : TS := fun D σ H => ∃ Mid : St → Hp → Prop, t { D with nx := Mid } σ H ∧ ∀ σ' H', Mid σ' H' → u D σ' H'
theorem pss_cut {X : Cx} {st : Stmt} {rest : List Stmt} {t u : TS} (h1 : PS X st t) (h2 : PSs X rest u) : PSs X (st :: rest) (tCut t u) := by
  refine ⟨fun pins s σ H D I h => ?_⟩
  obtain ⟨Mid, hm, hu⟩ := h
  refine wpAny_execs_cons (thn (h1.run pins s σ H { D with nx := Mid } I hm) fun f s1 q => ?_)
  cases f with
  | next =>
    obtain ⟨σ', H', I', q⟩ := q
    exact h2.run pins s1 σ' H' D I' (hu σ' H' q)
  | ret v => exact q
  | brk => exact q
  | cont => exact q
def tIfT (t u v : TT) : TT := fun σ H Q => t σ H fun c H1 => if c = true then u σ H1 Q else v σ H1 Q
theorem pt_ifExp {X : Cx} {c a b : Expr} {pos : Pos} {t u v : TT} (hc : PT X c t) (ha : PT X a u) (hb : PT X b v) : PT X (.IfExp c a b pos) (tIfT t u v) := by
  refine ⟨fun pins s σ H Q I h => ?_⟩
  refine PyProof.Rows.isTrue_IfExp (thn (hc.run pins s σ H _ I h) fun d s1 ⟨H1, I1, q1⟩ => ?_)
  cases d with
  | true => exact ha.run pins s1 σ H1 Q I1 q1
  | false => exact hb.run pins s1 σ H1 Q I1 q1
/-! ### a property that hands back an attribute -/
structure CalP (P : Program) (w : World) (K : PySem.W.Frag) (mg : Str → Option Value) (base : Heap) (C : Addr) (f fld : Str) (k : Nat) : Prop where
  cls : Cls K C
  ex : ∃ (p g : Addr) (fd : FuncData), PropOf K C f p g ∧ FnOk P w K mg base CX0 k g fd ["self"] (getSp C fld) ∧ Binds K fd ["self"] []
def kPrp (C : Addr) (fld : Str) (x : V) (H : Hp) (Q : VK) : Prop := ∃ a dx fs v, x = .ref a ∧ H a = some (.ins C dx fs) ∧ fs.lookup fld = some v ∧ Q v H
def tPrp (C : Addr) (fld : Str) (ta : TE) : TE := fun σ H Q => ta σ H fun x H1 => kPrp C fld x H1 Q
theorem pe_prp {X : Cx} {C : Addr} {f fld : Str} {k : Nat} {e : Expr} {ta : TE} {pos : Pos} (c : CalP X.prog X.w X.K X.mg X.base C f fld k) (hr : Room (k + 1) X.A) (he : PE X e ta)
    (hab : attributeBase e f X.env (eval e X.env) = eval e X.env) : PE X (.Attribute e f pos) (tPrp C fld ta) := by
  obtain ⟨p, g, fd, hp, F, hb⟩ := c.ex
  have h := pe_prop (pos := pos) (E := E0) he c.cls hp F hr hb .nil pass0 hab
  have e : tProp C (getSp C fld) [] E0 ta = tPrp C fld ta := by
    funext σ H Q
    show ta σ H _ = ta σ H _
    congr 1
    funext x H1
    refine propext ⟨fun ⟨a, dx, fs, ex, ea, a', dx', fs', v, e1, e2, l, q⟩ => ?_, fun ⟨a, dx, fs, v, ex, ea, l, q⟩ => ⟨a, dx, fs, ex, ea, a, dx, fs, v, rfl, ea, l, q⟩⟩
    cases e1
    exact ⟨a, dx', fs', v, ex, e2, l, q⟩
  rw [e] at h
  exact h

/-! ### raise X() of an own class without __init__ -/
structure ExcF (K : PySem.W.Frag) (mg : Str → Option Value) (x : Str) (C : Addr) : Prop where
  ex : ∃ bm, PySem.W.excIn K C bm "ValueError.__new__" = true ∧ (∃ B I, ExcBaseFacts B "ValueError.__new__" I bm)
  g : mg x = some (.ref C)
  k : PySem.W.keepIn K (.ref C) = true
  b : PySem.W.subIn K (.ref C) (.type "BaseException") = some true
  t : PySem.W.typeIn K (.ref C) = some (.type "type")
section
variable {X : Cx} {C : Addr} {x : Str} {p pos : Pos}
theorem pmk_own0 (F : ExcF X.K X.mg x C) (hg : Gl X x) (hdb : (x == ("__debug__" : Str)) = false := by decide) : PMk X (.Call (.Name x p) [] [] pos) (fun _ H Q => Q (.ref C) none H) := by
  obtain ⟨bm, q, B, I0, FB⟩ := F.ex
  intro pins s σ H Q I h
  refine wpAny_Call_Name_kw (ld_glob I hg F.g ?_ hdb)
  refine PySem.W.callWith_K0 I.kIn F.k ?_
  show wpAny _ _ (call (.ref C) []) _ _ _
  obtain ⟨bm, N, nm, qn, bs, hdct, sn, sub, ab, col, dd, k0, k1, k2, k3, k5, mN, hC, hN, hni, T⟩ := exc_obj I.kIn q
  refine wpAny_call_exc_subT FB T hC hN hni (fun h' e hm => ?_) (by show 0 ≤ sizeLine; exact Nat.zero_le _)
  exact mk_of I hm (raises_own F.b F.t) h (I.hok.gone hm.new)
/-- raise X() where W is wished of what is raised -/
def tRaise (C : Addr) (W : WX) : TS := fun _ σ H => W (.ref C) none σ H
theorem ps_raise0 {W : WX} {pos2 : Pos} (hc : X.calm = true) (tk : Takes X W) (F : ExcF X.K X.mg x C) (hg : Gl X x) (hdb : (x == ("__debug__" : Str)) = false := by decide) :
    PS X (.Raise (some (.Call (.Name x p) [] [] pos)) none pos2) (tRaise C W) := ps_raise hc tk (pmk_own0 F hg hdb)
end
def WE' (W : WX) : St → XK := fun σ cls d H => W cls d σ H
theorem passAt' {X : Cx} {W : WX} (tk : Takes X W) (σ : St) : PassesAt (L2.CX X.prog X.w) X σ (WE' W σ) := passAt tk σ

/-! ### a list of ints that is known by a word alone -/
def Plain : HO → Prop
  | .lst _ => True
  | .ext _ => True
  | _ => False
theorem inv_swap {X : Cx} {pins : List (Addr × Obj)} {σ : St} {H : Hp} {s : Shared} {d : Addr} {o o' : HO} (I : Inv X pins σ H s) (hd : H d = some o) (hp : Plain o) (new : ObjOk X.prog X.w (upd H d o') s.heap d o') :
    Inv X pins σ (upd H d o') s := by
  have ne : ∀ b u, H b = some u → ¬ Plain u → b ≠ d := fun b u e n z => by
    subst z
    rw [hd] at e
    cases e
    exact n hp
  have nn : ∀ b, H b = none → upd H d o' b = none := fun b e => by
    rw [upd_ne (fun z => by subst z; rw [hd] at e; cases e)]
    exact e
  refine ⟨I.ok, I.os, I.bare, ⟨fun b u e n hb hx => I.base.keep b u e n hb hx, fun b u e n hb hx => I.base.slot b u e n hb hx, fun b u e n hx => nn b (I.base.free b u e n hx), I.base.there, fun b xs e => ?_, fun b u v e => ?_, fun b ps e => ?_⟩, I.loc, I.cell, nn _ I.free, fun x c e => nn _ (I.freeC x c e), fun p hp' => ?_, fun b u q => ?_, I.len⟩
  · have e1 := I.base.tups b xs e
    rw [upd_ne (ne b _ e1 (fun z => z))]
    exact e1
  · have e1 := I.base.frzs b u v e
    rw [upd_ne (ne b _ e1 (fun z => z))]
    exact e1
  · obtain ⟨more, e1⟩ := I.base.tbls b ps e
    refine ⟨more, ?_⟩
    rw [upd_ne (ne b _ e1 (fun z => z))]
    exact e1
  · obtain ⟨h1, h2, h3⟩ := I.pin p hp'
    exact ⟨h1, nn _ h2, h3⟩
  · by_cases hb : b = d
    · subst hb
      rw [upd_same] at q
      cases q
      exact new
    · rw [upd_ne hb] at q
      refine (I.hok b u q).stay (fun c v _ r => r) (fun c r => ?_) (fun c xs r => ?_)
      · rw [upd_ne (ne c _ r (fun z => z))]
        exact r
      · rw [upd_ne (ne c _ r (fun z => z))]
        exact r
/-- an opaque list of ints -/
def opq (Pr : List Int → Prop) (d : Addr) : HO := .ext fun h => ∃ (ns : List Int) (its : List Value) (n : Nat), Pr ns ∧ Vals (ns.map V.int) its ∧ ns.length ≤ sizeLine ∧ h.get? d = some { cls := .type "list", data := .seq its.toArray n }
theorem inv_open {X : Cx} {pins : List (Addr × Obj)} {σ : St} {H : Hp} {s : Shared} {d : Addr} {Pr : List Int → Prop} (I : Inv X pins σ H s) (hd : H d = some (opq Pr d)) :
    ∃ ns, Pr ns ∧ Inv X pins σ (upd H d (.lst (ns.map V.int))) s := by
  obtain ⟨⟨ns, its, n, hp, hv, hl, hg⟩, _, _⟩ := I.hok d _ hd
  exact ⟨ns, hp, inv_swap I hd True.intro ⟨by rw [List.length_map]; exact hl, its, n, hv, hg⟩⟩
theorem inv_shut {X : Cx} {pins : List (Addr × Obj)} {σ : St} {H : Hp} {s : Shared} {d : Addr} {Pr : List Int → Prop} {ns : List Int} (I : Inv X pins σ H s) (hd : H d = some (.lst (ns.map V.int))) (hp : Pr ns) :
    Inv X pins σ (upd H d (opq Pr d)) s := by
  obtain ⟨hl, its, n, hv, hg⟩ := I.hok d _ hd
  rw [List.length_map] at hl
  exact inv_swap I hd True.intro ⟨⟨ns, its, n, hp, hv, hl, hg⟩, ⟨_, hg⟩, fun h1 h2 ⟨ns, its, n, a, b, c, e⟩ k => ⟨ns, its, n, a, b, c, k _ e⟩⟩
def shutE (Pr : List Int → Prop) (d : Addr) (D : Ends) : Ends where
  nx := fun σ H => ∃ ns, Pr ns ∧ H d = some (.lst (ns.map V.int)) ∧ D.nx σ (upd H d (opq Pr d))
  rt := fun v H => ∃ ns, Pr ns ∧ H d = some (.lst (ns.map V.int)) ∧ D.rt v (upd H d (opq Pr d))
  bk := fun σ H => ∃ ns, Pr ns ∧ H d = some (.lst (ns.map V.int)) ∧ D.bk σ (upd H d (opq Pr d))
  ct := fun σ H => ∃ ns, Pr ns ∧ H d = some (.lst (ns.map V.int)) ∧ D.ct σ (upd H d (opq Pr d))
theorem sp_shut {X : Cx} {pins : List (Addr × Obj)} {D : Ends} {f : Flow} {s' : Shared} {d : Addr} {Pr : List Int → Prop} (h : SP X pins (shutE Pr d D) f s') : SP X pins D f s' := by
  cases f with
  | next =>
    obtain ⟨σ', H', I, ns, hp, hd, q⟩ := h
    exact ⟨σ', _, inv_shut I hd hp, q⟩
  | brk =>
    obtain ⟨σ', H', I, ns, hp, hd, q⟩ := h
    exact ⟨σ', _, inv_shut I hd hp, q⟩
  | cont =>
    obtain ⟨σ', H', I, ns, hp, hd, q⟩ := h
    exact ⟨σ', _, inv_shut I hd hp, q⟩
  | ret u =>
    obtain ⟨v, σ', H', I, r, ns, hp, hd, q⟩ := h
    exact ⟨v, σ', _, inv_shut I hd hp, r, q⟩
/-- a block within which an opaque list is a plain one -/
def tOpen (Pr : List Int → Prop) (t : TS) : TS := fun D σ H => ∃ d, H d = some (opq Pr d) ∧ ∀ ns, Pr ns → t (shutE Pr d D) σ (upd H d (.lst (ns.map V.int)))
theorem pss_open {X : Cx} {b : List Stmt} {t : TS} (Pr : List Int → Prop) (h : PSs X b t) : PSs X b (tOpen Pr t) := by
  refine ⟨fun pins s σ H D I q => ?_⟩
  obtain ⟨d, hd, k⟩ := q
  obtain ⟨ns, hp, J⟩ := inv_open I hd
  exact thn (h.run pins s σ _ _ J (k ns hp)) fun f s' z => sp_shut z
/-- a block that hands back a list of ints, which is opaque from then on -/
def tShut (Pr : List Int → Prop) (t : TS) : TS := fun D σ H => t { nx := D.nx, bk := D.bk, ct := D.ct, rt := fun v H' => ∃ d ns, v = .ref d ∧ H' d = some (.lst (ns.map V.int)) ∧ Pr ns ∧ D.rt v (upd H' d (opq Pr d)) } σ H
theorem pss_shut {X : Cx} {b : List Stmt} {t : TS} (Pr : List Int → Prop) (h : PSs X b t) : PSs X b (tShut Pr t) := by
  refine ⟨fun pins s σ H D I q => thn (h.run pins s σ H _ I q) fun f s' z => ?_⟩
  cases f with
  | next => exact z
  | brk => exact z
  | cont => exact z
  | ret u =>
    obtain ⟨v, σ', H', I, r, d, ns, rfl, hd, hp, q⟩ := z
    exact ⟨.ref d, σ', _, inv_shut I hd hp, r, q⟩

/-! ### enumerate of a tuple -/
theorem meets_enumerate_newT (l : Addr) (items : Array Value) (n : Nat) (dct : Option Addr) (sl : Array (Option Value)) :
    Meets (Builtin.«enumerate.__new__» ⟨[.type "enumerate", .ref l], []⟩) (fun _ R s => s.heap.get? l = some { cls := .type "tuple", dict := dct, data := .seq items n, slots := sl } ∧
      R (.ok (.ret (.ref (s.heap.push { cls := .type "tuple_iterator", data := .fields #[.ref l, .int 0 0] }).objs.size)))
        { s with heap := (s.heap.push { cls := .type "tuple_iterator", data := .fields #[.ref l, .int 0 0] }).push { cls := .type "enumerate", data := .fields #[.none, .bool false, .ref s.heap.objs.size, rawInt 0, .none, .none] } }) :=
  .of_wp fun prog w A R s h => by
    obtain ⟨hp, g, d, tk, os⟩ := s; obtain ⟨hl, h⟩ := h
    have hsub := sub_enumerate
    have hL : Heap.IsTuple (Shared.heap ⟨hp, g, d, tk, os⟩) l items := ⟨_, hl, rfl, n, rfl⟩
    wp_walk using AutoSeq1.wpAny_loadPart' hl
    refine wpAny_stack_any fun st => wpAny_pure ?_
    split
    · rename_i c _ _ _ _ _
      cases (c == Value.type "enumerate")
      · wp_walk using AutoSeq1.wpAny_loadPart' hl, wpAny_pyIter_tuple hL
        exact ⟨_, rfl, h⟩
      · wp_walk using AutoSeq1.wpAny_loadPart' hl, wpAny_pyIter_tuple hL
        exact ⟨_, rfl, h⟩
    · wp_walk using AutoSeq1.wpAny_loadPart' hl, wpAny_pyIter_tuple hL
      exact ⟨_, rfl, h⟩
theorem call_enumerate_tuple {prog : Program} {w : World} {A : Around} {E : Value → Shared → Prop} {s : Shared} {l : Addr} {items : Array Value} {Q : Value → Shared → Prop} (hL : s.heap.IsTuple l items)
    (h : ∀ h', IsEnum h' (s.heap.objs.size + 1) s.heap.objs.size 0 .none → h'.IsTupleIter s.heap.objs.size l 0 → h'.objs.size = s.heap.objs.size + 2 →
      (∀ b o, s.heap.get? b = some o → h'.get? b = some o) → Q (.ref (s.heap.objs.size + 1)) { s with heap := h' }) :
    wpAny (model prog w) A (call (.type "enumerate") [.ref l]) Q E s := by
  obtain ⟨⟨c, dct, dt, sl⟩, hl, hc, n, hd⟩ := hL
  replace hc : c = .type "tuple" := hc
  replace hd : dt = .seq items n := hd
  subst hc hd
  refine callType_new F.called_enumerate (by decide) (F.typeCall_enumerate_1 _) (F.newCall_enumerate_1 _) (fun obj => F.args_object_init_2 obj _) F.entry_enumerate_new
    (meets_enumerate_newT l items n dct sl) ⟨hl, ?_⟩
  have hz : (s.heap.push { cls := .type "tuple_iterator", data := .fields #[.ref l, .int 0 0] }).objs.size = s.heap.objs.size + 1 := Heap.size_push ..
  show _ ∧ _
  rw [hz]
  have he : IsEnum ((s.heap.push { cls := .type "tuple_iterator", data := .fields #[.ref l, .int 0 0] }).push
      { cls := .type "enumerate", data := .fields #[.none, .bool false, .ref s.heap.objs.size, rawInt 0, .none, .none] }) (s.heap.objs.size + 1) s.heap.objs.size 0 .none := by
    have := Heap.get?_push_size (s.heap.push { cls := .type "tuple_iterator", data := .fields #[.ref l, .int 0 0] })
      (o := { cls := .type "enumerate", data := .fields #[.none, .bool false, .ref s.heap.objs.size, rawInt 0, .none, .none] }) rfl
    rw [hz] at this; exact this
  refine ⟨⟨_, he, rfl⟩, h _ he ⟨_, Heap.get?_push_of_some _ (Heap.get?_push_size _ rfl), rfl, rfl⟩ (by rw [Heap.size_push, hz]) fun b o x => Heap.get?_push_of_some _ (Heap.get?_push_of_some _ x)⟩
theorem wpAny_pyNext_enum_endT {prog : Program} {w : World} {A : Around} {E : Value → Shared → Prop} {s : Shared} {e it l : Addr} {i : Nat} {items : Array Value} {old : Value} {Q : Option Value → Shared → Prop} (hh : A.handled = none)
    (he : IsEnum s.heap e it i old) (hit : s.heap.IsTupleIter it l i) (hl : s.heap.IsTuple l items) (hx : items[i]? = none)
    (hQ : ∀ h', Heap.ExtBut it s.heap h' → Q none { s with heap := h' }) : wpAny (model prog w) A (pyNext (.ref e)) Q E s := by
  have hT : s.TypeIs (.ref e) "enumerate" := ⟨_, he, rfl⟩
  unfold pyNext
  refine wpAny_bind (wpAny_attempt (wpAny_callSpecial?_slot (name := Str.ofString "__next__") hT F.slot_enumerate_next
    (wpAny_call_entry F.slot_enumerate_next hT F.entry_enumerate_next ?_ (F.args_enumerate_next_1 _))))
  show wpAny _ _ (field (.ref e) 2 >>= _) _ _ _
  refine wpAny_bind (wpAny_field he rfl (x := .ref it) rfl ?_)
  refine wpAny_bind (wpAny_nextOf_tuple_end hh hit hl hx fun h' x he' hx' => ?_)
  obtain ⟨o, ho, hc⟩ := hx'
  refine wpAny_bind (wpAny_isInstance (T := "StopIteration") (b := true) ⟨o, ho, hc⟩ isSubtype_stop ?_)
  exact wpAny_pure (hQ _ he')
/-- the tuple at a, each item in a new pair -/
def Itet (K : PySem.W.Frag) (a : Addr) : It :=
  ⟨fun i H => ∃ (xs : List V) (x : V), SqT K H a xs ∧ xs[i]? = some x, fun i H v H' => ∃ T x, v = .ref T ∧ H T = none ∧ H' = upd H T (.tup [.int (i : Nat), x]) ∧ ∀ xs, SqT K H a xs → xs[i]? = some x, fun i H => ∃ xs : List V, SqT K H a xs ∧ xs.length ≤ i⟩
theorem turn_enumT {P : Program} {w : World} {K : PySem.W.Frag} {elts : List Expr} {kk : Nat} {tpos : Pos} (a e it : Addr) :
    Turn P w K (.Tuple elts kk tpos) (Itet K a) [e, it] e (fun i h => (∃ old, IsEnum h e it ((i : Nat) : Int) old) ∧ h.IsTupleIter it a i ∧ e ≠ it) where
  mem := by simp
  obj := fun i h st b hb => by
    obtain ⟨⟨old, he⟩, ⟨o, ho, hc, hd⟩, _⟩ := st
    have e' : b = e ∨ b = it := by simpa using hb
    rcases e' with z | z
    · rw [z]; exact ⟨_, he, fun v q => nomatch q⟩
    · rw [z]; exact ⟨o, ho, fun v q => by rw [hd] at q; cases q⟩
  keep := fun i h h' st k => let ⟨⟨old, he⟩, hi, hne⟩ := st; ⟨⟨old, k e (by simp) _ he⟩, hi.at fun o q => k it (by simp) o q, hne⟩
  item := by
    intro X hP hw hK hc i pins s σ H E I hf st hg
    subst hP hw hK
    obtain ⟨⟨old, he⟩, hit, hne⟩ := st
    obtain ⟨xs, x, hq, hx⟩ := hg
    obtain ⟨its, rv, p, hz⟩ := I.tuple hq
    have pt : s.heap.IsTuple a its.toArray := p
    obtain ⟨u, hu, ru⟩ := rv.get hx
    have hel : e < s.heap.objs.size := Heap.lt_size he
    have hil : it < s.heap.objs.size := by obtain ⟨_, q, _⟩ := hit; exact Heap.lt_size q
    have nai : a ≠ it := fun z => by
      obtain ⟨o1, q1, c1, _⟩ := hit
      obtain ⟨o2, q2, c2, _⟩ := pt
      rw [z, q1] at q2
      cases q2
      rw [c1] at c2
      exact absurd c2 (by decide)
    have nea : e ≠ a := fun z => by
      obtain ⟨o2, q2, c2, _⟩ := pt
      have he' : s.heap.get? e = _ := he
      rw [z, q2] at he'
      have e3 := congrArg Obj.cls (Option.some.inj he')
      rw [c2] at e3
      exact absurd (show Value.type "tuple" = Value.type "enumerate" from e3) (by decide)
    have D := Draws.tuple (prog := X.prog) (w := X.w) (A := X.A.in1) (I.ok.hd hc) it a nai its.toArray
    have hui : i < its.length := (List.getElem?_eq_some_iff.mp hu).1
    refine wpAny_pyNext_enum_itemD D he ⟨hit, pt⟩ (by simpa using hui) hne (by simp [hne, nea]) fun x' h' tk hP' ho hst' hT hsz hk => ?_
    have ex : x' = u := by
      have z : its.toArray[i]? = some x' := hP'
      rw [List.getElem?_toArray, hu] at z
      exact (Option.some.inj z).symm
    subst ex
    refine ⟨_, rfl, wpAny_letOwnedTupleGo_enum (s := { s with heap := h', toks := tk + 1 }) ho fun h'' he' sb => ?_⟩
    have hT2 : h''.get? s.heap.objs.size = some { cls := .type "tuple", data := .seq #[.int i tk, x'] } := (sb.2 _ (Nat.ne_of_gt hel)).trans hT
    have new : ObjOk X.prog X.w (upd H s.heap.objs.size (.tup [.int (i : Nat), x])) h'' s.heap.objs.size (.tup [.int (i : Nat), x]) :=
      ⟨by show 2 ≤ sizeLine; decide, [.int i tk, x'], .cons ⟨_, rfl⟩ (.cons ru .nil), ⟨_, hT2, rfl, _, rfl⟩⟩
    have I1 : Inv X pins σ (upd H s.heap.objs.size (.tup [.int (i : Nat), x])) { s with heap := h'', toks := tk + 1 } :=
      I.turnedNew (ch := [e, it]) (fun b ob hb q => (sb.2 b (fun z => hb (by simp [z]))).trans (hk b ob (fun z => hb (by simp [z])) (fun z => hb (by simp [z])) q)) hf (Nat.le_refl _) new
    refine ⟨.ref s.heap.objs.size, _, I1, rfl, ⟨_, x, rfl, I.hok.fresh (Nat.le_refl _), rfl, fun ys hy => by rw [I.tuple_inj hy hq]; exact hx⟩, ⟨⟨x', ?_⟩, hst'.1.at fun o q => (sb.2 it (Ne.symm hne)).trans q, hne⟩, fun b hb => ?_⟩
    · have e1 : ((i + 1 : Nat) : Int) = (i : Int) + 1 := by omega
      rw [e1]; exact he'
    · have hb' : b < s.heap.objs.size := by
        have e' : b = e ∨ b = it := by simpa using hb
        rcases e' with z | z
        · rw [z]; exact hel
        · rw [z]; exact hil
      rw [upd_ne (Nat.ne_of_lt hb')]
      exact (hf b hb).1
  done := by
    intro X hP hw hK hc i pins s σ H E I hf st hg
    subst hP hw hK
    obtain ⟨⟨old, he⟩, hit, hne⟩ := st
    obtain ⟨xs, hq, hx⟩ := hg
    obtain ⟨its, rv, p, hz⟩ := I.tuple hq
    have pt : s.heap.IsTuple a its.toArray := p
    have nai : a ≠ it := fun z => by
      obtain ⟨o1, q1, c1, _⟩ := hit
      obtain ⟨o2, q2, c2, _⟩ := pt
      rw [z, q1] at q2
      cases q2
      rw [c1] at c2
      exact absurd c2 (by decide)
    obtain ⟨f0, f1, f2, f3, f4, f5⟩ := hf it (by simp)
    have hl := rv.length
    refine wpAny_pyNext_enum_endT (I.ok.hd hc) he hit pt (by simp; omega) fun h' eb => ⟨rfl, I.turned (t' := s.toks) (fun b o hb q => eb b o hb q) f0 f1 f3 f4 f5⟩
  self := fun A i s Q E st h => let ⟨⟨_, he⟩, _⟩ := st; wpAny_pyIter_enum he h
/-- enumerate of a list or a tuple -/
def kEnum (K : PySem.W.Frag) (vs : List V) (H : Hp) (R : It → Hp → Prop) : Prop := (∃ a xs, vs = [.ref a] ∧ SqL K H a xs ∧ R (Ite K a) H) ∨ (∃ a xs, vs = [.ref a] ∧ SqT K H a xs ∧ R (Itet K a) H)
def iEnumS (K : PySem.W.Frag) (ta : TA) : TI := fun σ H R => ta σ H fun vs H1 => kEnum K vs H1 R
theorem pi_enumS {X : Cx} {e : Expr} {ta : TA} {p pos tpos : Pos} {elts : List Expr} {kk : Nat} (hg : Gl X "enumerate") (hm : X.mg "enumerate" = none) (ha : PA X [e] ta) (hs : starEach [e] X.env = [(false, eval e X.env)] := by rfl) :
    PI X (.Tuple elts kk tpos) (.Call (.Name "enumerate" p) [e] [] pos) (iEnumS X.K ta) := by
  refine ⟨fun pins s σ H R I h => ?_⟩
  refine Call_ (ld_blt I hg hm boot_enumerate (PyProof.Rows.callWith_type1 (thn (ha.run pos pins s σ H _ I h) fun us s1 ⟨vs, H1, I1, r1, q1⟩ => ?_) hs rfl))
  rcases q1 with ⟨a, xs, ex, hq, q⟩ | ⟨a, xs, ex, hq, q⟩
  · subst ex
    cases r1 with
    | cons r rr =>
      cases rr
      cases r
      obtain ⟨its, rv, p', hz⟩ := I1.list hq
      refine call_enumerate_list p'.isList fun h' he hit hsz hk => wpAny_pyIter_enum he ?_
      have I2 : Inv X pins σ H1 { s1 with heap := h' } := I1.kept (t' := s1.toks) hk
      refine ⟨s1.heap.objs.size + 1, [s1.heap.objs.size + 1, s1.heap.objs.size], _, _, H1, rfl, I2, turn_enum a (s1.heap.objs.size + 1) s1.heap.objs.size, ⟨⟨.none, he⟩, hit, Nat.succ_ne_self _⟩, fun b hb => ?_, q⟩
      have e' : b = s1.heap.objs.size + 1 ∨ b = s1.heap.objs.size := by simpa using hb
      have hle : s1.heap.objs.size ≤ b := by
        rcases e' with z | z
        · rw [z]; exact Nat.le_add_right _ _
        · rw [z]; exact Nat.le_refl _
      exact I1.fpOk hle (I1.hok.fresh hle)
  · subst ex
    cases r1 with
    | cons r rr =>
      cases rr
      cases r
      obtain ⟨its, rv, p', hz⟩ := I1.tuple hq
      refine call_enumerate_tuple (show s1.heap.IsTuple a its.toArray from p') fun h' he hit hsz hk => wpAny_pyIter_enum he ?_
      have I2 : Inv X pins σ H1 { s1 with heap := h' } := I1.kept (t' := s1.toks) hk
      refine ⟨s1.heap.objs.size + 1, [s1.heap.objs.size + 1, s1.heap.objs.size], _, _, H1, rfl, I2, turn_enumT a (s1.heap.objs.size + 1) s1.heap.objs.size, ⟨⟨.none, he⟩, hit, Nat.succ_ne_self _⟩, fun b hb => ?_, q⟩
      have e' : b = s1.heap.objs.size + 1 ∨ b = s1.heap.objs.size := by simpa using hb
      have hle : s1.heap.objs.size ≤ b := by
        rcases e' with z | z
        · rw [z]; exact Nat.le_add_right _ _
        · rw [z]; exact Nat.le_refl _
      exact I1.fpOk hle (I1.hok.fresh hle)
/-- for i, x in enumerate(t): t a tuple that stands -/
theorem for_enumT {K : PySem.W.Frag} {a : Addr} {xs : List V} {g : TG} {tb : TS} {D : Ends} {σ : St} {H : Hp} (Pv : Nat → St → Hp → Prop) (h0 : Pv 0 σ H) (hl : ∀ i σ H, i ≤ xs.length → Pv i σ H → SqT K H a xs)
    (hs : ∀ i x σ H T, xs[i]? = some x → Pv i σ H → H T = none → g (.ref T) σ (upd H T (.tup [.int (i : Nat), x])) fun σ2 H2 => tb { D with nx := Pv (i + 1), ct := Pv (i + 1), bk := D.nx } σ2 H2) (hd : ∀ σ H, Pv xs.length σ H → D.nx σ H) :
    ∃ W : Nat → Nat → St → Hp → Prop, (∃ m, W 0 m σ H) ∧ ∀ i m σ H, W i m σ H →
      ((Itet K a).stop i H ∧ D.nx σ H) ∨ ((Itet K a).go i H ∧ ∃ N : St → Hp → Prop, (∀ σ' H', N σ' H' → ∃ m', m' < m ∧ W (i + 1) m' σ' H') ∧ ∀ x H', (Itet K a).yld i H x H' → g x σ H' fun σ2 H2 => tb { D with nx := N, ct := N, bk := D.nx } σ2 H2) := by
  refine ⟨fun i m σ H => m = xs.length - i ∧ i ≤ xs.length ∧ Pv i σ H, ⟨xs.length, by simp, Nat.zero_le _, h0⟩, ?_⟩
  rintro i m σ H ⟨rfl, hi, p⟩
  have q := hl i σ H hi p
  by_cases h : i < xs.length
  · refine .inr ⟨⟨xs, xs[i], q, List.getElem?_eq_getElem h⟩, Pv (i + 1), fun σ' H' z => ⟨xs.length - (i + 1), by omega, rfl, h, z⟩, ?_⟩
    rintro x H' ⟨T, y, rfl, hT, rfl, hy⟩
    exact hs i y σ H T (hy xs q) p hT
  · have e : i = xs.length := by omega
    subst e
    exact .inl ⟨⟨xs, q, Nat.le_refl _⟩, hd σ H p⟩

/-! ### the written part by names -/
structure Gm where
  K : PySem.W.Frag
  cRule : Addr
  cGame : Addr
  cSplitError : Addr
  cBadRule : Addr
  cBadHeap : Addr
  cBadSplit : Addr
  cNoTerms : Addr
  cNoTable : Addr
  cNotSure : Addr
  cBadWay : Addr
  cBadStyle : Addr
  cBadSums : Addr
  cBadNumber : Addr
  cTooGreat : Addr
  cBadRow : Addr
  cBadPlace : Addr
  cBadText : Addr
  aSTYLES : Addr
/-! ### built-ins by name -/
def rLen (K : PySem.W.Frag) : List V → Hp → VK → Prop := fun xs H Q => ∃ x n, xs = [x] ∧ LenV K x H n ∧ Q (.int n) H
def rAbs : List V → Hp → VK → Prop := fun xs H Q => ∃ i, xs = [.int i] ∧ Q (.int (if i < 0 then -i else i)) H
def rMin2 : List V → Hp → VK → Prop := fun xs H Q => ∃ i j, xs = [.int i, .int j] ∧ Q (.int (if j < i then j else i)) H
def rMax2 : List V → Hp → VK → Prop := fun xs H Q => ∃ i j, xs = [.int i, .int j] ∧ Q (.int (if j > i then j else i)) H
def rInt1 : List V → Hp → VK → Prop := fun xs H Q => (∃ i, xs = [.int i] ∧ Q (.int i) H) ∨ ∃ k, xs = [.bl k] ∧ Q (.int (if k then 1 else 0)) H
def rStr1 : List V → Hp → VK → Prop := fun xs H Q => ∃ i, xs = [.int i] ∧ i.natAbs.log2 < 1920 ∧ Q (.str (toString i)) H
def rTupOf (K : PySem.W.Frag) : List V → Hp → VK → Prop := fun xs H Q => ∃ p ys, xs = [.ref p] ∧ ((SqL K H p ys ∧ ∀ l, H l = none → Q (.ref l) (upd H l (.tup ys))) ∨ (SqT K H p ys ∧ Q (.ref p) H))
def rListOf (K : PySem.W.Frag) : List V → Hp → VK → Prop := fun xs H Q => ∃ p ys, xs = [.ref p] ∧ (SqL K H p ys ∨ SqT K H p ys) ∧ ∀ l, H l = none → Q (.ref l) (upd H l (.lst ys))
theorem pe_gint {X : Cx} {x : Str} {n : Int} {pos : Pos} (h : ∃ t, X.mg x = some (.int n t)) (hg : Gl X x) (hd : (x == ("__debug__" : Str)) = false := by decide) : PE X (.Name x pos) (tC (.int n)) := by
  obtain ⟨t, e⟩ := h
  exact pe_glob hg e ⟨t, rfl⟩ hd
theorem pe_gstr {X : Cx} {x s : Str} {pos : Pos} (h : ∃ t, X.mg x = some (.str s t)) (hg : Gl X x) (hd : (x == ("__debug__" : Str)) = false := by decide) : PE X (.Name x pos) (tC (.str s)) := by
  obtain ⟨t, e⟩ := h
  exact pe_glob hg e ⟨t, rfl⟩ hd
def tTry1 (K : PySem.W.Frag) (c : Value) (tb : WX → TS) (ts : Addr → Value → Option Addr → TS) : TS := fun D σ H => tb (wOnly K c ts (fun _ _ _ _ => False) D) D σ H
def tTryN (K : PySem.W.Frag) (tb : WX → TS) (l : List (Value × (Addr → Value → Option Addr → TS))) : TS := fun D σ H => tb (wMany K (fun _ _ _ _ => False) D l) D σ H
def startN (n : Nat) (vs : List V) : St := vs.map some ++ List.replicate (n - vs.length) none

theorem log2_le {n k : Nat} (h : n ≤ 2 ^ k) : n.log2 ≤ k := by
  by_cases z : n = 0
  · subst z; simp
  · have : n.log2 < k + 1 := (Nat.log2_lt z).mpr (by rw [Nat.pow_succ]; have := Nat.two_pow_pos k; omega)
    omega
theorem pow_nat {b : Int} {k m : Nat} (h : b.natAbs ≤ 2 ^ m) : (b ^ k).natAbs ≤ 2 ^ (m * k) := by
  rw [Int.natAbs_pow, Nat.pow_mul]
  exact Nat.pow_le_pow_left h k
theorem mul_nat {a b : Int} {m n : Nat} (ha : a.natAbs ≤ 2 ^ m) (hb : b.natAbs ≤ 2 ^ n) : (a * b).natAbs ≤ 2 ^ (m + n) := by
  rw [Int.natAbs_mul, Nat.pow_add]
  exact Nat.mul_le_mul ha hb
theorem cmul_of {a b : Int} {m n : Nat} (ha : a.natAbs ≤ 2 ^ m) (hb : b.natAbs ≤ 2 ^ n) (h : m + n < 1000000 := by omega) : CMulW a b := by
  have h1 := log2_le ha
  have h2 := log2_le hb
  unfold CMulW
  omega
/-! ### the heap grows -/
theorem _root_.L2.Same.new {H : Hp} {p : Addr} {o : HO} (h : H p = none) : Same H (upd H p o) := fun a u e => by
  rw [upd_ne (ne_of_none e h)]
  exact e
theorem _root_.L2.Same.mut {H H' : Hp} {p : Addr} {o : HO} (e : Same H H') (h : H p = none) : Same H (upd H' p o) := fun a u ha => by
  rw [upd_ne (ne_of_none ha h)]
  exact e a u ha
theorem _root_.L2.Same.seqT {K : PySem.W.Frag} {H H' : Hp} {a : Addr} {xs : List V} (e : Same H H') (h : SqT K H a xs) : SqT K H' a xs := by
  rcases h with (h | ⟨o, h⟩) | h
  · exact .inl (.inl (e _ _ h))
  · exact .inl (.inr ⟨o, e _ _ h⟩)
  · exact .inr h
theorem SqL.of {K : PySem.W.Frag} {H : Hp} {a : Addr} {xs : List V} (h : H a = some (.lst xs)) : SqL K H a xs := .inl (.inl h)
theorem SqT.of {K : PySem.W.Frag} {H : Hp} {a : Addr} {xs : List V} (h : H a = some (.tup xs)) : SqT K H a xs := .inl (.inl h)
/-- a new object at p, all else as before -/
theorem alloc {H : Hp} {o : HO} {R : Addr → Hp → Prop} (k : ∀ p H', H p = none → Same H H' → H' p = some o → R p H') : ∀ p, H p = none → R p (upd H p o) := fun p hp => k p _ hp (Same.new hp) upd_same

/-! ### one step of a reading -/
theorem w_iteT {A B : Prop} (h : A) : if true = true then A else B := by rw [if_pos rfl]; exact h
theorem w_iteF {A B : Prop} (h : B) : if false = true then A else B := by rw [if_neg Bool.false_ne_true]; exact h
theorem w_iteNT {A B : Prop} (h : B) : if (!true) = true then A else B := by rw [if_neg (by decide)]; exact h
theorem w_iteNF {A B : Prop} (h : A) : if (!false) = true then A else B := by rw [if_pos (by decide)]; exact h
theorem w_ite {b : Bool} {A B : Prop} (h1 : b = true → A) (h2 : b = false → B) : if b = true then A else B := by
  cases b with
  | true => exact w_iteT (h1 rfl)
  | false => exact w_iteF (h2 rfl)
section
variable {K : PySem.W.Frag} {σ : St} {H : Hp} {Q : VK} {QB : Bool → Hp → Prop} {QA : List V → Hp → Prop} {QO : Option Int → Hp → Prop} {nx bk ct : St → Hp → Prop} {rt : VK} {t u : TS} {c d : TT} {ta tb te to : TE} {r r' : R2} {tr : TA} {x y v : V} {g : TG} {gs : TGs}
theorem w_seq (h : t ⟨u ⟨nx, rt, bk, ct⟩, rt, bk, ct⟩ σ H) : tSeq t u ⟨nx, rt, bk, ct⟩ σ H := h
theorem w_thru (h : t ⟨u ⟨nx, rt, bk, ct⟩, rt, bk, ct⟩ σ H) : tCut t u ⟨nx, rt, bk, ct⟩ σ H := ⟨_, h, fun _ _ z => z⟩
theorem w_cut (Mid : St → Hp → Prop) (h : t ⟨Mid, rt, bk, ct⟩ σ H) (h2 : ∀ σ' H', Mid σ' H' → u ⟨nx, rt, bk, ct⟩ σ' H') : tCut t u ⟨nx, rt, bk, ct⟩ σ H := ⟨Mid, h, h2⟩
theorem w_prp {C : Addr} {fld : Str} (h : ta σ H fun x H1 => kPrp C fld x H1 Q) : tPrp C fld ta σ H Q := h
def kMak (C : Addr) (sp : Sp) (E : XK) (vs : List V) (H : Hp) (Q : VK) : Prop := ∀ x dx, H x = none → H dx = none → dx ≠ x → sp (.ref x :: vs) (upd (upd H dx (.own x)) x (.ins C dx [])) (fun v H2 => v = .non ∧ Q (.ref x) H2) E
theorem w_mak {C : Addr} {sp : Sp} {E : XK} (h : tr σ H fun vs H1 => kMak C sp E vs H1 Q) : tMak C sp E tr σ H Q := h
def kMakS (C : Addr) (sp : Sp) (E : XK) (vs : List V) (H : Hp) (Q : VK) : Prop := ∀ x dx, H x = none → H dx = none → dx ≠ x → sp (.ref x :: vs) (upd (upd H dx (.own x)) x (.ins C dx [])) (fun v H2 => v = .non ∧ Q (.ref x) H2) E
theorem w_makS {C : Addr} {sp : Sp} {E : St → XK} (h : tr σ H fun vs H1 => kMak C sp (E σ) vs H1 Q) : tMakS C sp E tr σ H Q := h
theorem w_next (h : nx σ H) : tNext ⟨nx, rt, bk, ct⟩ σ H := h
theorem w_brk (h : bk σ H) : tBreak ⟨nx, rt, bk, ct⟩ σ H := h
theorem w_cont (h : ct σ H) : tCont ⟨nx, rt, bk, ct⟩ σ H := h
theorem w_ret (h : te σ H rt) : tRet te ⟨nx, rt, bk, ct⟩ σ H := h
theorem w_retN (h : rt .non H) : tRetN ⟨nx, rt, bk, ct⟩ σ H := h
theorem w_asg (h : te σ H fun x H1 => g x σ H1 nx) : tAsg te g ⟨nx, rt, bk, ct⟩ σ H := h
theorem w_drop (h : te σ H fun _ H1 => nx σ H1) : tDrop te ⟨nx, rt, bk, ct⟩ σ H := h
theorem w_ifS (h : c σ H fun b H1 => if b = true then t ⟨nx, rt, bk, ct⟩ σ H1 else u ⟨nx, rt, bk, ct⟩ σ H1) : tIfS c t u ⟨nx, rt, bk, ct⟩ σ H := h
theorem w_gName {i : Nat} {k : St → Hp → Prop} (h : k (σ.set i (some v)) H) : gName i v σ H k := h
theorem w_gNil {k : St → Hp → Prop} (h : k σ H) : gNil [] σ H k := ⟨rfl, h⟩
theorem w_gCons {vs : List V} {k : St → Hp → Prop} (h : g v σ H fun σ' H' => gs vs σ' H' k) : gCons g gs (v :: vs) σ H k := ⟨v, vs, rfl, h⟩
theorem w_gTup {n : Nat} {a : Addr} {xs : List V} {k : St → Hp → Prop} (hs : SqT K H a xs) (hl : xs.length = n) (h : gs xs σ H k) : gTup K n gs (.ref a) σ H k := ⟨a, xs, rfl, hs, hl, h⟩
theorem w_gSub {ti : TE} {s : TSet} {k : St → Hp → Prop} (h : to σ H fun o H1 => ti σ H1 fun i H2 => s o i v H2 fun H3 => k σ H3) : gSub to ti s v σ H k := h
theorem w_setL {p : Addr} {xs : List V} {i : Int} {j : Nat} {k : Hp → Prop} (hp : H p = some (.lst xs)) (hi : ixN xs.length i = some j) (h : k (upd H p (.lst (xs.set j v)))) : rSetL (.ref p) (.int i) v H k := ⟨p, xs, i, j, rfl, rfl, hp, hi, h⟩
theorem w_par {i j : Nat} (h : tr σ H fun vs H1 => ∃ v w, vs = [v, w] ∧ nx ((σ.set i (some v)).set j (some w)) H1) : tPar i j tr ⟨nx, rt, bk, ct⟩ σ H := h
theorem w_par3 {i j l : Nat} (h : tr σ H fun vs H1 => ∃ u v w, vs = [u, v, w] ∧ nx (((σ.set i (some u)).set j (some v)).set l (some w)) H1) : tPar3 i j l tr ⟨nx, rt, bk, ct⟩ σ H := h
theorem w_two {v w : V} {k : V → V → Prop} (h : k v w) : ∃ a b, [v, w] = [a, b] ∧ k a b := ⟨v, w, rfl, h⟩
theorem w_three {u v w : V} {k : V → V → V → Prop} (h : k u v w) : ∃ a b c, [u, v, w] = [a, b, c] ∧ k a b c := ⟨u, v, w, rfl, h⟩
theorem w_aug {i : Nat} {f : Int → Int → Int} {m : Int} (hx : σ[i]? = some (some (.int m))) (h : te σ H fun y H1 => ipI f (.int m) y H1 fun z H2 => nx (σ.set i (some z)) H2) : tAug i te (ipI f) ⟨nx, rt, bk, ct⟩ σ H := ⟨_, hx, h⟩
theorem w_ipI {f : Int → Int → Int} {i j : Int} (h : Q (.int (f i j)) H) : ipI f (.int i) (.int j) H Q := ⟨i, j, rfl, rfl, h⟩
/-- what a for asks once its iterator has come -/
def forK (J : It) (g : TG) (t : TS) (nx : St → Hp → Prop) (rt : VK) (σ : St) (H : Hp) : Prop := ∃ W : Nat → Nat → St → Hp → Prop, (∃ m, W 0 m σ H) ∧ ∀ i m σ H, W i m σ H →
    (J.stop i H ∧ nx σ H) ∨ (J.go i H ∧ ∃ N : St → Hp → Prop, (∀ σ' H', N σ' H' → ∃ m', m' < m ∧ W (i + 1) m' σ' H') ∧ ∀ x H', J.yld i H x H' → g x σ H' fun σ2 H2 => t ⟨N, rt, nx, N⟩ σ2 H2)
theorem w_for {wi : TI} (h : wi σ H fun J H1 => forK J g t nx rt σ H1) : tFor wi g t ⟨nx, rt, bk, ct⟩ σ H := h
theorem k_range {lo : Int} {n : Nat} (Pv : Nat → St → Hp → Prop) (h0 : Pv 0 σ H) (hs : ∀ i σ H, i < n → Pv i σ H → g (.int (lo + i)) σ H fun σ2 H2 => t ⟨Pv (i + 1), rt, nx, Pv (i + 1)⟩ σ2 H2) (hd : ∀ σ H, Pv n σ H → nx σ H) : forK (Itr lo n) g t nx rt σ H :=
  for_range (D := ⟨nx, rt, fun _ _ => False, fun _ _ => False⟩) Pv h0 hs hd
theorem k_list {a : Addr} {xs : List V} (Pv : Nat → St → Hp → Prop) (h0 : Pv 0 σ H) (hl : ∀ i σ H, i ≤ xs.length → Pv i σ H → SqL K H a xs) (hs : ∀ i x σ H, xs[i]? = some x → Pv i σ H → g x σ H fun σ2 H2 => t ⟨Pv (i + 1), rt, nx, Pv (i + 1)⟩ σ2 H2) (hd : ∀ σ H, Pv xs.length σ H → nx σ H) : forK (Itl K a) g t nx rt σ H :=
  for_list (D := ⟨nx, rt, fun _ _ => False, fun _ _ => False⟩) Pv h0 hl hs hd
theorem k_tup {a : Addr} {xs : List V} (Pv : Nat → St → Hp → Prop) (h0 : Pv 0 σ H) (hl : ∀ i σ H, i ≤ xs.length → Pv i σ H → SqT K H a xs) (hs : ∀ i x σ H, xs[i]? = some x → Pv i σ H → g x σ H fun σ2 H2 => t ⟨Pv (i + 1), rt, nx, Pv (i + 1)⟩ σ2 H2) (hd : ∀ σ H, Pv xs.length σ H → nx σ H) : forK (Itt K a) g t nx rt σ H :=
  for_tup (D := ⟨nx, rt, fun _ _ => False, fun _ _ => False⟩) Pv h0 hl hs hd
theorem k_enumT {a : Addr} {xs : List V} (Pv : Nat → St → Hp → Prop) (h0 : Pv 0 σ H) (hl : ∀ i σ H, i ≤ xs.length → Pv i σ H → SqT K H a xs) (hs : ∀ i x σ H T, xs[i]? = some x → Pv i σ H → H T = none → g (.ref T) σ (upd H T (.tup [.int (i : Nat), x])) fun σ2 H2 => t ⟨Pv (i + 1), rt, nx, Pv (i + 1)⟩ σ2 H2) (hd : ∀ σ H, Pv xs.length σ H → nx σ H) : forK (Itet K a) g t nx rt σ H :=
  for_enumT (D := ⟨nx, rt, fun _ _ => False, fun _ _ => False⟩) Pv h0 hl hs hd
/-- what a list comprehension asks once its iterator has come -/
def lcK (J : It) (g : TG) (tt : TT) (te : TE) (vs : List Nat) (σ : St) (H1 : Hp) (Q : VK) : Prop := ∀ D, H1 D = none → ∃ W : Nat → Nat → Hp → Prop, (∃ m, W 0 m (upd H1 D (.lst []))) ∧ ∀ i m H, W i m H →
  (J.stop i H ∧ Q (.ref D) H) ∨ (J.go i H ∧ ∃ Nx : Hp → Prop, (∀ H', Nx H' → ∃ m', m' < m ∧ W (i + 1) m' H') ∧ ∀ x H', J.yld i H x H' → g x (wipe σ vs) H' fun σ2 H2 => wipe σ2 vs = wipe σ vs ∧ tt σ2 H2 fun b H3 =>
    if b = true then te σ2 H3 fun y H4 => ∃ acc, H4 D = some (.lst acc) ∧ acc.length < sizeLine ∧ Nx (upd H4 D (.lst (acc ++ [y]))) else Nx H3)
theorem w_lc {wi : TI} {vs : List Nat} (h : wi σ H fun J H1 => lcK J g c te vs σ H1 Q) : tLc wi g c te vs σ H Q := h
/-- one turn's end in a comprehension over the heap H0: the list so far, all else as it stood -/
def lcAt (H0 : Hp) (D : Addr) (P : List V → Hp → Prop) (H : Hp) : Prop := ∃ acc, H0 D = none ∧ Same H0 H ∧ H D = some (.lst acc) ∧ P acc H
/-- what a turn of a comprehension is to give: a value y with P of the list one longer -/
def lcTurn (H0 : Hp) (D : Addr) (P : List V → Hp → Prop) (y : V) (H4 : Hp) : Prop := ∃ acc, H4 D = some (.lst acc) ∧ acc.length < sizeLine ∧ lcAt H0 D P (upd H4 D (.lst (acc ++ [y])))
theorem lcTurn.mk {H0 : Hp} {D : Addr} {acc : List V} {P : List V → Hp → Prop} {y : V} {H4 : Hp} (hD : H0 D = none) (e : Same H0 H4) (ha : H4 D = some (.lst acc)) (hz : acc.length ≤ 100000) (hp : P (acc ++ [y]) (upd H4 D (.lst (acc ++ [y])))) : lcTurn H0 D P y H4 :=
  ⟨acc, ha, Nat.lt_of_le_of_lt hz (by decide), _, hD, Same.mut e hD, upd_same, hp⟩
theorem k_lcRange {lo : Int} {n : Nat} {vs : List Nat} (P : Nat → List V → Hp → Prop) (h0 : ∀ H', Same H H' → P 0 [] H')
    (hs : ∀ i D acc H', i < n → H D = none → Same H H' → H' D = some (.lst acc) → P i acc H' → g (.int (lo + i)) (wipe σ vs) H' fun σ2 H2 => wipe σ2 vs = wipe σ vs ∧ te σ2 H2 (lcTurn H D (P (i + 1))))
    (hd : ∀ D acc H', H D = none → Same H H' → H' D = some (.lst acc) → P n acc H' → Q (.ref D) H') : lcK (Itr lo n) g tYes te vs σ H Q := fun D hD =>
  lc_range (lo := lo) (n := n) (fun i H' => lcAt H D (P i) H') ⟨[], hD, Same.new hD, upd_same, h0 _ (Same.new hD)⟩ (fun i H' hi ⟨acc, _, e, ha, p⟩ => hs i D acc H' hi hD e ha p) fun H' ⟨acc, _, e, ha, p⟩ => hd D acc H' hD e ha p
theorem k_lcList {a : Addr} {xs : List V} {vs : List Nat} (P : Nat → List V → Hp → Prop) (hx : SqL K H a xs) (h0 : ∀ H', Same H H' → P 0 [] H')
    (hs : ∀ i x D acc H', xs[i]? = some x → H D = none → Same H H' → H' D = some (.lst acc) → P i acc H' → g x (wipe σ vs) H' fun σ2 H2 => wipe σ2 vs = wipe σ vs ∧ te σ2 H2 (lcTurn H D (P (i + 1))))
    (hd : ∀ D acc H', H D = none → Same H H' → H' D = some (.lst acc) → P xs.length acc H' → Q (.ref D) H') : lcK (Itl K a) g tYes te vs σ H Q := fun D hD =>
  lc_list (xs := xs) (fun i H' => lcAt H D (P i) H') ⟨[], hD, Same.new hD, upd_same, h0 _ (Same.new hD)⟩ (fun i H' _ ⟨_, _, e, _⟩ => e.seq hx) (fun i x H' hi ⟨acc, _, e, ha, p⟩ => hs i x D acc H' hi hD e ha p) fun H' ⟨acc, _, e, ha, p⟩ => hd D acc H' hD e ha p
theorem k_lcTup {a : Addr} {xs : List V} {vs : List Nat} (P : Nat → List V → Hp → Prop) (hx : SqT K H a xs) (h0 : ∀ H', Same H H' → P 0 [] H')
    (hs : ∀ i x D acc H', xs[i]? = some x → H D = none → Same H H' → H' D = some (.lst acc) → P i acc H' → g x (wipe σ vs) H' fun σ2 H2 => wipe σ2 vs = wipe σ vs ∧ te σ2 H2 (lcTurn H D (P (i + 1))))
    (hd : ∀ D acc H', H D = none → Same H H' → H' D = some (.lst acc) → P xs.length acc H' → Q (.ref D) H') : lcK (Itt K a) g tYes te vs σ H Q := fun D hD =>
  lc_tup (xs := xs) (fun i H' => lcAt H D (P i) H') ⟨[], hD, Same.new hD, upd_same, h0 _ (Same.new hD)⟩ (fun i H' _ ⟨_, _, e, _⟩ => e.seqT hx) (fun i x H' hi ⟨acc, _, e, ha, p⟩ => hs i x D acc H' hi hD e ha p) fun H' ⟨acc, _, e, ha, p⟩ => hd D acc H' hD e ha p
/-- the same with a test: b i x, and the value of what is kept -/
theorem k_lcListT {a : Addr} {xs : List V} {vs : List Nat} (P : Nat → List V → Hp → Prop) (hx : SqL K H a xs) (h0 : ∀ H', Same H H' → P 0 [] H')
    (hs : ∀ i x D acc H', xs[i]? = some x → H D = none → Same H H' → H' D = some (.lst acc) → P i acc H' → g x (wipe σ vs) H' fun σ2 H2 => wipe σ2 vs = wipe σ vs ∧ c σ2 H2 fun b H3 => if b = true then te σ2 H3 (lcTurn H D (P (i + 1))) else lcAt H D (P (i + 1)) H3)
    (hd : ∀ D acc H', H D = none → Same H H' → H' D = some (.lst acc) → P xs.length acc H' → Q (.ref D) H') : lcK (Itl K a) g c te vs σ H Q := fun D hD =>
  lc_list (xs := xs) (fun i H' => lcAt H D (P i) H') ⟨[], hD, Same.new hD, upd_same, h0 _ (Same.new hD)⟩ (fun i H' _ ⟨_, _, e, _⟩ => e.seq hx) (fun i x H' hi ⟨acc, _, e, ha, p⟩ => hs i x D acc H' hi hD e ha p) fun H' ⟨acc, _, e, ha, p⟩ => hd D acc H' hD e ha p
theorem k_lcRangeT {lo : Int} {n : Nat} {vs : List Nat} (P : Nat → List V → Hp → Prop) (h0 : ∀ H', Same H H' → P 0 [] H')
    (hs : ∀ i D acc H', i < n → H D = none → Same H H' → H' D = some (.lst acc) → P i acc H' → g (.int (lo + i)) (wipe σ vs) H' fun σ2 H2 => wipe σ2 vs = wipe σ vs ∧ c σ2 H2 fun b H3 => if b = true then te σ2 H3 (lcTurn H D (P (i + 1))) else lcAt H D (P (i + 1)) H3)
    (hd : ∀ D acc H', H D = none → Same H H' → H' D = some (.lst acc) → P n acc H' → Q (.ref D) H') : lcK (Itr lo n) g c te vs σ H Q := fun D hD =>
  lc_range (lo := lo) (n := n) (fun i H' => lcAt H D (P i) H') ⟨[], hD, Same.new hD, upd_same, h0 _ (Same.new hD)⟩ (fun i H' hi ⟨acc, _, e, ha, p⟩ => hs i D acc H' hi hD e ha p) fun H' ⟨acc, _, e, ha, p⟩ => hd D acc H' hD e ha p
def kRng1 (vs : List V) (H : Hp) (R : It → Hp → Prop) : Prop := ∃ j : Int, vs = [.int j] ∧ -(2 ^ 62) ≤ j ∧ j < 2 ^ 62 ∧ R (Itr 0 j.toNat) H
def kRng2 (vs : List V) (H : Hp) (R : It → Hp → Prop) : Prop := ∃ i j : Int, vs = [.int i, .int j] ∧ (-(2 ^ 62) ≤ i ∧ i < 2 ^ 62 ∧ -(2 ^ 62) ≤ j ∧ j < 2 ^ 62) ∧ R (Itr i (j - i).toNat) H
theorem w_rng1 {R : It → Hp → Prop} (h : tr σ H fun vs H1 => kRng1 vs H1 R) : iRng1 tr σ H R := h
theorem w_rng2 {R : It → Hp → Prop} (h : tr σ H fun vs H1 => kRng2 vs H1 R) : iRng2 tr σ H R := h
theorem k_rng1 {j : Int} {R : It → Hp → Prop} (h1 : -(2 ^ 62) ≤ j ∧ j < 2 ^ 62) (h : R (Itr 0 j.toNat) H) : kRng1 [.int j] H R := ⟨j, rfl, h1.1, h1.2, h⟩
theorem k_rng2 {i j : Int} {R : It → Hp → Prop} (h1 : -(2 ^ 62) ≤ i ∧ i < 2 ^ 62 ∧ -(2 ^ 62) ≤ j ∧ j < 2 ^ 62) (h : R (Itr i (j - i).toNat) H) : kRng2 [.int i, .int j] H R := ⟨i, j, rfl, h1, h⟩
theorem w_iSeq {R : It → Hp → Prop} (h : te σ H fun x H1 => kSeq K x H1 R) : iSeq K te σ H R := h
theorem k_seqL {a : Addr} {xs : List V} {R : It → Hp → Prop} (hx : SqL K H a xs) (h : R (Itl K a) H) : kSeq K (.ref a) H R := .inl ⟨a, rfl, ⟨xs, hx⟩, h⟩
theorem k_seqT {a : Addr} {xs : List V} {R : It → Hp → Prop} (hx : SqT K H a xs) (h : R (Itt K a) H) : kSeq K (.ref a) H R := .inr ⟨a, rfl, ⟨xs, hx⟩, h⟩
theorem w_iEnum {R : It → Hp → Prop} (h : tr σ H fun vs H1 => kEnum K vs H1 R) : iEnumS K tr σ H R := h
theorem k_enT {a : Addr} {xs : List V} {R : It → Hp → Prop} (hx : SqT K H a xs) (h : R (Itet K a) H) : kEnum K [.ref a] H R := .inr ⟨a, xs, rfl, hx, h⟩
-- tests
theorem w_test (h : te σ H fun x H' => ∃ k, x = .bl k ∧ QB k H') : tTest te σ H QB := h
theorem w_B (h : te σ H fun x H' => ∃ k, x = .bl k ∧ QB k H') : tB te σ H QB := h
theorem w_bl {b : Bool} (h : QB b H) : ∃ k, V.bl b = .bl k ∧ QB k H := ⟨b, rfl, h⟩
theorem w_not (h : c σ H fun b H1 => QB (!b) H1) : tNot c σ H QB := h
theorem w_and (h : c σ H fun b H1 => if b = true then d σ H1 QB else QB false H1) : tAnd c d σ H QB := h
theorem w_or (h : c σ H fun b H1 => if b = true then QB true H1 else d σ H1 QB) : tOr c d σ H QB := h
theorem w_andV (h : ta σ H fun x H1 => ∃ k, x = .bl k ∧ if k = true then tb σ H1 Q else Q (.bl false) H1) : tAndV ta tb σ H Q := h
theorem w_orV (h : ta σ H fun x H1 => ∃ k, x = .bl k ∧ if k = true then Q (.bl true) H1 else tb σ H1 Q) : tOrV ta tb σ H Q := h
theorem w_notV (h : ta σ H fun x H1 => ∃ k, x = .bl k ∧ Q (.bl (!k)) H1) : tNotV ta σ H Q := h
theorem w_ifT {e : TT} (h : c σ H fun b H1 => if b = true then d σ H1 QB else e σ H1 QB) : tIfT c d e σ H QB := h
theorem w_if (h : c σ H fun b H1 => if b = true then ta σ H1 Q else tb σ H1 Q) : tIf c ta tb σ H Q := h
-- expressions
theorem w_var {i : Nat} (h : σ[i]? = some (some v)) (q : Q v H) : tVar i σ H Q := ⟨v, h, q⟩
theorem w_c (q : Q v H) : tC v σ H Q := q
theorem w_op (h : ta σ H fun x H1 => tb σ H1 fun y H2 => r x y H2 Q) : tOp r ta tb σ H Q := h
theorem w_un {r1 : V → Hp → VK → Prop} (h : ta σ H fun x H1 => r1 x H1 Q) : tUn r1 ta σ H Q := h
theorem w_rU {f : Int → V} {i : Int} (h : Q (f i) H) : rU f (.int i) H Q := ⟨i, rfl, h⟩
theorem w_chain (h : ta σ H fun x H1 => tb σ H1 fun y H2 => r x y H2 fun z H3 => ∃ k, z = .bl k ∧ (if k = true then te σ H3 fun w' H4 => r' y w' H4 Q else Q (.bl false) H3)) : tChain r r' ta tb te σ H Q := h
theorem w_blv {b : Bool} {k : Bool → Prop} (h : k b) : ∃ a, V.bl b = .bl a ∧ k a := ⟨b, rfl, h⟩
theorem w_addI {i j : Int} (h : Q (.int (i + j)) H) : rAddU K (.int i) (.int j) H Q := .inl ⟨i, j, rfl, rfl, h⟩
theorem w_addL {l b : Addr} {xs zs : List V} (hl : H l = some (.lst xs)) (hb : H b = some (.lst zs)) (hz : xs.length + zs.length ≤ sizeLine) (h : ∀ p H', H p = none → Same H H' → H' p = some (.lst (xs ++ zs)) → Q (.ref p) H') : rAddU K (.ref l) (.ref b) H Q :=
  .inr (.inl ⟨l, b, xs, zs, rfl, rfl, hl, hb, hz, alloc h⟩)
theorem w_addS {i j : Str} (hl : i.length + j.length ≤ sizeLine) (h : Q (.str (i ++ j)) H) : rAddU K (.str i) (.str j) H Q := .inr (.inr (.inr ⟨i, j, rfl, rfl, hl, h⟩))
theorem w_subI {i j : Int} (h : Q (.int (i - j)) H) : rSubI (.int i) (.int j) H Q := ⟨i, j, rfl, rfl, h⟩
theorem w_mulI {i j : Int} (hc : CMulW i j) (h : Q (.int (i * j)) H) : rMulU K (.int i) (.int j) H Q := .inl ⟨i, j, rfl, rfl, hc, h⟩
theorem w_divI {i j : Int} (hc : CDivW i j) (h : Q (.int (i / j)) H) : rDivI (.int i) (.int j) H Q := ⟨i, j, rfl, rfl, hc, h⟩
theorem w_modI {i j : Int} (hc : 0 < j) (h : Q (.int (i % j)) H) : rModI (.int i) (.int j) H Q := ⟨i, j, rfl, rfl, hc, h⟩
theorem w_powI {i j : Int} (hc : CPow i j) (h : Q (.int (i ^ j.toNat)) H) : rPowI (.int i) (.int j) H Q := ⟨i, j, rfl, rfl, hc, h⟩
theorem w_lt {i j : Int} (h : Q (.bl (decide (i < j))) H) : rLt (.int i) (.int j) H Q := ⟨i, j, rfl, rfl, h⟩
theorem w_le {i j : Int} (h : Q (.bl (decide (i ≤ j))) H) : rLe (.int i) (.int j) H Q := ⟨i, j, rfl, rfl, h⟩
theorem w_gt {i j : Int} (h : Q (.bl (decide (j < i))) H) : rGt (.int i) (.int j) H Q := ⟨i, j, rfl, rfl, h⟩
theorem w_ge {i j : Int} (h : Q (.bl (decide (j ≤ i))) H) : rGe (.int i) (.int j) H Q := ⟨i, j, rfl, rfl, h⟩
theorem w_eqI {i j : Int} (h : Q (.bl (decide (i = j))) H) : rEqU K (.int i) (.int j) H Q := .inl ⟨rfl, by rw [show decide (V.int i = V.int j) = decide (i = j) from by simp]; exact h⟩
theorem w_neI {i j : Int} (h : Q (.bl (!decide (i = j))) H) : rNeU K (.int i) (.int j) H Q := .inl ⟨rfl, by rw [show decide (V.int i = V.int j) = decide (i = j) from by simp]; exact h⟩
theorem w_eqS {i j : Str} (h : Q (.bl (decide (i = j))) H) : rEqU K (.str i) (.str j) H Q := .inl ⟨rfl, by rw [show decide (V.str i = V.str j) = decide (i = j) from by simp]; exact h⟩
theorem w_neS {i j : Str} (h : Q (.bl (!decide (i = j))) H) : rNeU K (.str i) (.str j) H Q := .inl ⟨rfl, by rw [show decide (V.str i = V.str j) = decide (i = j) from by simp]; exact h⟩
theorem w_eqB {i j : Bool} (h : Q (.bl (decide (i = j))) H) : rEqU K (.bl i) (.bl j) H Q := .inl ⟨rfl, by rw [show decide (V.bl i = V.bl j) = decide (i = j) from by simp]; exact h⟩
theorem w_neB {i j : Bool} (h : Q (.bl (!decide (i = j))) H) : rNeU K (.bl i) (.bl j) H Q := .inl ⟨rfl, by rw [show decide (V.bl i = V.bl j) = decide (i = j) from by simp]; exact h⟩
theorem w_isN (h : Q (.bl (decide (x = .non))) H) : rIsU x .non H Q := .inl ⟨rfl, h⟩
theorem w_notN (h : Q (.bl (!decide (x = .non))) H) : rNotIsU x .non H Q := .inl ⟨rfl, h⟩
theorem w_isB {a b : Bool} (h : Q (.bl (decide (a = b))) H) : rIsU (.bl a) (.bl b) H Q := .inr ⟨a, b, rfl, rfl, h⟩
theorem w_notB {a b : Bool} (h : Q (.bl (!decide (a = b))) H) : rNotIsU (.bl a) (.bl b) H Q := .inr ⟨a, b, rfl, rfl, h⟩
theorem w_ixL {p : Addr} {xs : List V} {i : Int} (hp : SqL K H p xs) (hi : atI xs i = some v) (h : Q v H) : rIx K (.ref p) (.int i) H Q := .inl ⟨p, xs, i, v, rfl, rfl, hp, hi, h⟩
theorem w_ixT {p : Addr} {xs : List V} {i : Int} (hp : SqT K H p xs) (hi : atI xs i = some v) (h : Q v H) : rIx K (.ref p) (.int i) H Q := .inr (.inl ⟨p, xs, i, v, rfl, rfl, hp, hi, h⟩)
theorem w_cal {sp : Sp} {E : XK} (h : tr σ H fun vs H1 => sp vs H1 Q E) : tCal sp E tr σ H Q := h
theorem w_calS {sp : Sp} {E : St → XK} (h : tr σ H fun vs H1 => sp vs H1 Q (E σ)) : tCalS sp E tr σ H Q := h
theorem w_met {C : Addr} {m : Str} {sp : Sp} {E : XK} (h : ta σ H fun x H1 => ∃ a dx fs, x = .ref a ∧ H1 a = some (.ins C dx fs) ∧ fs.lookup m = none ∧ tr σ H1 fun vs H2 => sp (x :: vs) H2 Q E) : tMet C m sp E ta tr σ H Q := h
theorem w_inT {neg : Bool} {p : Addr} {xs : List V} (hp : SqT K H p xs) (hx : flatV x = true) (ha : xs.all flatV = true) (h : Q (.bl (if neg then !inV x xs else inV x xs)) H) : rIn K neg x (.ref p) H Q := ⟨p, xs, rfl, .inr hp, hx, ha, h⟩
theorem w_inL {neg : Bool} {p : Addr} {xs : List V} (hp : SqL K H p xs) (hx : flatV x = true) (ha : xs.all flatV = true) (h : Q (.bl (if neg then !inV x xs else inV x xs)) H) : rIn K neg x (.ref p) H Q := ⟨p, xs, rfl, .inl hp, hx, ha, h⟩
theorem w_in1 (h : rIn K false x y H Q) : rInU K x y H Q := .inl h
theorem w_in2 (h : rIn K true x y H Q) : rNotInU K x y H Q := .inl h
theorem w_nil (h : QA [] H) : tNil σ H QA := h
theorem w_cons (h : ta σ H fun x H1 => tr σ H1 fun xs H2 => QA (x :: xs) H2) : tCons ta tr σ H QA := h
theorem w_cb {rb : List V → Hp → VK → Prop} (h : tr σ H fun vs H1 => rb vs H1 Q) : tCB rb tr σ H Q := h
def kTup (xs : List V) (H : Hp) (Q : VK) : Prop := xs.length ≤ sizeLine ∧ ∀ p, H p = none → Q (.ref p) (upd H p (.tup xs))
def kLst (xs : List V) (H : Hp) (Q : VK) : Prop := xs.length ≤ sizeLine ∧ ∀ p, H p = none → Q (.ref p) (upd H p (.lst xs))
theorem w_tup (h : tr σ H fun xs H1 => kTup xs H1 Q) : tTup tr σ H Q := h
theorem w_lst (h : tr σ H fun xs H1 => kLst xs H1 Q) : tLst tr σ H Q := h
theorem n_tup {xs : List V} (k : ∀ p H', H p = none → Same H H' → H' p = some (.tup xs) → Q (.ref p) H') (hz : xs.length ≤ 100000 := by first | decide | (simp only [List.length_cons, List.length_nil]; decide)) : kTup xs H Q := ⟨Nat.le_trans hz (by decide), fun p hp => k p _ hp (Same.new hp) upd_same⟩
theorem n_lst {xs : List V} (k : ∀ p H', H p = none → Same H H' → H' p = some (.lst xs) → Q (.ref p) H') (hz : xs.length ≤ 100000 := by first | decide | (simp only [List.length_cons, List.length_nil]; decide)) : kLst xs H Q := ⟨Nat.le_trans hz (by decide), fun p hp => k p _ hp (Same.new hp) upd_same⟩
def rFld (K : PySem.W.Frag) (f : Str) (x : V) (H : Hp) (Q : VK) : Prop := ∃ a C dx fs v, x = .ref a ∧ H a = some (.ins C dx fs) ∧ Cls K C ∧ NoAttr K C f ∧ fs.lookup f = some v ∧ Q v H
theorem w_fld {f : Str} (h : ta σ H fun x H1 => rFld K f x H1 Q) : tFld K ta f σ H Q := h
def kSfld (K : PySem.W.Frag) (f : Str) (y x : V) (H : Hp) (k : Hp → Prop) : Prop := ∃ a C dx fs, x = .ref a ∧ H a = some (.ins C dx fs) ∧ Cls K C ∧ NoAttr K C f ∧ fs.length < 1000 ∧ k (upd H a (.ins C dx (putF f y fs)))
theorem w_sFld {f : Str} {tv : TE} (h : tv σ H fun y H1 => ta σ H1 fun x H2 => kSfld K f y x H2 fun H3 => nx σ H3) : sFld K ta tv f ⟨nx, rt, bk, ct⟩ σ H := h
theorem k_sfld {f : Str} {y : V} {a C dx : Addr} {fs : List (Str × V)} {k : Hp → Prop} (h1 : H a = some (.ins C dx fs)) (h2 : Cls K C) (h3 : NoAttr K C f) (h4 : fs.length < 1000) (h : k (upd H a (.ins C dx (putF f y fs)))) : kSfld K f y (.ref a) H k := ⟨a, C, dx, fs, rfl, h1, h2, h3, h4, h⟩
theorem w_bm {T : String} {rm : V → List V → Hp → VK → Prop} (h : to σ H fun x H1 => tyV K T x H1 ∧ tr σ H1 fun xs H2 => rm x xs H2 Q) : tBM K T rm to tr σ H Q := h
theorem w_bm0 {T : String} {rm : V → List V → Hp → VK → Prop} (h : to σ H fun x H1 => tyV K T x H1 ∧ rm x [] H1 Q) : tBM0 K T rm to σ H Q := h
theorem w_tyL {p : Addr} {xs : List V} {A : Prop} (hp : H p = some (.lst xs)) (h : A) : tyV K "list" (.ref p) H ∧ A := ⟨.inl ⟨rfl, xs, SqL.of hp⟩, h⟩
theorem w_app {l : Addr} {xs : List V} (hl : H l = some (.lst xs)) (hz : xs.length ≤ 100000) (h : Q .non (upd H l (.lst (xs ++ [y])))) : rAppend (.ref l) [y] H Q := ⟨l, xs, y, rfl, rfl, hl, Nat.lt_of_le_of_lt hz (by decide), h⟩
theorem w_lenL {p : Addr} {xs : List V} (hp : SqL K H p xs) (h : Q (.int (xs.length : Int)) H) : rLen K [.ref p] H Q := ⟨_, _, rfl, .inl ⟨xs, hp, rfl⟩, h⟩
theorem w_lenT {p : Addr} {xs : List V} (hp : SqT K H p xs) (h : Q (.int (xs.length : Int)) H) : rLen K [.ref p] H Q := ⟨_, _, rfl, .inr ⟨xs, hp, rfl⟩, h⟩
theorem w_int1 {i : Int} (h : Q (.int i) H) : rInt1 [.int i] H Q := .inl ⟨i, rfl, h⟩
theorem w_abs {i : Int} (h : Q (.int (if i < 0 then -i else i)) H) : rAbs [.int i] H Q := ⟨i, rfl, h⟩
theorem w_min2 {i j : Int} (h : Q (.int (if j < i then j else i)) H) : rMin2 [.int i, .int j] H Q := ⟨i, j, rfl, h⟩
theorem w_tupL {p : Addr} {xs : List V} (hp : SqL K H p xs) (h : ∀ l H', H l = none → Same H H' → H' l = some (.tup xs) → Q (.ref l) H') : rTupOf K [.ref p] H Q := ⟨p, xs, rfl, .inl ⟨hp, alloc h⟩⟩
theorem w_tupT {p : Addr} {xs : List V} (hp : SqT K H p xs) (h : Q (.ref p) H) : rTupOf K [.ref p] H Q := ⟨p, xs, rfl, .inr ⟨hp, h⟩⟩
theorem w_listL {p : Addr} {xs : List V} (hp : SqL K H p xs ∨ SqT K H p xs) (h : ∀ l H', H l = none → Same H H' → H' l = some (.lst xs) → Q (.ref l) H') : rListOf K [.ref p] H Q := ⟨p, xs, rfl, hp, alloc h⟩
theorem w_sum {p : Addr} {ns : List Int} (hp : SqL K H p (ns.map V.int)) (h : Q (.int ns.sum) H) : rSum K [.ref p] H Q := ⟨p, ns, rfl, hp, h⟩
theorem w_all {p : Addr} {bs : List Bool} (hp : SqL K H p (bs.map V.bl)) (h : Q (.bl (bs.all id)) H) : rAll K [.ref p] H Q := ⟨p, bs, rfl, hp, h⟩
theorem w_sl {rs : RSl} {tl th : TO} (h : te σ H fun x H1 => tl σ H1 fun l H2 => th σ H2 fun u H3 => rs x l u H3 Q) : tSl rs te tl th σ H Q := h
theorem w_noPart (h : QO none H) : tNoPart σ H QO := h
theorem w_part (h : te σ H fun x H1 => ∃ i, x = .int i ∧ QO (some i) H1) : tPart te σ H QO := h
theorem w_parti {i : Int} {k : Int → Prop} (h : k i) : ∃ j, V.int i = .int j ∧ k j := ⟨i, rfl, h⟩
theorem w_yes (h : QB true H) : tYes σ H QB := h
theorem w_raise {C : Addr} {W : WX} (h : W (.ref C) none σ H) : tRaise C W ⟨nx, rt, bk, ct⟩ σ H := h
theorem w_try1 {cv : Value} {tbb : WX → TS} {ts : Addr → Value → Option Addr → TS} (h : tbb (wOnly K cv ts (fun _ _ _ _ => False) ⟨nx, rt, bk, ct⟩) ⟨nx, rt, bk, ct⟩ σ H) : tTry1 K cv tbb ts ⟨nx, rt, bk, ct⟩ σ H := h
theorem w_tryN {tbb : WX → TS} {l : List (Value × (Addr → Value → Option Addr → TS))} (h : tbb (wMany K (fun _ _ _ _ => False) ⟨nx, rt, bk, ct⟩ l) ⟨nx, rt, bk, ct⟩ σ H) : tTryN K tbb l ⟨nx, rt, bk, ct⟩ σ H := h
end

local macro_rules | `(tactic| walk_at "sq") => `(tactic| first
  | assumption
  | exact SqT.of (by assumption)
  | exact SqL.of (by assumption)
  | exact SqT.of upd_same
  | exact SqL.of upd_same
  | exact Same.seqT (by assumption) (by assumption)
  | exact Same.seq (by assumption) (by assumption)
  | exact Same.seqT (by assumption) (SqT.of (by assumption))
  | exact Same.seq (by assumption) (SqL.of (by assumption)))
local macro_rules | `(tactic| walk_at "s") => `(tactic| with_reducible first
  | refine w_seq ?_ | refine w_asg ?_ | refine w_gName ?_ | refine w_ret ?_ | refine w_ifS ?_ | refine w_drop ?_ | refine w_par ?_ | refine w_par3 ?_ | refine w_two ?_ | refine w_three ?_
  | refine w_test ?_ | refine w_B ?_ | refine w_not ?_ | refine w_and ?_ | refine w_or ?_ | refine w_andV ?_ | refine w_orV ?_ | refine w_notV ?_ | refine w_if ?_ | refine w_ifT ?_ | refine w_bl ?_ | refine w_blv ?_ | refine w_iteT ?_ | refine w_iteF ?_ | refine w_iteNT ?_ | refine w_iteNF ?_
  | refine w_var (by with_unfolding_all rfl) ?_ | refine w_c ?_ | refine w_op ?_ | refine w_un ?_ | refine w_rU ?_ | refine w_chain ?_
  | refine w_addI ?_ | refine w_subI ?_ | refine w_lt ?_ | refine w_le ?_ | refine w_gt ?_ | refine w_ge ?_ | refine w_eqI ?_ | refine w_neI ?_ | refine w_eqS ?_ | refine w_neS ?_ | refine w_eqB ?_ | refine w_neB ?_ | refine w_isN ?_ | refine w_notN ?_ | refine w_isB ?_ | refine w_notB ?_
  | refine w_cal ?_ | refine w_calS ?_ | refine w_nil ?_ | refine w_cons ?_ | refine w_cb ?_ | refine w_int1 ?_ | refine w_abs ?_ | refine w_min2 ?_ | refine w_ipI ?_ | refine w_gSub ?_
  | refine w_tup ?_ | refine w_lst ?_ | refine w_bm ?_ | refine w_bm0 ?_ | refine w_sl ?_ | refine w_noPart ?_ | refine w_part ?_ | refine w_parti ?_ | refine w_yes ?_ | refine w_raise ?_ | refine w_try1 ?_ | refine w_tryN ?_ | refine w_brk ?_ | refine w_cont ?_ | refine w_retN ?_ | refine w_gNil ?_ | refine w_gCons ?_
  | refine w_fld ?_ | refine w_prp ?_ | refine w_mak ?_ | refine w_makS ?_ | refine w_sFld ?_ | refine w_for ?_ | refine w_lc ?_ | refine w_rng1 ?_ | refine w_rng2 ?_ | refine w_iSeq ?_ | refine w_iEnum ?_ | refine w_met ?_
  | refine w_aug (by with_unfolding_all rfl) ?_
  | refine w_next ?_)
local macro_rules | `(tactic| walk_at "m") => `(tactic| first
  | ((with_reducible show rMulU _ (V.int _) (V.int _) _ _); refine w_mulI (cmul_of (m := 110) (n := 110) (by omega) (by omega)) ?_)
  | ((with_reducible show rModI (V.int _) (V.int _) _ _); refine w_modI (by omega) ?_))
local macro_rules | `(tactic| walk_at "ss") => `(tactic| repeat (first | walk_at "s" | walk_at "m"))
/-! ### any value -/
/-- a value of one of the kinds that the document names, as it stands in H -/
inductive Tag (K : PySem.W.Frag) (H : Hp) : V → Prop
  | non : Tag K H .non
  | bl (b : Bool) : Tag K H (.bl b)
  | int (i : Int) : Tag K H (.int i)
  | str (x : Str) : Tag K H (.str x)
  | lst {a : Addr} {xs : List V} (h : H a = some (.lst xs)) : Tag K H (.ref a)
  | tup {a : Addr} {xs : List V} (h : H a = some (.tup xs)) : Tag K H (.ref a)
  | dK {a : Addr} {kvs : List (Key × V)} (h : H a = some (.dK kvs)) : Tag K H (.ref a)
theorem Tag.mono {K : PySem.W.Frag} {H H' : Hp} {v : V} (e : Same H H') (h : Tag K H v) : Tag K H' v := by
  cases h with
  | non => exact .non
  | bl b => exact .bl b
  | int i => exact .int i
  | str x => exact .str x
  | lst h => exact .lst (e _ _ h)
  | tup h => exact .tup (e _ _ h)
  | dK h => exact .dK (e _ _ h)
/-- its built-in class -/
def tyN (H : Hp) : V → String
  | .non => "NoneType"
  | .bl _ => "bool"
  | .int _ => "int"
  | .str _ => "str"
  | .ref a => match H a with
    | some (.lst _) => "list"
    | some (.tup _) => "tuple"
    | some (.dK _) => "dict"
    | _ => "?"
  | _ => "?"
def tyTab (a n : String) : Bool := a == n || (a == "bool" && n == "int")
def isTy (H : Hp) (n : String) (v : V) : Bool := tyTab (tyN H v) n
def tyNames : List String := ["int", "bool", "str", "tuple", "list", "dict"]
theorem tyTab_all : ∀ a ∈ ["NoneType", "int", "bool", "str", "tuple", "list", "dict"], ∀ n ∈ tyNames, kitB a n = some (tyTab a n) := by decide +kernel
theorem w_isi {K : PySem.W.Frag} {H : Hp} {v : V} {n : String} {Q : VK} (h : Tag K H v) (hn : n ∈ tyNames) (q : Q (.bl (isTy H n v)) H) : rIsi K [v, .ty n] H Q := by
  have key : ∀ (a : String), TyX K H v (.type a) → tyN H v = a → a ∈ ["NoneType", "int", "bool", "str", "tuple", "list", "dict"] → rIsi K [v, .ty n] H Q := fun a t e m => ⟨v, .ty n, .type a, .type n, _, rfl, .ty n, t, kit_ty (tyTab_all a m n hn), by unfold isTy at q; rw [e] at q; exact q⟩
  cases h with
  | non => exact key "NoneType" (.base .non) rfl (by decide)
  | bl b => exact key "bool" (.base (.bl b)) rfl (by decide)
  | int i => exact key "int" (.base (.int i)) rfl (by decide)
  | str x => exact key "str" (.base (.str x)) rfl (by decide)
  | lst h => exact key "list" (.base (.lst h)) (by simp only [tyN, h]) (by decide)
  | tup h => exact key "tuple" (.base (.tup h)) (by simp only [tyN, h]) (by decide)
  | dK h => exact key "dict" (.base (.dK h)) (by simp only [tyN, h]) (by decide)
/-! ### is_integer, is_from -/
def isI : V → Bool
  | .int _ => true
  | _ => false
theorem isI_ty {K : PySem.W.Frag} {H : Hp} {v : V} (h : Tag K H v) : isI v = (isTy H "int" v && !isTy H "bool" v) := by
  cases h with
  | non => simp only [isTy, tyN, isI]; decide
  | bl b => simp only [isTy, tyN, isI]; decide
  | int i => simp only [isTy, tyN, isI]; decide
  | str x => simp only [isTy, tyN, isI]; decide
  | lst h => simp only [isTy, tyN, h, isI]; decide
  | tup h => simp only [isTy, tyN, h, isI]; decide
  | dK h => simp only [isTy, tyN, h, isI]; decide
/-- an int from lo to hi, no bool -/
def inR (lo hi : Int) : V → Bool
  | .int n => decide (lo ≤ n) && decide (n ≤ hi)
  | _ => false
def sp_is_integer (Γ : Gm) : Sp := fun vs H Q _ => ∃ v, vs = [v] ∧ Tag Γ.K H v ∧ Q (.bl (isI v)) H
def sp_is_from (Γ : Gm) : Sp := fun vs H Q _ => ∃ v lo hi, vs = [v, .int lo, .int hi] ∧ Tag Γ.K H v ∧ Q (.bl (inR lo hi v)) H
/-- is_integer: value -/
def t_is_integer (Γ : Gm) : TS := (tRet (tAndV (tCB (rIsi Γ.K) (tCons (tVar 0) (tCons (tC (.ty "int")) tNil))) (tNotV (tCB (rIsi Γ.K) (tCons (tVar 0) (tCons (tC (.ty "bool")) tNil))))))
theorem rd_is_integer (Γ : Gm) (vs : List V) (H : Hp) (Q : VK) (E : XK) (h : sp_is_integer Γ vs H Q E) : t_is_integer Γ ⟨fun _ H' => Q .non H', Q, fun _ _ => False, fun _ _ => False⟩ (startN 1 vs) H := by
  obtain ⟨v, rfl, ht, q⟩ := h
  unfold t_is_integer
  walk_at "ss"
  refine w_isi ht (by decide) ?_
  rw [isI_ty ht] at q
  walk_at "ss"
  refine w_ite (fun e => ?_) (fun e => ?_)
  · walk_at "ss"
    refine w_isi ht (by decide) ?_
    walk_at "ss"
    rw [e] at q
    exact q
  · rw [e] at q
    exact q
/-- is_from: value, low, high -/
def t_is_from (Γ : Gm) : TS := (tRet (tAndV (tCal (sp_is_integer Γ) E0 (tCons (tVar 0) tNil)) (tChain rLe rLe (tVar 1) (tVar 0) (tVar 2))))
theorem rd_is_from (Γ : Gm) (vs : List V) (H : Hp) (Q : VK) (E : XK) (h : sp_is_from Γ vs H Q E) : t_is_from Γ ⟨fun _ H' => Q .non H', Q, fun _ _ => False, fun _ _ => False⟩ (startN 3 vs) H := by
  obtain ⟨v, lo, hi, rfl, ht, q⟩ := h
  unfold t_is_from
  walk_at "ss"
  refine ⟨v, rfl, ht, ?_⟩
  walk_at "ss"
  cases v with
  | int n =>
    rw [if_pos (show isI (V.int n) = true from rfl)]
    walk_at "ss"
    refine w_ite (fun e => ?_) (fun e => ?_)
    · walk_at "ss"
      have e' : decide (lo ≤ n) = true := e
      simp only [inR, e', Bool.true_and] at q
      exact q
    · have e' : decide (lo ≤ n) = false := e
      simp only [inR, e', Bool.false_and] at q
      exact q
  | _ => exact w_iteF q
/-! ### drawing -/
/-- what a source of numbers holds -/
def DS (ns : List Int) : Prop := ∃ (s c : Int) (r : List Int), ns = s :: c :: r ∧ 0 ≤ s ∧ s < 2147483647 ∧ r.length ≤ 63
abbrev dO (d : Addr) : HO := opq DS d
def sp__law_below (Γ : Gm) : Sp := fun vs H Q _ => ∃ (d : Addr) (n : Int), vs = [.ref d, .int n] ∧ H d = some (dO d) ∧ 0 < n ∧ n < 2 ^ 200 ∧ ∀ r : Int, 0 ≤ r → r < n → Q (.int r) H
/-- law_below: _law_d, _law_size, _law_result -/
def t__law_below (Γ : Gm) : TS := tOpen DS (tCut (tIfS (tAnd (tTest (tOp (rEqU Γ.K) (tOp (rIx Γ.K) (tVar 0) (tC (.int 1))) (tC (.int 0)))) (tTest (tOp rGt (tCB (rLen Γ.K) (tCons (tVar 0) tNil)) (tC (.int 2))))) (tAsg (tBM Γ.K "list" rPopAt (tVar 0) (tCons (tC (.int 2)) tNil)) (gSub (tVar 0) (tC (.int 1)) rSetL)) tNext)
  (tSeq (tIfS (tTest (tOp rGt (tOp (rIx Γ.K) (tVar 0) (tC (.int 1))) (tC (.int 0)))) (tSeq (tAsg (tOp rModI (tCB rInt1 (tCons (tOp (rIx Γ.K) (tVar 0) (tC (.int 1))) tNil)) (tVar 1)) (gName 2))
  (tSeq (tAsg (tOp rDivI (tOp (rIx Γ.K) (tVar 0) (tC (.int 1))) (tVar 1)) (gSub (tVar 0) (tC (.int 1)) rSetL))
  (tRet (tVar 2)))) tNext)
  (tSeq (tAsg (tOp rModI (tCB rInt1 (tCons (tOp (rAddU Γ.K) (tOp (rMulU Γ.K) (tOp (rIx Γ.K) (tVar 0) (tC (.int 0))) (tC (.int 48271))) (tC (.int 11))) tNil)) (tC (.int 2147483647))) (gSub (tVar 0) (tC (.int 0)) rSetL))
  (tRet (tOp rModI (tCB rInt1 (tCons (tOp rDivI (tOp (rIx Γ.K) (tVar 0) (tC (.int 0))) (tC (.int 64))) tNil)) (tVar 1))))))
theorem upd_back {H : Hp} {d : Addr} {o u : HO} (h : H d = some o) : upd (upd H d u) d o = H := by
  rw [upd_upd]
  funext b
  unfold upd
  split
  · rename_i e; rw [e, h]
  · rfl
theorem atI0 {α : Type} (a : α) (l : List α) : atI (a :: l) 0 = some a := by simp [atI, ixN]
theorem atI1 {α : Type} (a b : α) (l : List α) : atI (a :: b :: l) 1 = some b := by
  unfold atI ixN
  rw [if_pos (by decide), if_pos (by simp only [List.length_cons]; omega)]
  rfl
theorem ixN0 (n : Nat) : ixN (n + 1) 0 = some 0 := by
  unfold ixN
  rw [if_pos (by decide), if_pos (by omega)]
  rfl
theorem ixN1 (n : Nat) : ixN (n + 1 + 1) 1 = some 1 := by
  unfold ixN
  rw [if_pos (by decide), if_pos (by omega)]
  rfl
theorem log_of {n : Int} {k : Nat} (h : n.natAbs < 2 ^ k) : n.natAbs.log2 < k + 1 := by
  by_cases z : n.natAbs = 0
  · rw [z]; simp
  · have := (Nat.log2_lt z).mpr h
    omega
theorem rd__law_below (Γ : Gm) (vs : List V) (H : Hp) (Q : VK) (E : XK) (h : sp__law_below Γ vs H Q E) : t__law_below Γ ⟨fun _ H' => Q .non H', Q, fun _ _ => False, fun _ _ => False⟩ (startN 3 vs) H := by
  obtain ⟨d, n, rfl, hd, hn, hn2, k⟩ := h
  refine ⟨d, hd, ?_⟩
  rintro _ ⟨s, c, r, rfl, hs, hs2, hr⟩
  have fin : ∀ (H1 : Hp) (v : Int) (ns : List Int), (∀ o, upd H1 d o = upd H d o) → H1 d = some (.lst (ns.map V.int)) → DS ns → 0 ≤ v → v < n → (shutE DS d ⟨fun _ H' => Q .non H', Q, fun _ _ => False, fun _ _ => False⟩).rt (.int v) H1 := fun H1 v ns e1 e2 e3 h1 h2 => by
    refine ⟨ns, e3, e2, ?_⟩
    rw [e1]
    have e4 : upd H d (dO d) = H := by
      have := upd_back (u := dO d) hd
      rwa [upd_upd] at this
    rw [e4]
    exact k v h1 h2
  have two : ∀ (c : Int) (r : List Int) (H1 : Hp), r.length ≤ 63 → H1 d = some (.lst ((s :: c :: r).map V.int)) → (∀ o, upd H1 d o = upd H d o) →
      (tSeq (tIfS (tTest (tOp rGt (tOp (rIx Γ.K) (tVar 0) (tC (.int 1))) (tC (.int 0)))) (tSeq (tAsg (tOp rModI (tCB rInt1 (tCons (tOp (rIx Γ.K) (tVar 0) (tC (.int 1))) tNil)) (tVar 1)) (gName 2))
  (tSeq (tAsg (tOp rDivI (tOp (rIx Γ.K) (tVar 0) (tC (.int 1))) (tVar 1)) (gSub (tVar 0) (tC (.int 1)) rSetL))
  (tRet (tVar 2)))) tNext)
  (tSeq (tAsg (tOp rModI (tCB rInt1 (tCons (tOp (rAddU Γ.K) (tOp (rMulU Γ.K) (tOp (rIx Γ.K) (tVar 0) (tC (.int 0))) (tC (.int 48271))) (tC (.int 11))) tNil)) (tC (.int 2147483647))) (gSub (tVar 0) (tC (.int 0)) rSetL))
  (tRet (tOp rModI (tCB rInt1 (tCons (tOp rDivI (tOp (rIx Γ.K) (tVar 0) (tC (.int 0))) (tC (.int 64))) tNil)) (tVar 1))))) (shutE DS d ⟨fun _ H' => Q .non H', Q, fun _ _ => False, fun _ _ => False⟩) (startN 3 [.ref d, .int n]) H1 := fun c r H1 hr hH hB => by
    unfold shutE
    walk_at "ss"
    refine w_ixL (SqL.of hH) (atI1 _ _ _) ?_
    walk_at "ss"
    refine w_ite (fun e => ?_) (fun e => ?_)
    · walk_at "ss"
      refine w_ixL (SqL.of hH) (atI1 _ _ _) ?_
      walk_at "ss"
      refine w_ixL (SqL.of hH) (atI1 _ _ _) ?_
      walk_at "ss"
      refine w_divI ⟨hn, by have := log_of (n := n) (k := 200) (by omega); omega⟩ ?_
      walk_at "ss"
      refine w_setL hH (ixN1 _) ?_
      walk_at "ss"
      refine fin _ (c % n) (s :: (c / n) :: r) (fun o => by rw [upd_upd]; exact hB o) (by rw [upd_same]; rfl) ⟨s, c / n, r, rfl, hs, hs2, hr⟩ (Int.emod_nonneg _ (by omega)) (Int.emod_lt_of_pos _ hn)
    · walk_at "ss"
      refine w_ixL (SqL.of hH) (atI0 _ _) ?_
      walk_at "ss"
      refine w_setL hH (ixN0 _) ?_
      walk_at "ss"
      refine w_ixL (SqL.of upd_same) (atI0 _ _) ?_
      walk_at "ss"
      refine w_divI ⟨by decide, by decide +kernel⟩ ?_
      walk_at "ss"
      refine fin _ _ ((s * 48271 + 11) % 2147483647 :: c :: r) (fun o => by rw [upd_upd]; exact hB o) (by rw [upd_same]; rfl) ⟨_, c, r, rfl, Int.emod_nonneg _ (by decide), Int.emod_lt_of_pos _ (by decide), hr⟩ (Int.emod_nonneg _ (by omega)) (Int.emod_lt_of_pos _ hn)
  unfold shutE
  refine w_thru ?_
  walk_at "ss"
  refine w_ixL (SqL.of upd_same) (atI1 _ _ _) ?_
  walk_at "ss"
  refine w_ite (fun e => ?_) (fun e => ?_)
  · walk_at "ss"
    refine w_lenL (SqL.of upd_same) ?_
    walk_at "ss"
    refine w_ite (fun e2 => ?_) (fun e2 => ?_)
    · have hl : ∃ c' r', r = c' :: r' := by
        cases r with
        | nil => simp at e2
        | cons a b => exact ⟨a, b, rfl⟩
      obtain ⟨c', r', rfl⟩ := hl
      walk_at "ss"
      refine w_tyL upd_same ?_
      walk_at "ss"
      refine ⟨d, _, 2, 2, .int c', rfl, rfl, upd_same, by decide, by decide, ?_, rfl, ?_⟩
      · simp [seqIndex?]
        omega
      walk_at "ss"
      refine w_setL upd_same (ixN1 _) ?_
      refine two c' r' _ (by simp only [List.length_cons] at hr; omega) (by rw [upd_same]; rfl) (fun o => by rw [upd_upd, upd_upd, upd_upd])
    · exact two c r _ hr upd_same (fun o => by rw [upd_upd])
  · exact two c r _ hr upd_same (fun o => by rw [upd_upd])

/-! ### data made of tuples -/
mutual
inductive Tp (H : Hp) : V → PyData → Prop
  | non : Tp H .non .none
  | bl (b : Bool) : Tp H (.bl b) (.bool b)
  | int (i : Int) : Tp H (.int i) (.int i)
  | str (x : Str) : Tp H (.str x) (.str x)
  | tup {a : Addr} {xs : List V} {ds : List PyData} : H a = some (.tup xs) → TpAll H xs ds → Tp H (.ref a) (.tuple ds)
inductive TpAll (H : Hp) : List V → List PyData → Prop
  | nil : TpAll H [] []
  | cons {v : V} {vs : List V} {d : PyData} {ds : List PyData} : Tp H v d → TpAll H vs ds → TpAll H (v :: vs) (d :: ds)
end
/-- the tuples stand -/
def Tups (H H' : Hp) : Prop := ∀ a xs, H a = some (.tup xs) → H' a = some (.tup xs)
theorem _root_.L2.Same.tups {H H' : Hp} (e : Same H H') : Tups H H' := fun a xs h => e a _ h
theorem Tups.upd {H H' : Hp} {l : Addr} {o : HO} (e : Tups H H') (h : ∀ xs, H' l ≠ some (.tup xs)) : Tups H (upd H' l o) := fun a xs q => by
  have q' := e a xs q
  rw [upd_ne (fun z => h xs (by rw [← z]; exact q'))]
  exact q'
theorem Tups.trans {H H1 H2 : Hp} (a : Tups H H1) (b : Tups H1 H2) : Tups H H2 := fun x xs h => b x xs (a x xs h)
mutual
theorem Tp.mono {H H' : Hp} (e : Tups H H') : ∀ {v : V} {d : PyData}, Tp H v d → Tp H' v d
  | _, _, .non => .non
  | _, _, .bl b => .bl b
  | _, _, .int i => .int i
  | _, _, .str x => .str x
  | _, _, .tup h k => .tup (e _ _ h) (TpAll.mono e k)
theorem TpAll.mono {H H' : Hp} (e : Tups H H') : ∀ {vs : List V} {ds : List PyData}, TpAll H vs ds → TpAll H' vs ds
  | _, _, .nil => .nil
  | _, _, .cons h k => .cons (Tp.mono e h) (TpAll.mono e k)
end
mutual
theorem Tp.dp {K : PySem.W.Frag} {H : Hp} : ∀ {v : V} {d : PyData}, Tp H v d → Dp K H v d
  | _, _, .non => .non
  | _, _, .bl b => .bl b
  | _, _, .int i => .int i
  | _, _, .str x => .str x
  | _, _, .tup h k => .tup (SqT.of h) (TpAll.dp k)
theorem TpAll.dp {K : PySem.W.Frag} {H : Hp} : ∀ {vs : List V} {ds : List PyData}, TpAll H vs ds → DpAll K H vs ds
  | _, _, .nil => .nil
  | _, _, .cons h k => .cons (Tp.dp h) (TpAll.dp k)
end
theorem TpAll.length {H : Hp} : ∀ {vs : List V} {ds : List PyData}, TpAll H vs ds → vs.length = ds.length
  | _, _, .nil => rfl
  | _, _, .cons _ k => by rw [List.length_cons, List.length_cons, TpAll.length k]
theorem TpAll.get {H : Hp} : ∀ {vs : List V} {ds : List PyData} {i : Nat} {d : PyData}, TpAll H vs ds → ds[i]? = some d → ∃ v, vs[i]? = some v ∧ Tp H v d
  | _, _, _, _, .nil, e => by simp at e
  | _, _, 0, _, .cons h _, e => by simp at e; subst e; exact ⟨_, rfl, h⟩
  | _, _, i + 1, _, .cons _ k, e => by
    obtain ⟨v, h1, h2⟩ := TpAll.get (i := i) k (by simpa using e)
    exact ⟨v, by simpa using h1, h2⟩
theorem TpAll.get' {H : Hp} : ∀ {vs : List V} {ds : List PyData} {i : Nat} {v : V}, TpAll H vs ds → vs[i]? = some v → ∃ d, ds[i]? = some d ∧ Tp H v d
  | _, _, _, _, .nil, e => by simp at e
  | _, _, 0, _, .cons h _, e => by simp at e; subst e; exact ⟨_, rfl, h⟩
  | _, _, i + 1, _, .cons _ k, e => by
    obtain ⟨v, h1, h2⟩ := TpAll.get' (i := i) k (by simpa using e)
    exact ⟨v, by simpa using h1, h2⟩
theorem TpAll.ints {H : Hp} : ∀ {vs : List V} {ns : List Int}, TpAll H vs (ns.map PyData.int) → vs = ns.map V.int
  | _, [], .nil => rfl
  | _, n :: ns, .cons h k => by
    cases h
    rw [List.map_cons, TpAll.ints k]
theorem TpAll.of_ints (H : Hp) : ∀ (ns : List Int), TpAll H (ns.map V.int) (ns.map PyData.int)
  | [] => .nil
  | n :: ns => .cons (.int n) (TpAll.of_ints H ns)
theorem TpAll.append {H : Hp} : ∀ {vs ws : List V} {ds es : List PyData}, TpAll H vs ds → TpAll H ws es → TpAll H (vs ++ ws) (ds ++ es)
  | _, _, _, _, .nil, k => k
  | _, _, _, _, .cons h k, q => .cons h (TpAll.append k q)
theorem Tp.inv {H : Hp} {v : V} {ds : List PyData} (h : Tp H v (.tuple ds)) : ∃ a xs, v = .ref a ∧ H a = some (.tup xs) ∧ TpAll H xs ds := by
  cases h with
  | tup h k => exact ⟨_, _, rfl, h, k⟩
theorem Tp.tag {K : PySem.W.Frag} {H : Hp} {v : V} {d : PyData} (h : Tp H v d) : Tag K H v := by
  cases h with
  | non => exact .non
  | bl b => exact .bl b
  | int i => exact .int i
  | str x => exact .str x
  | tup h k => exact .tup h
/-! ### rules -/
inductive R where
  | tab (rows : List (List Int))
  | trm (ts : List (Int × Nat × Nat))
abbrev tri (t : Int × Nat × Nat) : List Int := [t.1, (t.2.1 : Int), (t.2.2 : Int)]
def R.body : R → PyData
  | .tab rows => .tuple (rows.map fun r => .tuple (r.map PyData.int))
  | .trm ts => .tuple (ts.map fun t => .tuple ((tri t).map PyData.int))
def R.kind : R → Str
  | .tab _ => "table"
  | .trm _ => "terms"
def R.top : R → Int
  | .tab rows => (rows.length : Int) + 1
  | .trm _ => 1000000000000000000000000000000
def R.pts (r : R) (a b : Int) : Int := match r with
  | .tab rows => (rows.getD (a - 1).toNat []).getD (b - 1).toNat 0
  | .trm ts => (ts.map fun t => t.1 * a ^ t.2.1 * b ^ t.2.2).sum
/-- the rules that are -/
def R.ok : R → Prop
  | .tab rows => 1 ≤ rows.length ∧ rows.length < 40 ∧ ∀ i r, rows[i]? = some r → r.length = rows.length - i ∧ ∀ n ∈ r, -1000000 ≤ n ∧ n ≤ 1000000
  | .trm ts => ts.length ≤ 6 ∧ ∀ t ∈ ts, -1000000 ≤ t.1 ∧ t.1 ≤ 1000000 ∧ t.2.1 ≤ 4 ∧ t.2.2 ≤ 4
def rfl2 (s : Str) (b : Addr) : List (Str × V) := putF "body" (.ref b) (putF "form" (.str s) [])
theorem fb : ¬ (("form" : Str) = "body") := by decide +kernel
theorem rfl2_form (s : Str) (b : Addr) : (rfl2 s b).lookup ("form" : Str) = some (.str s) := by
  unfold rfl2
  rw [lookup_putF, if_neg fb, lookup_putF, if_pos rfl]
theorem rfl2_body (s : Str) (b : Addr) : (rfl2 s b).lookup ("body" : Str) = some (.ref b) := by
  unfold rfl2
  rw [lookup_putF, if_pos rfl]
/-- a rule's object -/
def RuleAt (Γ : Gm) (H : Hp) (v : V) (r : R) : Prop := ∃ p dx b, v = .ref p ∧ H p = some (.ins Γ.cRule dx (rfl2 r.kind b)) ∧ Tp H (.ref b) r.body ∧ r.ok
theorem RuleAt.mono {Γ : Gm} {H H' : Hp} {v : V} {r : R} (e : Same H H') (h : RuleAt Γ H v r) : RuleAt Γ H' v r := by
  obtain ⟨p, dx, b, h1, h2, h3, h4⟩ := h
  exact ⟨p, dx, b, h1, e _ _ h2, h3.mono (Same.tups e), h4⟩
/-- what is asked of the class Rule -/
structure RuleF (Γ : Gm) : Prop where
  cl : Cls Γ.K Γ.cRule
  nF : NoAttr Γ.K Γ.cRule "form"
  nB : NoAttr Γ.K Γ.cRule "body"
theorem w_form {Γ : Gm} (F : RuleF Γ) {H : Hp} {v : V} {r : R} {Q : VK} (h : RuleAt Γ H v r) (q : Q (.str r.kind) H) : rFld Γ.K "form" v H Q := by
  obtain ⟨p, dx, b, rfl, h2, h3, h4⟩ := h
  exact ⟨p, _, dx, _, _, rfl, h2, F.cl, F.nF, rfl2_form _ _, q⟩
theorem w_body {Γ : Gm} (F : RuleF Γ) {H : Hp} {v : V} {r : R} {Q : VK} (h : RuleAt Γ H v r) (q : ∀ b xs, H b = some (.tup xs) → Tp H (.ref b) r.body → Q (.ref b) H) : rFld Γ.K "body" v H Q := by
  obtain ⟨p, dx, b, rfl, h2, h3, h4⟩ := h
  refine ⟨p, _, dx, _, _, rfl, h2, F.cl, F.nB, rfl2_body _ _, ?_⟩
  cases r <;> (cases h3 with | tup h k => exact q b _ h (.tup h k))
theorem kind_tab (r : R) : decide (r.kind = ("table" : Str)) = match r with | .tab _ => true | .trm _ => false := by
  cases r with
  | tab _ => exact decide_eq_true rfl
  | trm _ => exact decide_eq_false (show ¬ ("terms" : Str) = "table" from by decide +kernel)
/-! ### most_of, raised, points_by, check_heap -/
def sp_most_of (Γ : Gm) : Sp := fun vs H Q _ => ∃ v r, vs = [v] ∧ RuleAt Γ H v r ∧ Q (.int r.top) H
/-- most_of: rule -/
def t_most_of (Γ : Gm) : TS := (tRet (tIf (tTest (tOp (rEqU Γ.K) (tFld Γ.K (tVar 0) "form") (tC (.str "table")))) (tOp (rAddU Γ.K) (tCB (rLen Γ.K) (tCons (tFld Γ.K (tVar 0) "body") tNil)) (tC (.int 1))) (tC (.int 1000000000000000000000000000000))))
theorem rd_most_of (Γ : Gm) (F : RuleF Γ) (vs : List V) (H : Hp) (Q : VK) (E : XK) (h : sp_most_of Γ vs H Q E) : t_most_of Γ ⟨fun _ H' => Q .non H', Q, fun _ _ => False, fun _ _ => False⟩ (startN 1 vs) H := by
  obtain ⟨v, r, rfl, hr, q⟩ := h
  unfold t_most_of
  walk_at "ss"
  refine w_form F hr ?_
  walk_at "ss"
  rw [kind_tab]
  cases r with
  | tab rows =>
    refine w_iteT ?_
    walk_at "ss"
    refine w_body F hr fun b xs hb ht => ?_
    walk_at "ss"
    refine w_lenT (SqT.of hb) ?_
    walk_at "ss"
    obtain ⟨a, ys, e1, e2, e3⟩ := ht.inv
    cases e1
    rw [hb] at e2
    cases e2
    rw [e3.length, List.length_map]
    exact q
  | trm ts =>
    refine w_iteF ?_
    walk_at "ss"
    exact q
def sp_raised (Γ : Gm) : Sp := fun vs H Q _ => ∃ (b : Int) (k : Nat), vs = [.int b, .int k] ∧ k ≤ 4 ∧ b.natAbs < 2 ^ 110 ∧ Q (.int (b ^ k)) H
def rg (j : Int) : Prop := -(2 ^ 62) ≤ j ∧ j < 2 ^ 62
/-- raised: base, exponent, found, lap -/
def t_raised (Γ : Gm) : TS := (tSeq (tAsg (tC (.int 1)) (gName 2))
  (tSeq (tFor (iRng1 (tCons (tVar 1) tNil)) (gName 3) (tAsg (tOp (rMulU Γ.K) (tVar 2) (tVar 0)) (gName 2)))
  (tRet (tVar 2))))
theorem rd_raised (Γ : Gm) (vs : List V) (H : Hp) (Q : VK) (E : XK) (h : sp_raised Γ vs H Q E) : t_raised Γ ⟨fun _ H' => Q .non H', Q, fun _ _ => False, fun _ _ => False⟩ (startN 4 vs) H := by
  obtain ⟨b, k, rfl, hk, hb, q⟩ := h
  unfold t_raised
  walk_at "ss"
  refine k_rng1 (by omega) ?_
  refine k_range (fun i σ H' => ∃ x, σ = [some (.int b), some (.int k), some (.int (b ^ i)), x] ∧ H' = H) ⟨none, by rw [Int.pow_zero]; rfl, rfl⟩ ?_ ?_
  · rintro i σ H' hi ⟨x, rfl, rfl⟩
    have hi' : i < k := by simpa using hi
    walk_at "ss"
    refine w_mulI (cmul_of (pow_nat (k := i) (Nat.le_of_lt hb)) (Nat.le_of_lt hb) (by have : 110 * i ≤ 110 * 4 := Nat.mul_le_mul_left _ (by omega); omega)) ?_
    walk_at "ss"
    exact ⟨_, by rw [Int.pow_succ]; rfl, rfl⟩
  · rintro σ H' ⟨x, rfl, rfl⟩
    walk_at "ss"
    simpa using q
def sp_points_by (Γ : Gm) : Sp := fun vs H Q _ => ∃ v r a b, vs = [v, .int a, .int b] ∧ RuleAt Γ H v r ∧ 1 ≤ a ∧ 1 ≤ b ∧ a + b ≤ r.top ∧ ∀ H', Same H H' → Q (.int (r.pts a b)) H'
theorem atI_of {α : Type} {l : List α} {i : Int} {x : α} (h0 : 0 ≤ i) (h : l[i.toNat]? = some x) : atI l i = some x := by
  unfold atI ixN
  have : i.toNat < l.length := (List.getElem?_eq_some_iff.mp h).1
  rw [if_pos h0, if_pos (by omega)]
  exact h
theorem tab_at {rows : List (List Int)} {a b : Int} (ok : (R.tab rows).ok) (ha : 1 ≤ a) (hb : 1 ≤ b) (hs : a + b ≤ (R.tab rows).top) : ∃ r, rows[(a - 1).toNat]? = some r ∧ r[(b - 1).toNat]? = some ((R.tab rows).pts a b) := by
  obtain ⟨h1, h2, h3⟩ := ok
  have hs' : a + b ≤ (rows.length : Int) + 1 := hs
  have hi : (a - 1).toNat < rows.length := by omega
  have e := List.getElem?_eq_getElem hi
  refine ⟨_, e, ?_⟩
  obtain ⟨hl, _⟩ := h3 _ _ e
  have hj : (b - 1).toNat < (rows[(a - 1).toNat]).length := by omega
  show _ = some ((rows.getD (a - 1).toNat []).getD (b - 1).toNat 0)
  rw [List.getD_eq_getElem?_getD, List.getD_eq_getElem?_getD, e]
  show _ = some ((rows[(a - 1).toNat][(b - 1).toNat]?).getD 0)
  rw [List.getElem?_eq_getElem hj]
  rfl
def tval (a b : Int) (t : Int × Nat × Nat) : Int := t.1 * a ^ t.2.1 * b ^ t.2.2
theorem take_succ {α : Type} {l : List α} {i : Nat} {x : α} (h : l[i]? = some x) : l.take (i + 1) = l.take i ++ [x] := by
  rw [List.take_succ, h]
  rfl
/-- points_by: rule, first, second, number, one, other -/
def t_points_by (Γ : Gm) : TS := (tSeq (tIfS (tTest (tOp (rEqU Γ.K) (tFld Γ.K (tVar 0) "form") (tC (.str "table")))) (tRet (tOp (rIx Γ.K) (tOp (rIx Γ.K) (tFld Γ.K (tVar 0) "body") (tOp rSubI (tVar 1) (tC (.int 1)))) (tOp rSubI (tVar 2) (tC (.int 1))))) tNext)
  (tRet (tCB (rSum Γ.K) (tCons (tLc (iSeq Γ.K (tFld Γ.K (tVar 0) "body")) (gTup Γ.K 3 (gCons (gName 3) (gCons (gName 4) (gCons (gName 5) gNil)))) tYes (tOp (rMulU Γ.K) (tOp (rMulU Γ.K) (tVar 3) (tCal (sp_raised Γ) E0 (tCons (tVar 1) (tCons (tVar 4) tNil)))) (tCal (sp_raised Γ) E0 (tCons (tVar 2) (tCons (tVar 5) tNil)))) [3, 4, 5]) tNil))))
theorem rd_points_by (Γ : Gm) (F : RuleF Γ) (vs : List V) (H : Hp) (Q : VK) (E : XK) (h : sp_points_by Γ vs H Q E) : t_points_by Γ ⟨fun _ H' => Q .non H', Q, fun _ _ => False, fun _ _ => False⟩ (startN 6 vs) H := by
  obtain ⟨v, r, a, b, rfl, hr, ha, hb, hs, q⟩ := h
  unfold t_points_by
  walk_at "ss"
  refine w_form F hr ?_
  walk_at "ss"
  rw [kind_tab]
  have hok : r.ok := by obtain ⟨_, _, _, _, _, _, h⟩ := hr; exact h
  cases r with
  | tab rows =>
    refine w_iteT ?_
    walk_at "ss"
    refine w_body F hr fun bb xs hx ht => ?_
    obtain ⟨row, e1, e2⟩ := tab_at hok ha hb hs
    obtain ⟨a', ys, z1, z2, z3⟩ := ht.inv
    cases z1
    rw [hx] at z2
    cases z2
    obtain ⟨w, hw, tw⟩ := z3.get (i := (a - 1).toNat) (d := .tuple (row.map PyData.int)) (by rw [List.getElem?_map, e1]; rfl)
    obtain ⟨c, zs, rfl, hc, tc⟩ := tw.inv
    walk_at "ss"
    refine w_ixT (SqT.of hx) (atI_of (by omega) hw) ?_
    walk_at "ss"
    have ez := tc.ints
    subst ez
    refine w_ixT (SqT.of hc) (atI_of (by omega) (by rw [List.getElem?_map, e2]; rfl)) ?_
    exact q H (Same.refl H)
  | trm ts =>
    refine w_iteF ?_
    walk_at "ss"
    refine w_body F hr fun bb xs hx ht => ?_
    obtain ⟨a', ys, z1, z2, z3⟩ := ht.inv
    cases z1
    rw [hx] at z2
    cases z2
    refine k_seqT (SqT.of hx) ?_
    have hlen : xs.length = ts.length := by rw [z3.length, List.length_map]
    refine k_lcTup (fun i acc H' => acc = ((ts.take i).map (fun t => V.int (tval a b t)))) (SqT.of hx) (fun _ _ => rfl) ?_ ?_
    · rintro i x D acc H' hi hD e ha' rfl
      obtain ⟨d, hd, tx⟩ := z3.get' hi
      rw [List.getElem?_map] at hd
      obtain ⟨t, ht', rfl⟩ := Option.map_eq_some_iff.mp hd
      obtain ⟨c, zs, rfl, hc, tc⟩ := tx.inv
      have ez := tc.ints
      subst ez
      obtain ⟨n, i1, j1⟩ := t
      refine w_gTup (xs := [V.int n, V.int i1, V.int j1]) (SqT.of (e _ _ hc)) rfl ?_
      walk_at "ss"
      refine ⟨rfl, ?_⟩
      obtain ⟨hl6, hb6⟩ := hok
      have hm := hb6 _ (List.mem_of_getElem? ht')
      dsimp only at hm
      have top : a + b ≤ 1000000000000000000000000000000 := hs
      have ba : a.natAbs ≤ 2 ^ 100 := by omega
      have bb' : b.natAbs ≤ 2 ^ 100 := by omega
      walk_at "ss"
      refine ⟨a, i1, rfl, hm.2.2.1, by omega, ?_⟩
      have k1 : 100 * i1 ≤ 100 * 4 := Nat.mul_le_mul_left _ hm.2.2.1
      have k2 : 100 * j1 ≤ 100 * 4 := Nat.mul_le_mul_left _ hm.2.2.2
      have n1 : n.natAbs ≤ 2 ^ 20 := by omega
      refine w_mulI (cmul_of n1 (pow_nat ba)) ?_
      walk_at "ss"
      refine ⟨b, j1, rfl, hm.2.2.2, by omega, ?_⟩
      refine w_mulI (cmul_of (mul_nat n1 (pow_nat ba)) (pow_nat bb')) ?_
      refine lcTurn.mk hD e ha' (by rw [List.length_map, List.length_take]; omega) ?_
      rw [take_succ ht', List.map_append]
      rfl
    · rintro D acc H' hD e hacc rfl
      walk_at "ss"
      rw [hlen, List.take_length] at hacc
      refine w_sum (ns := ts.map (tval a b)) (SqL.of (by rw [List.map_map]; exact hacc)) ?_
      exact q H' e

/-! ### any values, as data -/
mutual
inductive Dv (H : Hp) : V → PyData → Prop
  | non : Dv H .non .none
  | bl (b : Bool) : Dv H (.bl b) (.bool b)
  | int (i : Int) : Dv H (.int i) (.int i)
  | str (x : Str) : Dv H (.str x) (.str x)
  | lst {a : Addr} {xs : List V} {ds : List PyData} : H a = some (.lst xs) → DvAll H xs ds → Dv H (.ref a) (.list ds)
  | tup {a : Addr} {xs : List V} {ds : List PyData} : H a = some (.tup xs) → DvAll H xs ds → Dv H (.ref a) (.tuple ds)
  | dict {a : Addr} {kvs : List (Key × V)} : H a = some (.dK kvs) → Dv H (.ref a) (.dict [])
inductive DvAll (H : Hp) : List V → List PyData → Prop
  | nil : DvAll H [] []
  | cons {v : V} {vs : List V} {d : PyData} {ds : List PyData} : Dv H v d → DvAll H vs ds → DvAll H (v :: vs) (d :: ds)
end
mutual
theorem Dv.mono {H H' : Hp} (e : Same H H') : ∀ {v : V} {d : PyData}, Dv H v d → Dv H' v d
  | _, _, .non => .non
  | _, _, .bl b => .bl b
  | _, _, .int i => .int i
  | _, _, .str x => .str x
  | _, _, .lst h k => .lst (e _ _ h) (DvAll.mono e k)
  | _, _, .tup h k => .tup (e _ _ h) (DvAll.mono e k)
  | _, _, .dict h => .dict (e _ _ h)
theorem DvAll.mono {H H' : Hp} (e : Same H H') : ∀ {vs : List V} {ds : List PyData}, DvAll H vs ds → DvAll H' vs ds
  | _, _, .nil => .nil
  | _, _, .cons h k => .cons (Dv.mono e h) (DvAll.mono e k)
end
mutual
theorem Tp.dv {H : Hp} : ∀ {v : V} {d : PyData}, Tp H v d → Dv H v d
  | _, _, .non => .non
  | _, _, .bl b => .bl b
  | _, _, .int i => .int i
  | _, _, .str x => .str x
  | _, _, .tup h k => .tup h (TpAll.dv k)
theorem TpAll.dv {H : Hp} : ∀ {vs : List V} {ds : List PyData}, TpAll H vs ds → DvAll H vs ds
  | _, _, .nil => .nil
  | _, _, .cons h k => .cons (Tp.dv h) (TpAll.dv k)
end
theorem DvAll.length {H : Hp} : ∀ {vs : List V} {ds : List PyData}, DvAll H vs ds → vs.length = ds.length
  | _, _, .nil => rfl
  | _, _, .cons _ k => by rw [List.length_cons, List.length_cons, DvAll.length k]
theorem DvAll.get {H : Hp} : ∀ {vs : List V} {ds : List PyData} {i : Nat} {d : PyData}, DvAll H vs ds → ds[i]? = some d → ∃ v, vs[i]? = some v ∧ Dv H v d
  | _, _, _, _, .nil, e => by simp at e
  | _, _, 0, _, .cons h _, e => by simp at e; subst e; exact ⟨_, rfl, h⟩
  | _, _, i + 1, _, .cons _ k, e => by
    obtain ⟨v, h1, h2⟩ := DvAll.get (i := i) k (by simpa using e)
    exact ⟨v, by simpa using h1, h2⟩
theorem DvAll.get' {H : Hp} : ∀ {vs : List V} {ds : List PyData} {i : Nat} {v : V}, DvAll H vs ds → vs[i]? = some v → ∃ d, ds[i]? = some d ∧ Dv H v d
  | _, _, _, _, .nil, e => by simp at e
  | _, _, 0, _, .cons h _, e => by simp at e; subst e; exact ⟨_, rfl, h⟩
  | _, _, i + 1, _, .cons _ k, e => by
    obtain ⟨v, h1, h2⟩ := DvAll.get' (i := i) k (by simpa using e)
    exact ⟨v, by simpa using h1, h2⟩
theorem Dv.tag {K : PySem.W.Frag} {H : Hp} {v : V} {d : PyData} (h : Dv H v d) : Tag K H v := by
  cases h with
  | non => exact .non
  | bl b => exact .bl b
  | int i => exact .int i
  | str x => exact .str x
  | lst h k => exact .lst h
  | tup h k => exact .tup h
  | dict h => exact .dK h
def tyD : PyData → String
  | .none => "NoneType"
  | .bool _ => "bool"
  | .int _ => "int"
  | .str _ => "str"
  | .list _ => "list"
  | .tuple _ => "tuple"
  | .dict _ => "dict"
theorem Dv.ty {H : Hp} {v : V} {d : PyData} (h : Dv H v d) (n : String) : isTy H n v = tyTab (tyD d) n := by
  cases h <;> simp only [isTy, tyN, tyD, *]
def inD (lo hi : Int) : PyData → Bool
  | .int n => decide (lo ≤ n) && decide (n ≤ hi)
  | _ => false
theorem Dv.inR {H : Hp} {v : V} {d : PyData} (h : Dv H v d) (lo hi : Int) : inR lo hi v = inD lo hi d := by cases h <;> rfl
theorem Dv.tupInv {H : Hp} {v : V} {ds : List PyData} (h : Dv H v (.tuple ds)) : ∃ a xs, v = .ref a ∧ H a = some (.tup xs) ∧ DvAll H xs ds := by
  cases h with
  | tup h k => exact ⟨_, _, rfl, h, k⟩
/-! ### what are rows, terms, rules -/
def rowOk (n i : Nat) : PyData → Bool
  | .tuple es => decide (es.length = n - i) && es.all (inD (-1000000) 1000000)
  | _ => false
def areRows : PyData → Bool
  | .tuple ds => decide (1 ≤ ds.length) && decide (ds.length < 40) && (List.range ds.length).all fun i => rowOk ds.length i (ds.getD i .none)
  | _ => false
def isTerm : PyData → Bool
  | .tuple [a, b, c] => inD (-1000000) 1000000 a && inD 0 4 b && inD 0 4 c
  | _ => false
def areTerms : PyData → Bool
  | .tuple ds => decide (ds.length ≤ 6) && ds.all isTerm
  | _ => false
def intD : PyData → Int
  | .int n => n
  | _ => 0
def intsD : PyData → List Int
  | .tuple es => es.map intD
  | _ => []
def rowsD : PyData → List (List Int)
  | .tuple ds => ds.map intsD
  | _ => []
def termD (d : PyData) : Int × Nat × Nat := ((intsD d).getD 0 0, ((intsD d).getD 1 0).toNat, ((intsD d).getD 2 0).toNat)
def termsD : PyData → List (Int × Nat × Nat)
  | .tuple ds => ds.map termD
  | _ => []
theorem ints_back {lo hi : Int} : ∀ {es : List PyData}, es.all (inD lo hi) = true → es = (es.map intD).map PyData.int ∧ ∀ n ∈ es.map intD, lo ≤ n ∧ n ≤ hi
  | [], _ => ⟨rfl, fun _ h => nomatch h⟩
  | e :: es, h => by
    rw [List.all_cons, Bool.and_eq_true] at h
    obtain ⟨h1, h2⟩ := h
    obtain ⟨i1, i2⟩ := ints_back h2
    cases e with
    | int n =>
      simp only [inD, Bool.and_eq_true, decide_eq_true_eq] at h1
      refine ⟨by rw [List.map_cons, List.map_cons, ← i1]; rfl, fun m hm => ?_⟩
      rw [List.map_cons, List.mem_cons] at hm
      rcases hm with rfl | hm
      · exact h1
      · exact i2 m hm
    | _ => simp [inD] at h1
theorem areRows_ok {d : PyData} (h : areRows d = true) : (R.tab (rowsD d)).body = d ∧ (R.tab (rowsD d)).ok := by
  cases d with
  | tuple ds =>
    simp only [areRows, Bool.and_eq_true, decide_eq_true_eq, List.all_eq_true, List.mem_range] at h
    obtain ⟨⟨h1, h2⟩, h3⟩ := h
    have key : ∀ (i : Nat) (d : PyData), ds[i]? = some d → d = .tuple ((intsD d).map PyData.int) ∧ (intsD d).length = ds.length - i ∧ ∀ n ∈ intsD d, -1000000 ≤ n ∧ n ≤ 1000000 := fun i d hd => by
      have hi : i < ds.length := (List.getElem?_eq_some_iff.mp hd).1
      have z := h3 i hi
      rw [List.getD_eq_getElem?_getD, hd] at z
      simp only [Option.getD_some] at z
      cases d with
      | tuple es =>
        simp only [rowOk, Bool.and_eq_true, decide_eq_true_eq] at z
        obtain ⟨e1, e2⟩ := ints_back z.2
        exact ⟨congrArg PyData.tuple e1, by simp only [intsD, List.length_map]; exact z.1, e2⟩
      | _ => simp [rowOk] at z
    refine ⟨congrArg PyData.tuple ?_, by simp only [rowsD, List.length_map]; exact h1, by simp only [rowsD, List.length_map]; exact h2, fun i r hr => ?_⟩
    · show (ds.map intsD).map (fun r => PyData.tuple (r.map PyData.int)) = ds
      rw [List.map_map]
      refine List.ext_getElem? fun i => ?_
      rw [List.getElem?_map]
      cases e : ds[i]? with
      | none => rfl
      | some d => exact congrArg some (key i d e).1.symm
    · simp only [rowsD, List.getElem?_map, List.length_map] at hr ⊢
      cases e : ds[i]? with
      | none => rw [e] at hr; cases hr
      | some d =>
        rw [e] at hr
        cases hr
        exact (key i d e).2
  | _ => simp [areRows] at h
theorem areTerms_ok {d : PyData} (h : areTerms d = true) : (R.trm (termsD d)).body = d ∧ (R.trm (termsD d)).ok := by
  cases d with
  | tuple ds =>
    simp only [areTerms, Bool.and_eq_true, decide_eq_true_eq, List.all_eq_true] at h
    obtain ⟨h1, h2⟩ := h
    have key : ∀ d ∈ ds, PyData.tuple ((tri (termD d)).map PyData.int) = d ∧ -1000000 ≤ (termD d).1 ∧ (termD d).1 ≤ 1000000 ∧ (termD d).2.1 ≤ 4 ∧ (termD d).2.2 ≤ 4 := fun d hd => by
      have z := h2 d hd
      unfold isTerm at z
      split at z
      · rename_i a b c
        simp only [Bool.and_eq_true] at z
        obtain ⟨⟨za, zb⟩, zc⟩ := z
        cases a with
        | int a =>
          cases b with
          | int b =>
            cases c with
            | int c =>
              simp only [inD, Bool.and_eq_true, decide_eq_true_eq] at za zb zc
              simp only [termD, intsD, intD, tri, List.map_cons, List.map_nil, List.getD_cons_zero, List.getD_cons_succ]
              refine ⟨?_, za.1, za.2, by omega, by omega⟩
              rw [Int.toNat_of_nonneg zb.1, Int.toNat_of_nonneg zc.1]
            | _ => simp [inD] at zc
          | _ => simp [inD] at zb
        | _ => simp [inD] at za
      · cases z
    refine ⟨congrArg PyData.tuple ?_, by simp only [termsD, List.length_map]; exact h1, fun t ht => ?_⟩
    · show (ds.map termD).map (fun t => PyData.tuple ((tri t).map PyData.int)) = ds
      rw [List.map_map]
      conv => rhs; rw [← List.map_id ds]
      exact List.map_congr_left fun d hd => (key d hd).1
    · simp only [termsD, List.mem_map] at ht
      obtain ⟨d, hd, rfl⟩ := ht
      exact (key d hd).2
  | _ => simp [areTerms] at h
def ruleOf (k d : PyData) : Option R := match k with
  | .str s => if s = "table" then (if areRows d then some (.tab (rowsD d)) else none) else if s = "terms" then (if areTerms d then some (.trm (termsD d)) else none) else none
  | _ => none
/-! ### are_rows, is_term, are_terms -/
def RetB (b : Bool) (H : Hp) (Q : VK) : Prop := ∀ H', Same H H' → Q (.bl b) H'
def sp_are_rows (Γ : Gm) : Sp := fun vs H Q _ => ∃ v d, vs = [v] ∧ Dv H v d ∧ RetB (areRows d) H Q
def sp_is_term (Γ : Gm) : Sp := fun vs H Q _ => ∃ v d, vs = [v] ∧ Dv H v d ∧ RetB (isTerm d) H Q
def sp_are_terms (Γ : Gm) : Sp := fun vs H Q _ => ∃ v d, vs = [v] ∧ Dv H v d ∧ RetB (areTerms d) H Q
theorem tupTy {d : PyData} (h : tyTab (tyD d) "tuple" = true) : ∃ ds, d = .tuple ds := by
  cases d with
  | tuple ds => exact ⟨ds, rfl⟩
  | _ => simp [tyD, tyTab] at h
theorem all_take {α : Type} {f : α → Bool} {l : List α} {i : Nat} {x : α} (h : l[i]? = some x) : (l.take (i + 1)).map f = (l.take i).map f ++ [f x] := by rw [take_succ h, List.map_append]; rfl
/-- are_rows: value, index, row, number -/
def t_are_rows (Γ : Gm) : TS := (tSeq (tIfS (tOr (tNot (tB (tCB (rIsi Γ.K) (tCons (tVar 0) (tCons (tC (.ty "tuple")) tNil))))) (tNot (tTest (tChain rLe rLt (tC (.int 1)) (tCB (rLen Γ.K) (tCons (tVar 0) tNil)) (tC (.int 40)))))) (tRet (tC (.bl false))) tNext)
  (tSeq (tFor (iEnumS Γ.K (tCons (tVar 0) tNil)) (gTup Γ.K 2 (gCons (gName 1) (gCons (gName 2) gNil))) (tSeq (tIfS (tOr (tNot (tB (tCB (rIsi Γ.K) (tCons (tVar 2) (tCons (tC (.ty "tuple")) tNil))))) (tTest (tOp (rNeU Γ.K) (tCB (rLen Γ.K) (tCons (tVar 2) tNil)) (tOp rSubI (tCB (rLen Γ.K) (tCons (tVar 0) tNil)) (tVar 1))))) (tRet (tC (.bl false))) tNext)
  (tIfS (tNot (tB (tCB (rAll Γ.K) (tCons (tLc (iSeq Γ.K (tVar 2)) (gName 3) tYes (tCal (sp_is_from Γ) E0 (tCons (tVar 3) (tCons (tOp rSubI (tC (.int 0)) (tC (.int 1000000))) (tCons (tC (.int 1000000)) tNil)))) [3]) tNil)))) (tRet (tC (.bl false))) tNext)))
  (tRet (tC (.bl true)))))
theorem rd_are_rows (Γ : Gm) (vs : List V) (H : Hp) (Q : VK) (E : XK) (h : sp_are_rows Γ vs H Q E) : t_are_rows Γ ⟨fun _ H' => Q .non H', Q, fun _ _ => False, fun _ _ => False⟩ (startN 4 vs) H := by
  obtain ⟨v, d, rfl, hd, q⟩ := h
  unfold t_are_rows
  walk_at "ss"
  refine w_isi hd.tag (by decide) ?_
  rw [hd.ty]
  walk_at "ss"
  refine w_ite (fun e => ?_) (fun e => ?_)
  · walk_at "ss"
    have : areRows d = false := by
      cases d with
      | tuple ds => exact absurd (show (!tyTab "tuple" "tuple") = true from e) (by decide)
      | _ => rfl
    rw [this] at q
    exact q H (Same.refl H)
  obtain ⟨ds, rfl⟩ := tupTy (by simpa using e)
  obtain ⟨a, xs, rfl, hx, tx⟩ := hd.tupInv
  have hl := tx.length
  walk_at "ss"
  refine w_lenT (SqT.of hx) ?_
  walk_at "ss"
  rw [hl]
  refine w_ite (fun e1 => ?_) (fun e1 => ?_)
  rotate_left
  · walk_at "ss"
    have : areRows (.tuple ds) = false := by
      simp only [decide_eq_false_iff_not] at e1
      simp only [areRows]
      rw [decide_eq_false (by omega)]
      rfl
    rw [this] at q
    exact q H (Same.refl H)
  walk_at "ss"
  simp only [decide_eq_true_eq] at e1
  refine w_ite (fun e2 => ?_) (fun e2 => ?_)
  · walk_at "ss"
    have : areRows (.tuple ds) = false := by
      simp only [Bool.not_eq_true', decide_eq_false_iff_not] at e2
      simp only [areRows]
      rw [decide_eq_true (by omega), decide_eq_false (by omega)]
      rfl
    rw [this] at q
    exact q H (Same.refl H)
  walk_at "ss"
  simp only [Bool.not_eq_false', decide_eq_true_eq] at e2
  refine k_enT (SqT.of hx) ?_
  refine k_enumT (fun i σ H' => ∃ x y z, σ = [some (.ref a), x, y, z] ∧ Same H H' ∧ ∀ j, j < i → rowOk ds.length j (ds.getD j .none) = true) ⟨none, none, none, rfl, Same.refl H, fun j hj => absurd hj (Nat.not_lt_zero _)⟩ (fun i σ H' _ ⟨_, _, _, _, e, _⟩ => SqT.of (e _ _ hx)) ?_ ?_
  · rintro i x σ H' T hi ⟨_, _, _, rfl, e, all⟩ hT
    obtain ⟨dx, hdx, tdx⟩ := tx.get' hi
    have hil : i < ds.length := (List.getElem?_eq_some_iff.mp hdx).1
    have eT := Same.new (o := .tup [.int (i : Nat), x]) hT
    refine w_gTup (xs := [.int (i : Nat), x]) (SqT.of upd_same) rfl ?_
    have tdx' := tdx.mono (e.trans eT)
    generalize upd H' T (.tup [.int (i : Nat), x]) = H1 at eT tdx' ⊢
    have e1' := e.trans eT
    have bad : rowOk ds.length i dx = false → Q (.bl false) H1 := fun z => by
      have : areRows (.tuple ds) = false := by
        simp only [areRows]
        rw [Bool.and_eq_false_iff]
        right
        rw [List.all_eq_false]
        refine ⟨i, List.mem_range.mpr hil, ?_⟩
        rw [List.getD_eq_getElem?_getD, hdx]
        simp [z]
      rw [this] at q
      exact q _ e1'
    walk_at "ss"
    refine w_isi tdx'.tag (by decide) ?_
    rw [tdx'.ty]
    walk_at "ss"
    refine w_ite (fun e => ?_) (fun e => ?_)
    · walk_at "ss"
      refine bad ?_
      cases dx with
      | tuple ds => exact absurd (show (!tyTab "tuple" "tuple") = true from e) (by decide)
      | _ => rfl
    obtain ⟨es, rfl⟩ := tupTy (by simpa using e)
    obtain ⟨c, ys, rfl, hy, ty⟩ := tdx'.tupInv
    walk_at "ss"
    refine w_lenT (SqT.of hy) ?_
    walk_at "ss"
    refine w_lenT (SqT.of (e1' _ _ hx)) ?_
    walk_at "ss"
    rw [hl, ty.length]
    refine w_ite (fun e3 => ?_) (fun e3 => ?_)
    · walk_at "ss"
      refine bad ?_
      simp only [Bool.not_eq_true', decide_eq_false_iff_not] at e3
      simp only [rowOk]
      rw [decide_eq_false (by omega)]
      rfl
    simp only [Bool.not_eq_false', decide_eq_true_eq] at e3
    walk_at "ss"
    refine k_seqT (SqT.of hy) ?_
    refine k_lcTup (fun i acc H' => acc = ((es.take i).map (inD (-1000000) 1000000)).map V.bl) (SqT.of hy) (fun _ _ => rfl) ?_ ?_
    · rintro j z D acc H2 hj hD e4 hacc rfl
      obtain ⟨dz, hdz, tdz⟩ := ty.get' hj
      walk_at "ss"
      refine ⟨rfl, ?_⟩
      walk_at "ss"
      refine ⟨z, _, _, rfl, (tdz.mono e4).tag, ?_⟩
      rw [tdz.inR]
      refine lcTurn.mk hD e4 hacc (by rw [List.length_map, List.length_map, List.length_take]; omega) ?_
      rw [all_take hdz, List.map_append]
      rfl
    · rintro D acc H2 hD e4 hacc rfl
      rw [ty.length, List.take_length] at hacc
      walk_at "ss"
      refine w_all (SqL.of hacc) ?_
      walk_at "ss"
      have ea : (es.map (inD (-1000000) 1000000)).all id = es.all (inD (-1000000) 1000000) := by rw [List.all_map]; rfl
      rw [ea]
      refine w_ite (fun e5 => ?_) (fun e5 => ?_)
      · walk_at "ss"
        have : areRows (.tuple ds) = false := by
          simp only [areRows]
          rw [Bool.and_eq_false_iff]
          right
          rw [List.all_eq_false]
          refine ⟨i, List.mem_range.mpr hil, ?_⟩
          rw [List.getD_eq_getElem?_getD, hdx]
          simp only [Option.getD_some, rowOk]
          simp only [Bool.not_eq_true'] at e5
          rw [e5, Bool.and_false]
          decide
        rw [this] at q
        exact q _ (e1'.trans e4)
      · walk_at "ss"
        refine ⟨_, _, _, rfl, e1'.trans e4, fun k hk => ?_⟩
        by_cases hki : k < i
        · exact all k hki
        · have : k = i := by omega
          subst this
          rw [List.getD_eq_getElem?_getD, hdx]
          simp only [Option.getD_some, rowOk]
          simp only [Bool.not_eq_false'] at e5
          rw [e5, decide_eq_true (by omega)]
          rfl
  · rintro σ H' ⟨_, _, _, rfl, e, all⟩
    walk_at "ss"
    have : areRows (.tuple ds) = true := by
      simp only [areRows]
      rw [decide_eq_true (by omega), decide_eq_true (by omega)]
      simp only [Bool.true_and, List.all_eq_true, List.mem_range]
      intro j hj
      exact all j (by omega)
    rw [this] at q
    exact q _ e
/-- is_term: value -/
def t_is_term (Γ : Gm) : TS := (tSeq (tIfS (tOr (tNot (tB (tCB (rIsi Γ.K) (tCons (tVar 0) (tCons (tC (.ty "tuple")) tNil))))) (tOr (tTest (tOp (rNeU Γ.K) (tCB (rLen Γ.K) (tCons (tVar 0) tNil)) (tC (.int 3)))) (tNot (tB (tCal (sp_is_from Γ) E0 (tCons (tOp (rIx Γ.K) (tVar 0) (tC (.int 0))) (tCons (tOp rSubI (tC (.int 0)) (tC (.int 1000000))) (tCons (tC (.int 1000000)) tNil)))))))) (tRet (tC (.bl false))) tNext)
  (tRet (tAndV (tCal (sp_is_from Γ) E0 (tCons (tOp (rIx Γ.K) (tVar 0) (tC (.int 1))) (tCons (tC (.int 0)) (tCons (tC (.int 4)) tNil)))) (tCal (sp_is_from Γ) E0 (tCons (tOp (rIx Γ.K) (tVar 0) (tC (.int 2))) (tCons (tC (.int 0)) (tCons (tC (.int 4)) tNil)))))))
theorem rd_is_term (Γ : Gm) (vs : List V) (H : Hp) (Q : VK) (E : XK) (h : sp_is_term Γ vs H Q E) : t_is_term Γ ⟨fun _ H' => Q .non H', Q, fun _ _ => False, fun _ _ => False⟩ (startN 1 vs) H := by
  obtain ⟨v, d, rfl, hd, q⟩ := h
  unfold t_is_term
  have bad : isTerm d = false → Q (.bl false) H := fun z => by
    rw [z] at q
    exact q H (Same.refl H)
  walk_at "ss"
  refine w_isi hd.tag (by decide) ?_
  rw [hd.ty]
  walk_at "ss"
  refine w_ite (fun e => ?_) (fun e => ?_)
  · walk_at "ss"
    refine bad ?_
    cases d with
    | tuple ds => exact absurd (show (!tyTab "tuple" "tuple") = true from e) (by decide)
    | _ => rfl
  obtain ⟨ds, rfl⟩ := tupTy (by simpa using e)
  obtain ⟨a, xs, rfl, hx, tx⟩ := hd.tupInv
  have hl := tx.length
  walk_at "ss"
  refine w_lenT (SqT.of hx) ?_
  walk_at "ss"
  rw [hl]
  refine w_ite (fun e1 => ?_) (fun e1 => ?_)
  · walk_at "ss"
    refine bad ?_
    simp only [Bool.not_eq_true', decide_eq_false_iff_not] at e1
    match ds, e1 with
    | [], _ => rfl
    | [_], _ => rfl
    | [_, _], _ => rfl
    | [_, _, _], e1 => exact absurd rfl e1
    | _ :: _ :: _ :: _ :: _, _ => rfl
  simp only [Bool.not_eq_false', decide_eq_true_eq] at e1
  match ds, e1, tx with
  | [d0, d1, d2], _, .cons (v := v0) t0 (.cons (v := v1) t1 (.cons (v := v2) t2 .nil)) =>
    walk_at "ss"
    refine w_ixT (SqT.of hx) (atI_of (by decide) rfl) ?_
    walk_at "ss"
    refine ⟨v0, _, _, rfl, t0.tag, ?_⟩
    rw [t0.inR]
    walk_at "ss"
    refine w_ite (fun e2 => ?_) (fun e2 => ?_)
    · walk_at "ss"
      refine bad ?_
      simp only [Bool.not_eq_true'] at e2
      have e2' : inD (-1000000) 1000000 d0 = false := e2
      simp only [isTerm, e2', Bool.false_and]
    walk_at "ss"
    simp only [Bool.not_eq_false'] at e2
    have e2' : inD (-1000000) 1000000 d0 = true := e2
    have q' : RetB (inD 0 4 d1 && inD 0 4 d2) H Q := by simpa only [isTerm, e2', Bool.true_and] using q
    refine w_ixT (SqT.of hx) (atI_of (by decide) rfl) ?_
    walk_at "ss"
    refine ⟨v1, _, _, rfl, t1.tag, ?_⟩
    rw [t1.inR]
    walk_at "ss"
    refine w_ite (fun e3 => ?_) (fun e3 => ?_)
    · rw [e3] at q'
      walk_at "ss"
      refine w_ixT (SqT.of hx) (atI_of (by decide) rfl) ?_
      walk_at "ss"
      refine ⟨v2, _, _, rfl, t2.tag, ?_⟩
      rw [t2.inR]
      exact q' H (Same.refl H)
    · rw [e3] at q'
      exact q' H (Same.refl H)
/-- are_terms: value, term -/
def t_are_terms (Γ : Gm) : TS := (tRet (tAndV (tCB (rIsi Γ.K) (tCons (tVar 0) (tCons (tC (.ty "tuple")) tNil))) (tAndV (tOp rLe (tCB (rLen Γ.K) (tCons (tVar 0) tNil)) (tC (.int 6))) (tCB (rAll Γ.K) (tCons (tLc (iSeq Γ.K (tVar 0)) (gName 1) tYes (tCal (sp_is_term Γ) E0 (tCons (tVar 1) tNil)) [1]) tNil)))))
theorem rd_are_terms (Γ : Gm) (vs : List V) (H : Hp) (Q : VK) (E : XK) (h : sp_are_terms Γ vs H Q E) : t_are_terms Γ ⟨fun _ H' => Q .non H', Q, fun _ _ => False, fun _ _ => False⟩ (startN 2 vs) H := by
  obtain ⟨v, d, rfl, hd, q⟩ := h
  unfold t_are_terms
  walk_at "ss"
  refine w_isi hd.tag (by decide) ?_
  rw [hd.ty]
  walk_at "ss"
  refine w_ite (fun e => ?_) (fun e => ?_)
  rotate_left
  · have : areTerms d = false := by
      cases d with
      | tuple ds => exact absurd (show tyTab "tuple" "tuple" = false from e) (by decide)
      | _ => rfl
    rw [this] at q
    exact q H (Same.refl H)
  obtain ⟨ds, rfl⟩ := tupTy e
  obtain ⟨a, xs, rfl, hx, tx⟩ := hd.tupInv
  walk_at "ss"
  refine w_lenT (SqT.of hx) ?_
  walk_at "ss"
  rw [tx.length]
  refine w_ite (fun e1 => ?_) (fun e1 => ?_)
  rotate_left
  · have : areTerms (.tuple ds) = false := by
      simp only [decide_eq_false_iff_not] at e1
      simp only [areTerms]
      rw [decide_eq_false (by omega)]
      rfl
    rw [this] at q
    exact q H (Same.refl H)
  simp only [decide_eq_true_eq] at e1
  walk_at "ss"
  refine k_seqT (SqT.of hx) ?_
  refine k_lcTup (fun i acc H' => acc = ((ds.take i).map isTerm).map V.bl) (SqT.of hx) (fun _ _ => rfl) ?_ ?_
  · rintro j z D acc H2 hj hD e4 hacc rfl
    obtain ⟨dz, hdz, tdz⟩ := tx.get' hj
    walk_at "ss"
    refine ⟨rfl, ?_⟩
    walk_at "ss"
    refine ⟨z, dz, rfl, tdz.mono e4, fun H3 e5 => ?_⟩
    refine lcTurn.mk hD (e4.trans e5) (e5 _ _ hacc) (by rw [List.length_map, List.length_map, List.length_take]; omega) ?_
    rw [all_take hdz, List.map_append]
    rfl
  · rintro D acc H2 hD e4 hacc rfl
    rw [tx.length, List.take_length] at hacc
    walk_at "ss"
    refine w_all (SqL.of hacc) ?_
    have ea : (ds.map isTerm).all id = areTerms (.tuple ds) := by
      simp only [areTerms]
      rw [List.all_map, decide_eq_true (by omega)]
      rfl
    rw [ea]
    exact q _ e4
/-! ### Rule -/
/-- behind Rule.__init__ -/
def sp_Rule_Uinit (Γ : Gm) : Sp := fun vs H Q E => ∃ p dx k dk v d, vs = [.ref p, k, v] ∧ H p = some (.ins Γ.cRule dx []) ∧ Dv H k dk ∧ Dv H v d ∧
  (ruleOf dk d = none → ∀ H', Same H H' → E (.ref Γ.cBadRule) none H') ∧
  (∀ r s b, ruleOf dk d = some r → dk = .str s → v = .ref b → r.kind = s → r.body = d → r.ok → ∀ H', (∀ b o, b ≠ p → H b = some o → H' b = some o) → H' p = some (.ins Γ.cRule dx (rfl2 s b)) → Q .non H')

theorem dv_str {H : Hp} {k : V} {s : Str} (h : Dv H k (.str s)) : k = .str s := by cases h; rfl
theorem strTy {d : PyData} (h : tyTab (tyD d) "str" = true) : ∃ s, d = .str s := by
  cases d with
  | str s => exact ⟨s, rfl⟩
  | _ => simp [tyD, tyTab] at h
theorem inV_str (s a b : Str) : inV (.str s) [.str a, .str b] = (decide (s = a) || decide (s = b)) := by
  simp only [inV, List.any_cons, List.any_nil, eqV, Bool.or_false]
  have h : ∀ x y : Str, (x == y) = decide (y = x) := fun x y => by
    by_cases e : x = y
    · subst e; simp
    · rw [decide_eq_false (fun z => e z.symm)]; simpa using e
  rw [h, h]
theorem ruleOf_kind {s : Str} {d : PyData} {r : R} (h : ruleOf (.str s) d = some r) : r.kind = s ∧ r.body = d ∧ r.ok := by
  simp only [ruleOf] at h
  split at h
  · rename_i e
    split at h
    · rename_i e2
      cases h
      obtain ⟨h1, h2⟩ := areRows_ok e2
      exact ⟨e.symm, h1, h2⟩
    · cases h
  · split at h
    · rename_i e
      split at h
      · rename_i e2
        cases h
        obtain ⟨h1, h2⟩ := areTerms_ok e2
        exact ⟨e.symm, h1, h2⟩
      · cases h
    · cases h
/-- the way out of Rule.__init__, its ends -/
structure InitK (Γ : Gm) (p dx : Addr) (dk d : PyData) (v : V) (H : Hp) (Q : VK) (E : XK) : Prop where
  bad : ruleOf dk d = none → ∀ H', Same H H' → E (.ref Γ.cBadRule) none H'
  good : ∀ r s b, ruleOf dk d = some r → dk = .str s → v = .ref b → r.kind = s → r.body = d → r.ok → ∀ H', (∀ b o, b ≠ p → H b = some o → H' b = some o) → H' p = some (.ins Γ.cRule dx (rfl2 s b)) → Q .non H'
def sp_RuleU_initU (Γ : Gm) : Sp := fun vs H Q E => ∃ p dx k dk v d, vs = [.ref p, k, v] ∧ H p = some (.ins Γ.cRule dx []) ∧ Dv H k dk ∧ Dv H v d ∧ InitK Γ p dx dk d v H Q E
/-- Rule __init__: self, kind, parts -/
def t_RuleU_initU (Γ : Gm) (E : XK) : TS := (tSeq (tIfS (tOr (tNot (tB (tCB (rIsi Γ.K) (tCons (tVar 1) (tCons (tC (.ty "str")) tNil))))) (tTest (tOp (rNotInU Γ.K) (tVar 1) (tTup (tCons (tC (.str "table")) (tCons (tC (.str "terms")) tNil)))))) (tRaise Γ.cBadRule (fun cls d _ H => E cls d H)) tNext)
  (tSeq (tIfS (tNot (tIfT (tTest (tOp (rEqU Γ.K) (tVar 1) (tC (.str "table")))) (tB (tCal (sp_are_rows Γ) E0 (tCons (tVar 2) tNil))) (tB (tCal (sp_are_terms Γ) E0 (tCons (tVar 2) tNil))))) (tRaise Γ.cBadRule (fun cls d _ H => E cls d H)) tNext)
  (tSeq (sFld Γ.K (tVar 0) (tVar 1) "form")
  (sFld Γ.K (tVar 0) (tVar 2) "body"))))
theorem rd_RuleU_initU (Γ : Gm) (F : RuleF Γ) (vs : List V) (H : Hp) (Q : VK) (E : XK) (h : sp_RuleU_initU Γ vs H Q E) : t_RuleU_initU Γ E ⟨fun _ H' => Q .non H', Q, fun _ _ => False, fun _ _ => False⟩ (startN 3 vs) H := by
  obtain ⟨p, dx, k, dk, v, d, rfl, hp, hk, hd, q⟩ := h
  unfold t_RuleU_initU
  walk_at "ss"
  refine w_isi hk.tag (by decide) ?_
  rw [hk.ty]
  walk_at "ss"
  refine w_ite (fun e => ?_) (fun e => ?_)
  · walk_at "ss"
    refine q.bad ?_ H (Same.refl H)
    cases dk with
    | str s => exact absurd (show (!tyTab "str" "str") = true from e) (by decide)
    | _ => rfl
  obtain ⟨s, rfl⟩ := strTy (by simpa using e)
  have ek := dv_str hk
  subst ek
  walk_at "ss"
  refine n_tup fun t H1 ht e1 h1 => ?_
  refine w_in2 (w_inT (SqT.of h1) rfl rfl ?_)
  walk_at "ss"
  rw [if_pos rfl, inV_str]
  refine w_ite (fun e2 => ?_) (fun e2 => ?_)
  · walk_at "ss"
    refine q.bad ?_ H1 e1
    simp only [Bool.not_eq_true', Bool.or_eq_false_iff, decide_eq_false_iff_not] at e2
    simp only [ruleOf]
    rw [if_neg e2.1, if_neg e2.2]
  have hd1 := hd.mono e1
  have hp1 := e1 _ _ hp
  -- the two stores
  have fin : ∀ r, ruleOf (.str s) d = some r → ∀ H2, Same H H2 → (tSeq (sFld Γ.K (tVar 0) (tVar 1) "form") (sFld Γ.K (tVar 0) (tVar 2) "body")) ⟨fun _ H' => Q .non H', Q, fun _ _ => False, fun _ _ => False⟩ (startN 3 [.ref p, .str s, v]) H2 := fun r hr H2 e2 => by
    obtain ⟨z1, z2, z3⟩ := ruleOf_kind hr
    walk_at "ss"
    refine k_sfld (e2 _ _ hp) F.cl F.nF (by decide) ?_
    walk_at "ss"
    refine k_sfld upd_same F.cl F.nB (show 1 < 1000 from by decide) ?_
    walk_at "ss"
    obtain ⟨b, eb⟩ : ∃ b, v = .ref b := by
      subst z2
      cases r <;> (cases hd with | tup h k => exact ⟨_, rfl⟩)
    subst eb
    refine q.good r s b hr rfl rfl z1 z2 z3 _ (fun c o hc ho => ?_) upd_same
    rw [upd_ne hc, upd_ne hc]
    exact e2 _ _ ho
  walk_at "ss"
  refine w_ite (fun e3 => ?_) (fun e3 => ?_)
  · have es : s = "table" := of_decide_eq_true e3
    walk_at "ss"
    refine ⟨v, d, rfl, hd1, fun H2 e4 => ?_⟩
    walk_at "ss"
    have er : ruleOf (.str s) d = if areRows d then some (.tab (rowsD d)) else none := by
      simp only [ruleOf]
      rw [if_pos es]
    refine w_ite (fun e5 => ?_) (fun e5 => ?_)
    · walk_at "ss"
      refine q.bad ?_ H2 (e1.trans e4)
      rw [er, if_neg (by simpa using e5)]
    · exact fin _ (by rw [er, if_pos (by simpa using e5)]) H2 (e1.trans e4)
  · have es : ¬ s = "table" := of_decide_eq_false e3
    have es2 : s = "terms" := by
      simp only [Bool.not_eq_false', Bool.or_eq_true, decide_eq_true_eq] at e2
      exact e2.resolve_left es
    walk_at "ss"
    refine ⟨v, d, rfl, hd1, fun H2 e4 => ?_⟩
    walk_at "ss"
    have er : ruleOf (.str s) d = if areTerms d then some (.trm (termsD d)) else none := by
      simp only [ruleOf]
      rw [if_neg es, if_pos es2]
    refine w_ite (fun e5 => ?_) (fun e5 => ?_)
    · walk_at "ss"
      refine q.bad ?_ H2 (e1.trans e4)
      rw [er, if_neg (by simpa using e5)]
    · exact fin _ (by rw [er, if_pos (by simpa using e5)]) H2 (e1.trans e4)
/-! ### check_heap -/
/-- is a value a heap up to a bound -/
def heapOk (r : R) (most : Int) (d : PyData) : Bool := inD 1 (if r.top < most then r.top else most) d
def sp_check_heap (Γ : Gm) : Sp := fun vs H Q E => ∃ v r x d most, vs = [v, x, .int most] ∧ RuleAt Γ H v r ∧ Dv H x d ∧ (heapOk r most d = false → E (.ref Γ.cBadHeap) none H) ∧ (heapOk r most d = true → Q .non H)
/-- check_heap: rule, heap, most -/
def t_check_heap (Γ : Gm) (E : XK) : TS := (tIfS (tNot (tB (tCal (sp_is_from Γ) E0 (tCons (tVar 1) (tCons (tC (.int 1)) (tCons (tCB rMin2 (tCons (tVar 2) (tCons (tCal (sp_most_of Γ) E0 (tCons (tVar 0) tNil)) tNil))) tNil)))))) (tRaise Γ.cBadHeap (fun cls d _ H => E cls d H)) tNext)
theorem rd_check_heap (Γ : Gm) (vs : List V) (H : Hp) (Q : VK) (E : XK) (h : sp_check_heap Γ vs H Q E) : t_check_heap Γ E ⟨fun _ H' => Q .non H', Q, fun _ _ => False, fun _ _ => False⟩ (startN 3 vs) H := by
  obtain ⟨v, r, x, d, most, rfl, hr, hd, k1, k2⟩ := h
  unfold t_check_heap
  walk_at "ss"
  refine ⟨v, r, rfl, hr, ?_⟩
  walk_at "ss"
  refine ⟨x, 1, _, rfl, hd.tag, ?_⟩
  rw [hd.inR]
  walk_at "ss"
  refine w_ite (fun e => ?_) (fun e => ?_)
  · walk_at "ss"
    exact k1 (by simpa [heapOk] using e)
  · walk_at "ss"
    exact k2 (by simpa [heapOk] using e)
/-! ### drawing -/
/-- the script -/
def sp__law_random (Γ : Gm) : Sp := fun vs H Q _ => ∃ (a : Addr) (ns : List Int) (s : Int), vs = [.ref a, .int s] ∧ SqL Γ.K H a (ns.map V.int) ∧ ns.length ≤ 63 ∧ 0 ≤ s ∧ s < 2147483647 ∧ ∀ d H', H d = none → Same H H' → H' d = some (dO d) → Q (.ref d) H'
/-- law_random: _law_script, _law_salt, _law_seed, _law_cell -/
def t__law_random (Γ : Gm) : TS := tShut DS (tSeq (tAsg (tVar 1) (gName 2))
  (tSeq (tFor (iSeq Γ.K (tVar 0)) (gName 3) (tAsg (tOp rModI (tCB rInt1 (tCons (tOp (rAddU Γ.K) (tOp (rMulU Γ.K) (tVar 2) (tC (.int 31))) (tCB rAbs (tCons (tVar 3) tNil))) tNil)) (tC (.int 2147483647))) (gName 2)))
  (tRet (tOp (rAddU Γ.K) (tLst (tCons (tVar 2) (tCons (tC (.int 0)) tNil))) (tLc (iSeq Γ.K (tVar 0)) (gName 3) (tTest (tOp rGe (tVar 3) (tOp rPowI (tC (.int 10)) (tC (.int 18))))) (tVar 3) [3])))))
theorem rd__law_random (Γ : Gm) (vs : List V) (H : Hp) (Q : VK) (E : XK) (h : sp__law_random Γ vs H Q E) : t__law_random Γ ⟨fun _ H' => Q .non H', Q, fun _ _ => False, fun _ _ => False⟩ (startN 4 vs) H := by
  obtain ⟨a, ns, s, rfl, hS, hl, hs, hs2, k⟩ := h
  unfold t__law_random
  unfold tShut
  walk_at "ss"
  refine k_seqL hS ?_
  refine k_list (xs := ns.map V.int) (fun i σ H' => ∃ s' v, σ = [some (.ref a), some (.int s), some (.int s'), v] ∧ H' = H ∧ 0 ≤ s' ∧ s' < 2147483647) ⟨s, none, rfl, rfl, hs, hs2⟩ (fun i σ H' _ ⟨_, _, _, e, _⟩ => by rw [e]; exact hS) ?_ ?_
  · rintro i x σ H' hi ⟨s', v, rfl, rfl, h1, h2⟩
    rw [List.getElem?_map] at hi
    obtain ⟨n, hn, rfl⟩ := Option.map_eq_some_iff.mp hi
    walk_at "ss"
    exact ⟨_, _, rfl, rfl, Int.emod_nonneg _ (by decide), Int.emod_lt_of_pos _ (by decide)⟩
  · rintro σ H' ⟨s', v, rfl, rfl, h1, h2⟩
    walk_at "ss"
    refine n_lst fun l1 H1 hl1 e1 h1' => ?_
    walk_at "ss"
    refine k_seqL (e1.seq hS) ?_
    refine k_lcListT (fun i acc H' => ∃ ms : List Int, acc = ms.map V.int ∧ ms.length ≤ i) (e1.seq hS) (fun _ _ => ⟨[], rfl, Nat.le_refl _⟩) ?_ ?_
    · rintro i x D acc H2 hi hD e2 hacc ⟨ms, rfl, hms⟩
      have hil : i < ns.length := by
        have := (List.getElem?_eq_some_iff.mp hi).1
        simpa using this
      rw [List.getElem?_map] at hi
      obtain ⟨n, hn, rfl⟩ := Option.map_eq_some_iff.mp hi
      walk_at "ss"
      refine ⟨rfl, ?_⟩
      walk_at "ss"
      refine w_powI ⟨by decide, by decide, by decide⟩ ?_
      walk_at "ss"
      refine w_ite (fun e => ?_) (fun e => ?_)
      · walk_at "ss"
        refine lcTurn.mk hD e2 hacc (by rw [List.length_map]; omega) ⟨ms ++ [n], by rw [List.map_append]; rfl, by rw [List.length_append]; exact Nat.succ_le_succ hms⟩
      · exact ⟨_, hD, e2, hacc, ms, rfl, Nat.le_succ_of_le hms⟩
    · rintro D acc H2 hD e2 hacc ⟨ms, rfl, hms⟩
      rw [List.length_map] at hms
      refine w_addL (e2 _ _ h1') hacc (by simp only [List.length_cons, List.length_nil, List.length_map]; exact Nat.le_trans (m := 100) (by omega) (by decide)) fun p H3 hp e3 h3 => ?_
      refine ⟨p, s' :: 0 :: ms, rfl, h3, ⟨s', 0, ms, rfl, h1, h2, by omega⟩, ?_⟩
      have e4 := (e1.trans e2).trans e3
      exact k p _ (((e1.trans e2)).free hp) (Same.mut e4 ((e1.trans e2).free hp)) upd_same
/-- one of a list's items -/
def sp__law_pick (Γ : Gm) : Sp := fun vs H Q _ => ∃ (d l : Addr) (xs : List V), vs = [.ref d, .ref l] ∧ H d = some (dO d) ∧ SqL Γ.K H l xs ∧ 0 < xs.length ∧ xs.length ≤ 100000 ∧ ∀ (i : Nat) x, xs[i]? = some x → Q x H
/-- law_pick: _law_d, _law_items -/
def t__law_pick (Γ : Gm) : TS := (tRet (tOp (rIx Γ.K) (tVar 1) (tCal (sp__law_below Γ) E0 (tCons (tVar 0) (tCons (tCB (rLen Γ.K) (tCons (tVar 1) tNil)) tNil)))))
theorem rd__law_pick (Γ : Gm) (vs : List V) (H : Hp) (Q : VK) (E : XK) (h : sp__law_pick Γ vs H Q E) : t__law_pick Γ ⟨fun _ H' => Q .non H', Q, fun _ _ => False, fun _ _ => False⟩ (startN 2 vs) H := by
  obtain ⟨d, l, xs, rfl, hd, hl, h0, hm, k⟩ := h
  unfold t__law_pick
  walk_at "ss"
  refine w_lenL hl ?_
  walk_at "ss"
  refine ⟨d, _, rfl, hd, by omega, by omega, fun r h1 h2 => ?_⟩
  have hi : r.toNat < xs.length := by omega
  refine w_ixL hl (atI_of h1 (List.getElem?_eq_getElem hi)) ?_
  exact k _ _ (List.getElem?_eq_getElem hi)

theorem w_below {Γ : Gm} {d : Addr} {n : Int} {H : Hp} {Q : VK} {E : XK} (hd : H d = some (dO d)) (h0 : 0 < n) (h1 : n < 2 ^ 200) (k : ∀ r : Int, 0 ≤ r → r < n → Q (.int r) H) : sp__law_below Γ [.ref d, .int n] H Q E := ⟨d, n, rfl, hd, h0, h1, k⟩
theorem w_pick {Γ : Gm} {d l : Addr} {xs : List V} {H : Hp} {Q : VK} {E : XK} (hd : H d = some (dO d)) (hl : SqL Γ.K H l xs) (k : ∀ (i : Nat) x, xs[i]? = some x → Q x H) (h0 : 0 < xs.length ∧ xs.length ≤ 100000 := by simp only [List.length_cons, List.length_nil]; decide) : sp__law_pick Γ [.ref d, .ref l] H Q E := ⟨d, l, xs, rfl, hd, hl, h0.1, h0.2, k⟩
theorem w_pickI {Γ : Gm} {d l : Addr} {ns : List Int} {H : Hp} {Q : VK} {E : XK} (hd : H d = some (dO d)) (hl : H l = some (.lst (ns.map V.int))) (k : ∀ m ∈ ns, Q (.int m) H) (h0 : 0 < ns.length ∧ ns.length ≤ 100000 := by simp only [List.length_cons, List.length_nil]; decide) : sp__law_pick Γ [.ref d, .ref l] H Q E :=
  ⟨d, l, _, rfl, hd, SqL.of hl, by simpa using h0.1, by simpa using h0.2, fun i x hx => by
    rw [List.getElem?_map] at hx
    obtain ⟨m, hm, rfl⟩ := Option.map_eq_some_iff.mp hx
    exact k m (List.mem_of_getElem? hm)⟩
/-! ### terms -/
def okT (t : Int × Nat × Nat) : Prop := -1000000 ≤ t.1 ∧ t.1 ≤ 1000000 ∧ t.2.1 ≤ 4 ∧ t.2.2 ≤ 4
def tt (t : Int × Nat × Nat) : PyData := .tuple ((tri t).map PyData.int)
def TL (H : Hp) (v : V) (ts : List (Int × Nat × Nat)) (n : Nat) : Prop := Tp H v (.tuple (ts.map tt)) ∧ (∀ t ∈ ts, okT t) ∧ ts.length ≤ n
theorem TL.mono {H H' : Hp} {v : V} {ts : List (Int × Nat × Nat)} {n : Nat} (e : Same H H') (h : TL H v ts n) : TL H' v ts n := ⟨h.1.mono (Same.tups e), h.2⟩
theorem TL.weak {H : Hp} {v : V} {ts : List (Int × Nat × Nat)} {n m : Nat} (h : TL H v ts n) (e : n ≤ m) : TL H v ts m := ⟨h.1, h.2.1, Nat.le_trans h.2.2 e⟩
theorem tp_t {H : Hp} {p : Addr} {n : Int} {i j : Int} (hi : 0 ≤ i) (hj : 0 ≤ j) (h : H p = some (.tup [.int n, .int i, .int j])) : Tp H (.ref p) (tt (n, i.toNat, j.toNat)) := by
  refine .tup h ?_
  show TpAll H _ [PyData.int n, PyData.int (i.toNat : Int), PyData.int (j.toNat : Int)]
  rw [Int.toNat_of_nonneg hi, Int.toNat_of_nonneg hj]
  exact .cons (.int n) (.cons (.int i) (.cons (.int j) .nil))
theorem TL.nil {H : Hp} {p : Addr} {n : Nat} (h : H p = some (.tup [])) : TL H (.ref p) [] n := ⟨.tup h .nil, (fun _ z => nomatch z), Nat.zero_le _⟩
theorem TL.mk {H : Hp} {p : Addr} {vs : List V} {ts : List (Int × Nat × Nat)} {n : Nat} (h : H p = some (.tup vs)) (k : TpAll H vs (ts.map tt)) (ok : ∀ t ∈ ts, okT t) (hl : ts.length ≤ n) : TL H (.ref p) ts n := ⟨.tup h k, ok, hl⟩
theorem w_addT {K : PySem.W.Frag} {H : Hp} {Q : VK} {v w : V} {ds es : List PyData} (hv : Tp H v (.tuple ds)) (hw : Tp H w (.tuple es)) (hz : ds.length + es.length ≤ 100000) (h : ∀ u H', Same H H' → Tp H' u (.tuple (ds ++ es)) → Q u H') : rAddU K v w H Q := by
  obtain ⟨a, xs, rfl, ha, ta⟩ := hv.inv
  obtain ⟨b, ys, rfl, hb, tb⟩ := hw.inv
  refine .inr (.inr (.inl ⟨a, b, xs, ys, rfl, rfl, SqT.of ha, SqT.of hb, ?_, ?_⟩))
  · rw [ta.length, tb.length]
    exact Nat.le_trans hz (by decide)
  · cases xs with
    | nil =>
      have ed : ds = [] := by cases ta; rfl
      subst ed
      refine ⟨fun _ => h _ H (Same.refl H) hw, fun z => absurd rfl z, fun z => absurd rfl z⟩
    | cons x xs =>
      refine ⟨(fun z => nomatch z), fun _ z => ?_, fun _ z p hp => ?_⟩
      · have ee : es = [] := by subst z; cases tb; rfl
        subst ee
        rw [List.append_nil] at h
        exact h _ H (Same.refl H) hv
      · have e := Same.new (o := .tup (x :: xs ++ ys)) hp
        exact h _ _ e (.tup upd_same ((ta.mono (Same.tups e)).append (tb.mono (Same.tups e))))
def sp__law_terms (Γ : Gm) : Sp := fun vs H Q _ => ∃ (d : Addr), vs = [.ref d] ∧ H d = some (dO d) ∧ ∀ v ts H', Same H H' → Tp H' v (R.trm ts).body → (R.trm ts).ok → Q v H'
theorem w_sl6 {K : PySem.W.Frag} {H : Hp} {Q : VK} {v : V} {ds : List PyData} (hv : Tp H v (.tuple ds)) (h : ∀ u H', Same H H' → Tp H' u (.tuple (ds.take 6)) → Q u H') : rSlU K v none (some 6) H Q := by
  obtain ⟨a, xs, rfl, ha, ta⟩ := hv.inv
  refine .inr (.inl ⟨a, xs, rfl, SqT.of ha, ?_, ?_⟩)
  · rintro ⟨_, z⟩
    have hl : xs.length ≤ 6 := by
      unfold HT.sIx at z
      simp only at z
      rw [if_neg (by decide)] at z
      have : (6 : Int).toNat = 6 := rfl
      omega
    rw [ta.length] at hl
    have := h (.ref a) H (Same.refl H)
    rw [List.take_of_length_le hl] at this
    exact this hv
  · intro z p hp
    have e := Same.new (o := .tup (cutV xs none (some 6))) hp
    have ec : cutV xs none (some 6) = xs.take 6 := by
      unfold cutV HT.sIx
      simp
    rw [ec] at e ⊢
    refine h _ _ e (.tup upd_same ?_)
    have tk : ∀ (n : Nat) {vs : List V} {ds : List PyData}, TpAll H vs ds → TpAll H (vs.take n) (ds.take n) := by
      intro n
      induction n with
      | zero => intro vs ds _; exact .nil
      | succ n ih =>
        intro vs ds t
        cases t with
        | nil => exact .nil
        | cons h k => exact .cons h (ih k)
    exact (tk 6 ta).mono (Same.tups e)
theorem app_tt {ts us : List (Int × Nat × Nat)} : (ts ++ us).map tt = ts.map tt ++ us.map tt := List.map_append
/-- law_terms: _law_d, _law_number, _law_kind, _law_found -/
def t__law_terms (Γ : Gm) : TS := (tSeq (tPar 1 2 (tCons (tCal (sp__law_pick Γ) E0 (tCons (tVar 0) (tCons (tLst (tCons (tC (.int 1)) (tCons (tUn (rU fun i => .int (-i)) (tC (.int 1))) (tCons (tC (.int 2)) (tCons (tC (.int 7)) (tCons (tC (.int 999)) tNil)))))) tNil))) (tCons (tCal (sp__law_below Γ) E0 (tCons (tVar 0) (tCons (tC (.int 7)) tNil))) tNil)))
  (tSeq (tAsg (tOp (rIx Γ.K) (tLst (tCons (tTup tNil) (tCons (tTup (tCons (tTup (tCons (tVar 1) (tCons (tC (.int 0)) (tCons (tC (.int 0)) tNil)))) tNil)) (tCons (tTup (tCons (tTup (tCons (tVar 1) (tCons (tC (.int 1)) (tCons (tC (.int 1)) tNil)))) tNil)) (tCons (tTup (tCons (tTup (tCons (tOp (rMulU Γ.K) (tC (.int 3)) (tVar 1)) (tCons (tC (.int 2)) (tCons (tC (.int 1)) tNil)))) (tCons (tTup (tCons (tOp (rMulU Γ.K) (tC (.int 3)) (tVar 1)) (tCons (tC (.int 1)) (tCons (tC (.int 2)) tNil)))) tNil))) tNil))))) (tCB rMin2 (tCons (tVar 2) (tCons (tC (.int 3)) tNil)))) (gName 3))
  (tCut (tIfS (tTest (tOp (rEqU Γ.K) (tVar 2) (tC (.int 4)))) (tAsg (tTup (tCons (tTup (tCons (tOp (rMulU Γ.K) (tC (.int 4)) (tVar 1)) (tCons (tC (.int 3)) (tCons (tC (.int 1)) tNil)))) (tCons (tTup (tCons (tOp (rMulU Γ.K) (tC (.int 6)) (tVar 1)) (tCons (tC (.int 2)) (tCons (tC (.int 2)) tNil)))) (tCons (tTup (tCons (tOp (rMulU Γ.K) (tC (.int 4)) (tVar 1)) (tCons (tC (.int 1)) (tCons (tC (.int 3)) tNil)))) tNil)))) (gName 3)) tNext)
  (tCut (tIfS (tTest (tOp (rEqU Γ.K) (tVar 2) (tC (.int 5)))) (tAsg (tTup (tCons (tTup (tCons (tOp (rMulU Γ.K) (tC (.int 5)) (tVar 1)) (tCons (tC (.int 4)) (tCons (tC (.int 1)) tNil)))) (tCons (tTup (tCons (tOp (rMulU Γ.K) (tC (.int 10)) (tVar 1)) (tCons (tC (.int 3)) (tCons (tC (.int 2)) tNil)))) (tCons (tTup (tCons (tOp (rMulU Γ.K) (tC (.int 10)) (tVar 1)) (tCons (tC (.int 2)) (tCons (tC (.int 3)) tNil)))) (tCons (tTup (tCons (tOp (rMulU Γ.K) (tC (.int 5)) (tVar 1)) (tCons (tC (.int 1)) (tCons (tC (.int 4)) tNil)))) tNil))))) (gName 3)) tNext)
  (tCut (tIfS (tOr (tTest (tOp (rEqU Γ.K) (tCal (sp__law_below Γ) E0 (tCons (tVar 0) (tCons (tC (.int 3)) tNil))) (tC (.int 0)))) (tTest (tOp (rEqU Γ.K) (tVar 2) (tC (.int 6))))) (tAsg (tOp (rAddU Γ.K) (tVar 3) (tTup (tCons (tTup (tCons (tOp rSubI (tCal (sp__law_below Γ) E0 (tCons (tVar 0) (tCons (tC (.int 5)) tNil))) (tC (.int 2))) (tCons (tCal (sp__law_below Γ) E0 (tCons (tVar 0) (tCons (tC (.int 5)) tNil))) (tCons (tCal (sp__law_below Γ) E0 (tCons (tVar 0) (tCons (tC (.int 5)) tNil))) tNil)))) tNil))) (gName 3)) tNext)
  (tCut (tIfS (tTest (tOp (rEqU Γ.K) (tCal (sp__law_below Γ) E0 (tCons (tVar 0) (tCons (tC (.int 6)) tNil))) (tC (.int 0)))) (tAsg (tOp (rAddU Γ.K) (tCal (sp__law_pick Γ) E0 (tCons (tVar 0) (tCons (tLst (tCons (tVar 3) (tCons (tTup tNil) tNil))) tNil))) (tTup (tCons (tTup (tCons (tOp (rMulU Γ.K) (tC (.int 15)) (tVar 1)) (tCons (tC (.int 2)) (tCons (tC (.int 2)) tNil)))) (tCons (tTup (tCons (tOp (rMulU Γ.K) (tUn (rU fun i => .int (-i)) (tC (.int 2))) (tVar 1)) (tCons (tC (.int 3)) (tCons (tC (.int 3)) tNil)))) tNil)))) (gName 3)) tNext)
  (tRet (tSl (rSlU Γ.K) (tVar 3) tNoPart (tPart (tC (.int 6)))))))))))
theorem rd__law_terms (Γ : Gm) (vs : List V) (H : Hp) (Q : VK) (E : XK) (h : sp__law_terms Γ vs H Q E) : t__law_terms Γ ⟨fun _ H' => Q .non H', Q, fun _ _ => False, fun _ _ => False⟩ (startN 4 vs) H := by
  obtain ⟨d, rfl, hd, q⟩ := h
  unfold t__law_terms
  walk_at "ss"
  refine n_lst fun l1 H1 _ e1 h1 => ?_
  walk_at "ss"
  have hd1 := e1 _ _ hd
  refine w_pickI (ns := [1, -1, 2, 7, 999]) hd1 h1 fun num hnum => ?_
  have hb : -999 ≤ num ∧ num ≤ 999 := by
    simp only [List.mem_cons, List.not_mem_nil, or_false] at hnum
    rcases hnum with rfl | rfl | rfl | rfl | rfl <;> decide
  clear hnum
  walk_at "ss"
  refine w_below hd1 (by decide) (by decide) fun kind hk1 hk2 => ?_
  walk_at "ss"
  refine n_tup fun p0 H2 _ e2 g0 => ?_
  walk_at "ss"
  refine n_tup fun p1 H3 _ e3 g1 => ?_
  walk_at "ss"
  refine n_tup fun p2 H4 _ e4 g2 => ?_
  walk_at "ss"
  refine n_tup fun p3 H5 _ e5 g3 => ?_
  walk_at "ss"
  refine n_tup fun p4 H6 _ e6 g4 => ?_
  walk_at "ss"
  refine n_tup fun p5 H7 _ e7 g5 => ?_
  walk_at "ss"
  refine n_tup fun p6 H8 _ e8 g6 => ?_
  walk_at "ss"
  refine n_tup fun p7 H9 _ e9 g7 => ?_
  walk_at "ss"
  refine n_lst fun l2 HA _ eA gL => ?_
  walk_at "ss"
  have hmin : ∃ j : Nat, j < 4 ∧ (if (3 : Int) < kind then (3 : Int) else kind) = (j : Int) := by
    by_cases c : (3 : Int) < kind
    · exact ⟨3, by decide, by rw [if_pos c]; rfl⟩
    · exact ⟨kind.toNat, by omega, by rw [if_neg c]; omega⟩
  obtain ⟨j, hj, ej⟩ := hmin
  rw [ej]
  have E9 := e8.trans e9
  have tl : ∀ v, [V.ref p0, .ref p2, .ref p4, .ref p7][j]? = some v → ∃ ts, TL HA v ts 4 := fun v hv => by
    match j, hj with
    | 0, _ =>
      cases hv
      exact ⟨[], (TL.nil g0).mono (e3.trans (e4.trans (e5.trans (e6.trans (e7.trans (e8.trans (e9.trans eA))))))) ⟩
    | 1, _ =>
      cases hv
      exact ⟨[(num, 0, 0)], (TL.mk (ts := [(num, 0, 0)]) g2 (.cons (tp_t (i := 0) (j := 0) (by decide) (by decide) (e4 _ _ g1)) .nil) (by intro t ht; cases ht with | head => (unfold okT; dsimp only; omega) | tail _ z => cases z) (by simp)).mono (e5.trans (e6.trans (e7.trans (e8.trans (e9.trans eA)))))⟩
    | 2, _ =>
      cases hv
      exact ⟨[(num, 1, 1)], (TL.mk (ts := [(num, 1, 1)]) g4 (.cons (tp_t (i := 1) (j := 1) (by decide) (by decide) (e6 _ _ g3)) .nil) (by intro t ht; cases ht with | head => (unfold okT; dsimp only; omega) | tail _ z => cases z) (by simp)).mono (e7.trans (e8.trans (e9.trans eA)))⟩
    | 3, _ =>
      cases hv
      exact ⟨[(3 * num, 2, 1), (3 * num, 1, 2)], (TL.mk (ts := [(3 * num, 2, 1), (3 * num, 1, 2)]) g7 (.cons (tp_t (i := 2) (j := 1) (by decide) (by decide) (E9 _ _ g5)) (.cons (tp_t (i := 1) (j := 2) (by decide) (by decide) (e9 _ _ g6)) .nil)) (by intro t ht; simp only [List.mem_cons, List.not_mem_nil, or_false] at ht; rcases ht with rfl | rfl <;> (unfold okT; dsimp only; omega)) (by simp)).mono eA⟩
  have hlt : j < [V.ref p0, .ref p2, .ref p4, .ref p7].length := hj
  obtain ⟨v0, hv0⟩ : ∃ v, [V.ref p0, .ref p2, .ref p4, .ref p7][j]? = some v := ⟨_, List.getElem?_eq_getElem hlt⟩
  obtain ⟨ts0, T0⟩ := tl v0 hv0
  refine w_ixL (SqL.of gL) (atI_of (i := (j : Int)) (by omega) (by simpa using hv0)) ?_
  have SA : Same H HA := e1.trans (e2.trans (e3.trans (e4.trans (e5.trans (e6.trans (e7.trans (e8.trans (e9.trans eA))))))))
  clear hv0 hlt tl ej hj gL eA E9 e9 g7 e8 g6 e7 g5 e6 g4 e5 g3 e4 g2 e3 g1 e2 g0 hd1 h1 e1
  walk_at "ss"
  -- if kind == 4
  refine w_cut (fun σ' H' => ∃ v ts, σ' = [some (.ref d), some (.int num), some (.int kind), some v] ∧ Same H H' ∧ TL H' v ts 4) ?_ ?_
  · walk_at "ss"
    refine w_ite (fun c => ?_) (fun c => ?_)
    · walk_at "ss"
      refine n_tup fun p1 H1 _ e1 g1 => ?_
      walk_at "ss"
      refine n_tup fun p2 H2 _ e2 g2 => ?_
      walk_at "ss"
      refine n_tup fun p3 H3 _ e3 g3 => ?_
      walk_at "ss"
      refine n_tup fun p4 H4 _ e4 g4 => ?_
      walk_at "ss"
      exact ⟨_, [(4 * num, 3, 1), (6 * num, 2, 2), (4 * num, 1, 3)], rfl, SA.trans (e1.trans (e2.trans (e3.trans e4))), TL.mk g4 (.cons (tp_t (i := 3) (j := 1) (by decide) (by decide) ((e2.trans (e3.trans e4)) _ _ g1)) (.cons (tp_t (i := 2) (j := 2) (by decide) (by decide) ((e3.trans e4) _ _ g2)) (.cons (tp_t (i := 1) (j := 3) (by decide) (by decide) (e4 _ _ g3)) .nil)))
        (by intro t ht; simp only [List.mem_cons, List.not_mem_nil, or_false] at ht; rcases ht with rfl | rfl | rfl <;> (unfold okT; dsimp only; omega)) (by simp)⟩
    · walk_at "ss"
      exact ⟨_, _, rfl, SA, T0⟩
  clear T0 SA
  rintro σ H1 ⟨v1, ts1, rfl, S1, T1⟩
  -- if kind == 5
  refine w_cut (fun σ' H' => ∃ v ts, σ' = [some (.ref d), some (.int num), some (.int kind), some v] ∧ Same H H' ∧ TL H' v ts 4) ?_ ?_
  · walk_at "ss"
    refine w_ite (fun c => ?_) (fun c => ?_)
    · walk_at "ss"
      refine n_tup fun p1 H1 _ e1 g1 => ?_
      walk_at "ss"
      refine n_tup fun p2 H2 _ e2 g2 => ?_
      walk_at "ss"
      refine n_tup fun p3 H3 _ e3 g3 => ?_
      walk_at "ss"
      refine n_tup fun p4 H4 _ e4 g4 => ?_
      walk_at "ss"
      refine n_tup fun p5 H5 _ e5 g5 => ?_
      walk_at "ss"
      exact ⟨_, [(5 * num, 4, 1), (10 * num, 3, 2), (10 * num, 2, 3), (5 * num, 1, 4)], rfl, S1.trans (e1.trans (e2.trans (e3.trans (e4.trans e5)))), TL.mk g5 (.cons (tp_t (i := 4) (j := 1) (by decide) (by decide) ((e2.trans (e3.trans (e4.trans e5))) _ _ g1)) (.cons (tp_t (i := 3) (j := 2) (by decide) (by decide) ((e3.trans (e4.trans e5)) _ _ g2)) (.cons (tp_t (i := 2) (j := 3) (by decide) (by decide) ((e4.trans e5) _ _ g3)) (.cons (tp_t (i := 1) (j := 4) (by decide) (by decide) (e5 _ _ g4)) .nil))))
        (by intro t ht; simp only [List.mem_cons, List.not_mem_nil, or_false] at ht; rcases ht with rfl | rfl | rfl | rfl <;> (unfold okT; dsimp only; omega)) (by simp)⟩
    · walk_at "ss"
      exact ⟨_, _, rfl, S1, T1⟩
  clear T1 S1
  rintro σ H1 ⟨v1, ts1, rfl, S1, T1⟩
  -- one more term
  refine w_cut (fun σ' H' => ∃ v ts, σ' = [some (.ref d), some (.int num), some (.int kind), some v] ∧ Same H H' ∧ TL H' v ts 5) ?_ ?_
  · walk_at "ss"
    refine w_below (S1 _ _ hd) (by decide) (by decide) fun r1 hr1 hr2 => ?_
    have more : tAsg (tOp (rAddU Γ.K) (tVar 3) (tTup (tCons (tTup (tCons (tOp rSubI (tCal (sp__law_below Γ) E0 (tCons (tVar 0) (tCons (tC (.int 5)) tNil))) (tC (.int 2))) (tCons (tCal (sp__law_below Γ) E0 (tCons (tVar 0) (tCons (tC (.int 5)) tNil))) (tCons (tCal (sp__law_below Γ) E0 (tCons (tVar 0) (tCons (tC (.int 5)) tNil))) tNil)))) tNil))) (gName 3)
        ⟨fun σ' H' => ∃ v ts, σ' = [some (.ref d), some (.int num), some (.int kind), some v] ∧ Same H H' ∧ TL H' v ts 5, Q, fun _ _ => False, fun _ _ => False⟩ [some (.ref d), some (.int num), some (.int kind), some v1] H1 := by
      walk_at "ss"
      refine w_below (S1 _ _ hd) (by decide) (by decide) fun a ha1 ha2 => ?_
      walk_at "ss"
      refine w_below (S1 _ _ hd) (by decide) (by decide) fun b hb1 hb2 => ?_
      walk_at "ss"
      refine w_below (S1 _ _ hd) (by decide) (by decide) fun c hc1 hc2 => ?_
      walk_at "ss"
      refine n_tup fun p1 H2 _ e1 g1 => ?_
      walk_at "ss"
      refine n_tup fun p2 H3 _ e2 g2 => ?_
      have T2 := T1.mono (e1.trans e2)
      have hone : ([(a - 2, b.toNat, c.toNat)] : List (Int × Nat × Nat)).map tt = [tt (a - 2, b.toNat, c.toNat)] := rfl
      refine w_addT (es := [tt (a - 2, b.toNat, c.toNat)]) T2.1 (.tup g2 (.cons (tp_t hb1 hc1 (e2 _ _ g1)) .nil)) (by rw [List.length_map]; have := T1.2.2; simp only [List.length_cons, List.length_nil]; omega) fun u H4 e4 t4 => ?_
      walk_at "ss"
      refine ⟨u, ts1 ++ [(a - 2, b.toNat, c.toNat)], rfl, S1.trans (e1.trans (e2.trans e4)), ?_, ?_, ?_⟩
      · rw [app_tt]; exact t4
      · intro t ht
        rcases List.mem_append.mp ht with ht | ht
        · exact T1.2.1 t ht
        · simp only [List.mem_cons, List.not_mem_nil, or_false] at ht
          subst ht
          unfold okT; dsimp only; omega
      · rw [List.length_append]
        have := T1.2.2
        simp only [List.length_cons, List.length_nil]; omega
    walk_at "ss"
    refine w_ite (fun c => ?_) (fun c => ?_)
    · exact w_iteT more
    · walk_at "ss"
      refine w_ite (fun c2 => more) (fun c2 => ?_)
      walk_at "ss"
      exact ⟨_, _, rfl, S1, T1.weak (by decide)⟩
  clear T1 S1
  rintro σ H1 ⟨v1, ts1, rfl, S1, T1⟩
  refine w_cut (fun σ' H' => ∃ v ts, σ' = [some (.ref d), some (.int num), some (.int kind), some v] ∧ Same H H' ∧ TL H' v ts 7) ?_ ?_
  · walk_at "ss"
    refine w_below (S1 _ _ hd) (by decide) (by decide) fun r1 hr1 hr2 => ?_
    walk_at "ss"
    refine w_ite (fun c => ?_) (fun c => ?_)
    · walk_at "ss"
      refine n_tup fun p1 H2 _ e1 g1 => ?_
      walk_at "ss"
      refine n_lst fun p2 H3 _ e2 g2 => ?_
      walk_at "ss"
      have S3 := S1.trans (e1.trans e2)
      refine w_pick (S3 _ _ hd) (SqL.of g2) fun i x hx => ?_
      have Tx : ∃ ts, TL H3 x ts 5 := by
        match i with
        | 0 => cases hx; exact ⟨_, T1.mono (e1.trans e2)⟩
        | 1 => cases hx; exact ⟨[], TL.nil (e2 _ _ g1)⟩
        | n + 2 => simp at hx
      obtain ⟨tsx, Tx⟩ := Tx
      walk_at "ss"
      refine n_tup fun p3 H4 _ e3 g3 => ?_
      walk_at "ss"
      refine n_tup fun p4 H5 _ e4 g4 => ?_
      walk_at "ss"
      refine n_tup fun p5 H6 _ e5 g5 => ?_
      have T6 := Tx.mono (e3.trans (e4.trans e5))
      refine w_addT (es := [tt (15 * num, 2, 2), tt (-2 * num, 3, 3)]) T6.1 (.tup g5 (.cons (tp_t (i := 2) (j := 2) (by decide) (by decide) ((e4.trans e5) _ _ g3)) (.cons (tp_t (i := 3) (j := 3) (by decide) (by decide) (e5 _ _ g4)) .nil))) (by rw [List.length_map]; have := T6.2.2; simp only [List.length_cons, List.length_nil]; omega) fun u H7 e6 t7 => ?_
      walk_at "ss"
      refine ⟨u, tsx ++ [(15 * num, 2, 2), (-2 * num, 3, 3)], rfl, S3.trans (e3.trans (e4.trans (e5.trans e6))), ?_, ?_, ?_⟩
      · rw [app_tt]; exact t7
      · intro t ht
        rcases List.mem_append.mp ht with ht | ht
        · exact Tx.2.1 t ht
        · simp only [List.mem_cons, List.not_mem_nil, or_false] at ht
          rcases ht with rfl | rfl <;> (unfold okT; dsimp only; omega)
      · rw [List.length_append]
        have := Tx.2.2
        simp only [List.length_cons, List.length_nil]; omega
    · walk_at "ss"
      exact ⟨_, _, rfl, S1, T1.weak (by decide)⟩
  clear T1 S1
  rintro σ H1 ⟨v1, ts1, rfl, S1, T1⟩
  walk_at "ss"
  refine w_sl6 T1.1 fun u H2 e2 t2 => ?_
  walk_at "ss"
  refine q u (ts1.take 6) H2 (S1.trans e2) ?_ ⟨by rw [List.length_take]; omega, fun t ht => T1.2.1 t (List.mem_of_mem_take ht)⟩
  show Tp H2 u (.tuple ((ts1.take 6).map tt))
  rw [List.map_take]
  exact t2

/-! ### tables that are drawn -/
def small (x : Int) : Prop := -100 ≤ x ∧ x ≤ 100
def RowAt (H : Hp) (a : Addr) (n : Nat) (row : List Int) : Prop := H a = some (.lst (row.map V.int)) ∧ row.length = n ∧ ∀ x ∈ row, small x
theorem rows_of {P : Nat → Addr → List Int → Prop} : ∀ {refs : List Addr}, (∀ j a, refs[j]? = some a → ∃ row, P j a row) → ∃ rows : List (List Int), rows.length = refs.length ∧ ∀ (j : Nat) row, rows[j]? = some row → ∃ a, refs[j]? = some a ∧ P j a row
  | [], _ => ⟨[], rfl, fun j row h => by simp at h⟩
  | a :: refs, h => by
    obtain ⟨row, hr⟩ := h 0 a rfl
    obtain ⟨rows, h1, h2⟩ := rows_of (P := fun j => P (j + 1)) (refs := refs) fun j b hb => h (j + 1) b hb
    refine ⟨row :: rows, by rw [List.length_cons, List.length_cons, h1], fun j w hw => ?_⟩
    cases j with
    | zero => cases hw; exact ⟨a, rfl, hr⟩
    | succ j => exact h2 j w hw
def sp__law_table (Γ : Gm) : Sp := fun vs H Q _ => ∃ (d : Addr) (m : Int), vs = [.ref d, .int m] ∧ H d = some (dO d) ∧ 2 ≤ m ∧ m ≤ 40 ∧
  ∀ v rows H', Same H H' → Tp H' v (R.tab rows).body → (R.tab rows).ok → (rows.length : Int) ≤ m - 1 → (∀ r ∈ rows, ∀ x ∈ r, small x) → Q v H'
/-- between two rows -/
structure TI' (H H' : Hp) (M : Nat) (Ld Lr : Addr) (dues : List Int) (refs : List Addr) : Prop where
  same : Same H H'
  hd : H' Ld = some (.lst (dues.map V.int))
  hr : H' Lr = some (.lst (refs.map V.ref))
  ne : Ld ≠ Lr
  nr : ∀ a ∈ refs, a ≠ Lr
  nd : ∀ a ∈ refs, a ≠ Ld
  nh : ∀ a ∈ refs, H a = none
  row : ∀ j a, refs[j]? = some a → ∃ row, RowAt H' a (M - 1 - j) row
/-- law_table: _law_d, _law_most, _law_kind, _law_due, _law_rows, _law_one, _law_row, _law_other, _law_k -/
def t__law_table (Γ : Gm) : TS := (tSeq (tPar 1 2 (tCons (tOp (rAddU Γ.K) (tC (.int 2)) (tCal (sp__law_below Γ) E0 (tCons (tVar 0) (tCons (tOp rSubI (tVar 1) (tC (.int 1))) tNil)))) (tCons (tCal (sp__law_below Γ) E0 (tCons (tVar 0) (tCons (tC (.int 4)) tNil))) tNil)))
  (tSeq (tAsg (tOp (rAddU Γ.K) (tLst (tCons (tC (.int 0)) (tCons (tC (.int 0)) tNil))) (tLc (iRng1 (tCons (tOp rSubI (tVar 1) (tC (.int 1))) tNil)) (gName 8) tYes (tOp rSubI (tCal (sp__law_below Γ) E0 (tCons (tVar 0) (tCons (tC (.int 40)) tNil))) (tC (.int 9))) [8])) (gName 3))
  (tSeq (tAsg (tLst tNil) (gName 4))
  (tSeq (tFor (iRng2 (tCons (tC (.int 1)) (tCons (tVar 1) tNil))) (gName 5) (tSeq (tAsg (tLst tNil) (gName 6))
  (tSeq (tFor (iRng2 (tCons (tC (.int 1)) (tCons (tOp (rAddU Γ.K) (tOp rSubI (tVar 1) (tVar 5)) (tC (.int 1))) tNil))) (gName 7) (tDrop (tBM Γ.K "list" rAppend (tVar 6) (tCons (tIf (tTest (tOp (rEqU Γ.K) (tVar 2) (tC (.int 0)))) (tCal (sp__law_below Γ) E0 (tCons (tVar 0) (tCons (tC (.int 5)) tNil))) (tOp rSubI (tOp rSubI (tOp (rIx Γ.K) (tVar 3) (tOp (rAddU Γ.K) (tVar 5) (tVar 7))) (tOp (rIx Γ.K) (tVar 3) (tVar 5))) (tOp (rIx Γ.K) (tVar 3) (tVar 7)))) tNil))))
  (tDrop (tBM Γ.K "list" rAppend (tVar 4) (tCons (tVar 6) tNil))))))
  (tCut (tIfS (tTest (tOp (rEqU Γ.K) (tVar 2) (tC (.int 1)))) (tSeq (tAsg (tCal (sp__law_below Γ) E0 (tCons (tVar 0) (tCons (tOp rSubI (tVar 1) (tC (.int 1))) tNil))) (gName 5))
  (tAsg (tCal (sp__law_below Γ) E0 (tCons (tVar 0) (tCons (tC (.int 9)) tNil))) (gSub (tOp (rIx Γ.K) (tVar 4) (tVar 5)) (tCal (sp__law_below Γ) E0 (tCons (tVar 0) (tCons (tCB (rLen Γ.K) (tCons (tOp (rIx Γ.K) (tVar 4) (tVar 5)) tNil)) tNil))) rSetL))) tNext)
  (tRet (tCB (rTupOf Γ.K) (tCons (tLc (iSeq Γ.K (tVar 4)) (gName 6) tYes (tCB (rTupOf Γ.K) (tCons (tVar 6) tNil)) [6]) tNil))))))))
theorem rd__law_table (Γ : Gm) (vs : List V) (H : Hp) (Q : VK) (E : XK) (h : sp__law_table Γ vs H Q E) : t__law_table Γ ⟨fun _ H' => Q .non H', Q, fun _ _ => False, fun _ _ => False⟩ (startN 9 vs) H := by
  obtain ⟨d, m, rfl, hd, hm, hm2, q⟩ := h
  unfold t__law_table
  walk_at "ss"
  refine w_below hd (by omega) (by omega) fun r hr1 hr2 => ?_
  walk_at "ss"
  refine w_below hd (by decide) (by decide) fun kind hk1 hk2 => ?_
  walk_at "ss"
  obtain ⟨M, hM⟩ : ∃ M : Nat, 2 + r = (M : Int) := ⟨(2 + r).toNat, by omega⟩
  rw [hM]
  have hMr : 2 ≤ M ∧ (M : Int) ≤ m := by omega
  refine n_lst fun l0 H1 hl0 e1 g0 => ?_
  walk_at "ss"
  refine k_rng1 (by omega) ?_
  refine k_lcRange (fun i acc H' => ∃ ns : List Int, acc = ns.map V.int ∧ ns.length = i ∧ ∀ x ∈ ns, -9 ≤ x ∧ x ≤ 30) (fun _ _ => ⟨[], rfl, rfl, (fun _ z => nomatch z)⟩) ?_ ?_
  · rintro i D acc H2 hi hD e2 hacc ⟨ns, rfl, hns, hb⟩
    walk_at "ss"
    refine ⟨rfl, ?_⟩
    walk_at "ss"
    refine w_below ((e1.trans e2) _ _ hd) (by decide) (by decide) fun z hz1 hz2 => ?_
    walk_at "ss"
    refine lcTurn.mk hD e2 hacc (by rw [List.length_map]; omega) ⟨ns ++ [z - 9], by rw [List.map_append]; rfl, by rw [List.length_append, hns]; rfl, fun x hx => ?_⟩
    rcases List.mem_append.mp hx with hx | hx
    · exact hb x hx
    · simp only [List.mem_cons, List.not_mem_nil, or_false] at hx
      omega
  rintro D acc H2 hD e2 hacc ⟨ns, rfl, hns, hb⟩
  refine w_addL (e2 _ _ g0) hacc (by simp only [List.length_cons, List.length_nil, List.length_map]; exact Nat.le_trans (m := 1000) (by omega) (by decide)) fun Ld H3 hLd e3 g3 => ?_
  obtain ⟨dues, hdu⟩ : ∃ dues : List Int, dues = 0 :: 0 :: ns := ⟨_, rfl⟩
  have g3' : H3 Ld = some (.lst (dues.map V.int)) := by rw [hdu]; exact g3
  have hdl : dues.length = M + 1 := by rw [hdu]; simp only [List.length_cons]; omega
  have hdb : ∀ x ∈ dues, -9 ≤ x ∧ x ≤ 30 := fun x hx => by
    rw [hdu] at hx
    simp only [List.mem_cons] at hx
    rcases hx with rfl | rfl | hx
    · decide
    · decide
    · exact hb x hx
  clear g3 hdu
  have S3 := (e1.trans e2).trans e3
  walk_at "ss"
  refine n_lst fun Lr H4 hLr e4 g4 => ?_
  walk_at "ss"
  refine k_rng2 (by omega) ?_
  have ne0 : Ld ≠ Lr := ne_of_none g3' hLr
  have S4 := S3.trans e4
  have hrn : H Lr = none := S3.free hLr
  refine k_range (fun i σ H' => ∃ refs x y z, σ = [some (.ref d), some (.int M), some (.int kind), some (.ref Ld), some (.ref Lr), x, y, z, none] ∧ refs.length = i ∧ TI' H H' M Ld Lr dues refs) ⟨[], none, none, none, rfl, rfl, S4, e4 _ _ g3', g4, ne0, (fun _ z => nomatch z), (fun _ z => nomatch z), (fun _ z => nomatch z), fun j a z => by simp at z⟩ ?_ ?_
  · rintro i σ H5 hi ⟨refs, x, y, z, rfl, hrl, T⟩
    have hi' : i < M - 1 := by omega
    walk_at "ss"
    refine n_lst fun l H6 hl e6 g6 => ?_
    walk_at "ss"
    refine k_rng2 (by omega) ?_
    have S6 := T.same.trans e6
    refine k_range (fun k σ H' => ∃ row z, σ = [some (.ref d), some (.int M), some (.int kind), some (.ref Ld), some (.ref Lr), some (.int (1 + (i : Int))), some (.ref l), z, none] ∧ Same H5 H' ∧ RowAt H' l k row) ⟨[], z, rfl, e6, g6, rfl, (fun _ z => nomatch z)⟩ ?_ ?_
    · rintro k σ H7 hk ⟨row, z', rfl, e7, hl7, hrowl, hrb⟩
      have hk' : k < M - 1 - i := by omega
      walk_at "ss"
      refine w_tyL hl7 ?_
      walk_at "ss"
      have done : ∀ x : Int, small x → rAppend (.ref l) [.int x] H7 (fun _ H1 => ∃ row z, (List.set [some (V.ref d), some (.int M), some (.int kind), some (.ref Ld), some (.ref Lr), some (.int (1 + (i : Int))), some (.ref l), z', none] 7 (some (.int (1 + (k : Int))))) = [some (.ref d), some (.int M), some (.int kind), some (.ref Ld), some (.ref Lr), some (.int (1 + (i : Int))), some (.ref l), z, none] ∧ Same H5 H1 ∧ RowAt H1 l (k + 1) row) := fun x hx => by
        refine w_app hl7 (by rw [List.length_map]; omega) ?_
        refine ⟨row ++ [x], _, rfl, Same.mut e7 hl, ?_, by rw [List.length_append, hrowl]; rfl, fun w hw => ?_⟩
        · rw [upd_same, List.map_append]; rfl
        · rcases List.mem_append.mp hw with hw | hw
          · exact hrb w hw
          · simp only [List.mem_cons, List.not_mem_nil, or_false] at hw
            rw [hw]; exact hx
      refine w_ite (fun c => ?_) (fun c => ?_)
      · walk_at "ss"
        refine w_below ((T.same.trans e7) _ _ hd) (by decide) (by decide) fun w hw1 hw2 => ?_
        walk_at "ss"
        exact done w ⟨by omega, by omega⟩
      · walk_at "ss"
        have hdd := e7 _ _ T.hd
        have gt : ∀ (n : Int), 0 ≤ n → n < M + 1 → ∃ x, dues[n.toNat]? = some x ∧ -9 ≤ x ∧ x ≤ 30 := fun n h1 h2 => by
          have : n.toNat < dues.length := by omega
          exact ⟨_, List.getElem?_eq_getElem this, hdb _ (List.getElem_mem this)⟩
        obtain ⟨x1, a1, b1⟩ := gt (1 + (i : Int) + (1 + (k : Int))) (by omega) (by omega)
        obtain ⟨x2, a2, b2⟩ := gt (1 + (i : Int)) (by omega) (by omega)
        obtain ⟨x3, a3, b3⟩ := gt (1 + (k : Int)) (by omega) (by omega)
        refine w_ixL (SqL.of hdd) (atI_of (by omega) (by rw [List.getElem?_map, a1]; rfl)) ?_
        walk_at "ss"
        refine w_ixL (SqL.of hdd) (atI_of (by omega) (by rw [List.getElem?_map, a2]; rfl)) ?_
        walk_at "ss"
        refine w_ixL (SqL.of hdd) (atI_of (by omega) (by rw [List.getElem?_map, a3]; rfl)) ?_
        walk_at "ss"
        exact done _ ⟨by omega, by omega⟩
    · rintro σ H7 ⟨row, z', rfl, e7, hl7, hrowl, hrb⟩
      walk_at "ss"
      have hr7 := e7 _ _ T.hr
      refine w_tyL hr7 ?_
      walk_at "ss"
      refine w_app hr7 (by rw [List.length_map]; omega) ?_
      have nl : l ≠ Lr := fun z => by rw [z, T.hr] at hl; cases hl
      have nl2 : l ≠ Ld := fun z => by rw [z, T.hd] at hl; cases hl
      have mem : ∀ {P : Addr → Prop}, (∀ a ∈ refs, P a) → P l → ∀ a ∈ refs ++ [l], P a := fun h1 h2 a ha => by
        rcases List.mem_append.mp ha with ha | ha
        · exact h1 a ha
        · simp only [List.mem_cons, List.not_mem_nil, or_false] at ha
          rw [ha]; exact h2
      refine ⟨refs ++ [l], _, _, _, rfl, by rw [List.length_append, hrl]; rfl, Same.mut (T.same.trans e7) hrn, ?_, ?_, ne0, mem T.nr nl, mem T.nd nl2, mem T.nh (T.same.free hl), fun j a hj => ?_⟩
      · rw [upd_ne ne0]; exact e7 _ _ T.hd
      · rw [upd_same, List.map_append]; rfl
      · by_cases hjl : j < refs.length
        · rw [List.getElem?_append_left hjl] at hj
          obtain ⟨rw', h1, h2⟩ := T.row j a hj
          refine ⟨rw', ?_, h2⟩
          rw [upd_ne (T.nr a (List.mem_of_getElem? hj))]
          exact e7 _ _ h1
        · have hj2 : j = refs.length := by
            have := (List.getElem?_eq_some_iff.mp hj).1
            rw [List.length_append] at this
            simp only [List.length_cons, List.length_nil] at this
            omega
          subst hj2
          rw [List.getElem?_append_right (Nat.le_refl _), Nat.sub_self] at hj
          cases hj
          refine ⟨row, by rw [upd_ne nl]; exact hl7, ?_, hrb⟩
          omega
  · rintro σ H5 ⟨refs, x, y, z, rfl, hrl, T⟩
    have hrl' : refs.length = M - 1 := by omega
    refine w_cut (fun σ' H' => ∃ x y z, σ' = [some (.ref d), some (.int M), some (.int kind), some (.ref Ld), some (.ref Lr), x, y, z, none] ∧ TI' H H' M Ld Lr dues refs) ?_ ?_
    · walk_at "ss"
      refine w_ite (fun c => ?_) (fun c => ?_)
      · walk_at "ss"
        refine w_below (T.same _ _ hd) (by omega) (by omega) fun one ho1 ho2 => ?_
        walk_at "ss"
        refine w_below (T.same _ _ hd) (by decide) (by decide) fun val hv1 hv2 => ?_
        walk_at "ss"
        have hj : one.toNat < refs.length := by omega
        have ha := List.getElem?_eq_getElem hj
        obtain ⟨row, hrow, hrowl, hrb⟩ := T.row _ _ ha
        refine w_ixL (SqL.of T.hr) (atI_of ho1 (by rw [List.getElem?_map, ha]; rfl)) ?_
        walk_at "ss"
        refine w_ixL (SqL.of T.hr) (atI_of ho1 (by rw [List.getElem?_map, ha]; rfl)) ?_
        walk_at "ss"
        refine w_lenL (SqL.of hrow) ?_
        walk_at "ss"
        rw [List.length_map, hrowl]
        refine w_below (T.same _ _ hd) (by omega) (by omega) fun k hk1 hk2 => ?_
        obtain ⟨kk, hkk⟩ : ∃ kk : Nat, k = (kk : Int) := ⟨k.toNat, by omega⟩
        subst hkk
        have hnr := T.nr _ (List.mem_of_getElem? ha)
        have hnH : H (refs[one.toNat]) = none := T.nh _ (List.mem_of_getElem? ha)
        refine w_setL hrow (j := kk) (by unfold ixN; rw [if_pos (by omega), if_pos (by rw [List.length_map, hrowl]; omega)]; simp) ?_
        walk_at "ss"
        refine ⟨_, _, _, rfl, Same.mut T.same hnH, ?_, ?_, ne0, T.nr, T.nd, T.nh, fun j a hja => ?_⟩
        · rw [upd_ne (T.nd _ (List.mem_of_getElem? ha)).symm]; exact T.hd
        · rw [upd_ne hnr.symm]; exact T.hr
        · by_cases ea : a = refs[one.toNat]
          · subst ea
            obtain ⟨row2, h1, h2, h3⟩ := T.row _ _ hja
            rw [hrow] at h1
            have e2 : row2.length = row.length := by
              have := congrArg (fun o => match o with | some (HO.lst l) => l.length | _ => 0) h1
              simpa using this.symm
            refine ⟨row.set kk val, ?_, by rw [List.length_set, ← e2]; exact h2, fun w hw => ?_⟩
            · rw [upd_same, List.map_set]
            · rcases List.mem_or_eq_of_mem_set hw with hw | hw
              · exact hrb w hw
              · rw [hw]; exact ⟨by omega, by omega⟩
          · obtain ⟨row2, h1, h2⟩ := T.row _ _ hja
            exact ⟨row2, by rw [upd_ne ea]; exact h1, h2⟩
      · walk_at "ss"
        exact ⟨_, _, _, rfl, T⟩
    clear T
    rintro σ H6 ⟨x, y, z, rfl, T⟩
    obtain ⟨rows, hl1, hl2⟩ := rows_of T.row
    walk_at "ss"
    refine k_seqL (SqL.of T.hr) ?_
    refine k_lcList (xs := refs.map V.ref) (fun i acc H' => TpAll H' acc ((rows.take i).map fun r => PyData.tuple (r.map PyData.int))) (SqL.of T.hr) (fun _ _ => .nil) ?_ ?_
    · rintro i x D acc H7 hi hD e7 hacc tacc
      have hil : i < rows.length := by
        have := (List.getElem?_eq_some_iff.mp hi).1
        rw [List.length_map] at this
        omega
      have hrow := List.getElem?_eq_getElem hil
      obtain ⟨a, hra, hro, hrol, hrob⟩ := hl2 i _ hrow
      rw [List.getElem?_map, hra] at hi
      cases hi
      walk_at "ss"
      refine ⟨rfl, ?_⟩
      walk_at "ss"
      refine w_tupL (SqL.of (e7 _ _ hro)) fun t H8 ht e8 g8 => ?_
      have hacc8 := e8 _ _ hacc
      have tl := tacc.length
      rw [List.length_map, List.length_take] at tl
      refine lcTurn.mk hD (e7.trans e8) hacc8 (by omega) ?_
      rw [take_succ hrow, List.map_append]
      have up : Tups H8 (upd H8 D (.lst (acc ++ [V.ref t]))) := Tups.upd (fun _ _ z => z) (fun xs z => by rw [hacc8] at z; cases z)
      exact ((tacc.mono (Same.tups e8)).append (.cons (.tup g8 (TpAll.of_ints _ _)) .nil)).mono up
    · rintro D acc H7 hD e7 hacc tacc
      rw [List.length_map, ← hl1, List.take_length] at tacc
      walk_at "ss"
      refine w_tupL (SqL.of hacc) fun t H8 ht e8 g8 => ?_
      refine q _ rows H8 (T.same.trans (e7.trans e8)) (.tup g8 (tacc.mono (Same.tups e8))) ⟨by omega, by omega, fun i r hr => ?_⟩ (by omega) (fun r hr => ?_)
      · obtain ⟨a, h1, h2, h3, h4⟩ := hl2 i r hr
        refine ⟨by omega, fun x hx => ?_⟩
        have := h4 x hx
        unfold small at this
        omega
      · obtain ⟨i, hi⟩ := List.getElem?_of_mem hr
        obtain ⟨a, h1, h2, h3, h4⟩ := hl2 i r hi
        exact h4
/-! ### rules that are drawn -/
/-- R.small: what the drawn tables keep -/
def R.fit (most : Int) : R → Prop
  | .tab rows => (rows.length : Int) ≤ most - 1 ∧ ∀ r ∈ rows, ∀ x ∈ r, small x
  | .trm _ => True
def sp__law_rule (Γ : Gm) : Sp := fun vs H Q _ => ∃ (d : Addr) (m : Int), vs = [.ref d, .int m] ∧ H d = some (dO d) ∧ 2 ≤ m ∧ m ≤ 40 ∧ ∀ v r H', Same H H' → RuleAt Γ H' v r → r.fit m → Q v H'
/-- a rule of parts that are one, made -/
theorem w_mkRule {Γ : Gm} {H : Hp} {Q : VK} {v : V} (r : R) (hv : Tp H v r.body) (ok : r.ok) (hr : ruleOf (.str r.kind) r.body = some r) (k : ∀ p H', Same H H' → RuleAt Γ H' (.ref p) r → Q (.ref p) H') : kMak Γ.cRule (sp_RuleU_initU Γ) E0 [.str r.kind, v] H Q := by
  intro x dx hx hdx ne
  have e1 : Same H (upd (upd H dx (.own x)) x (.ins Γ.cRule dx [])) := (Same.new hdx).mut hx
  refine ⟨x, dx, _, .str r.kind, v, r.body, rfl, upd_same, .str _, (hv.mono (Same.tups e1)).dv, ⟨(fun z => by rw [hr] at z; cases z), ?_⟩⟩
  intro r' s b hr' es ev _ _ _ H' keep h'
  cases es
  rw [hr] at hr'
  cases hr'
  subst ev
  have keep' : Same H H' := fun c o ho => keep c o (fun z => by rw [z, hx] at ho; cases ho) (e1 c o ho)
  exact ⟨rfl, k x H' keep' ⟨x, dx, b, rfl, h', hv.mono (Same.tups keep'), ok⟩⟩
theorem ints_all {lo hi : Int} : ∀ {ns : List Int}, (∀ n ∈ ns, lo ≤ n ∧ n ≤ hi) → (ns.map PyData.int).all (inD lo hi) = true
  | [], _ => rfl
  | n :: ns, h => by
    rw [List.map_cons, List.all_cons, ints_all (fun m hm => h m (List.mem_cons_of_mem _ hm))]
    have := h n List.mem_cons_self
    simp only [inD, Bool.and_true, Bool.and_eq_true, decide_eq_true_eq]
    exact this
theorem ints_id : ∀ ns : List Int, (ns.map PyData.int).map intD = ns
  | [] => rfl
  | n :: ns => by rw [List.map_cons, List.map_cons, ints_id ns]; rfl
theorem ruleOf_str (s : Str) (d : PyData) : ruleOf (.str s) d = if s = "table" then (if areRows d then some (.tab (rowsD d)) else none) else if s = "terms" then (if areTerms d then some (.trm (termsD d)) else none) else none := rfl
theorem ruleOf_table (d : PyData) : ruleOf (.str "table") d = if areRows d then some (.tab (rowsD d)) else none := by
  rw [ruleOf_str, if_pos rfl]
theorem ruleOf_terms (d : PyData) : ruleOf (.str "terms") d = if areTerms d then some (.trm (termsD d)) else none := by
  rw [ruleOf_str, if_neg (show ¬ ("terms" : Str) = "table" from by decide +kernel), if_pos rfl]
/-- what is a rule is told back -/
theorem ruleOf_body {r : R} (ok : r.ok) : ruleOf (.str r.kind) r.body = some r := by
  cases r with
  | tab rows =>
    obtain ⟨h1, h2, h3⟩ := ok
    have ha : areRows (R.tab rows).body = true := by
      simp only [R.body, areRows, List.length_map]
      rw [decide_eq_true h1, decide_eq_true h2]
      simp only [Bool.true_and, List.all_eq_true, List.mem_range]
      intro i hi
      rw [List.getD_eq_getElem?_getD, List.getElem?_map, List.getElem?_eq_getElem hi]
      obtain ⟨h4, h5⟩ := h3 i _ (List.getElem?_eq_getElem hi)
      simp only [Option.map_some, Option.getD_some, rowOk, List.length_map]
      rw [ints_all h5, decide_eq_true h4]
      rfl
    have hb : rowsD (R.tab rows).body = rows := by
      simp only [R.body, rowsD, List.map_map]
      conv => rhs; rw [← List.map_id rows]
      exact List.map_congr_left fun r _ => ints_id r
    show ruleOf (.str "table") _ = _
    rw [ruleOf_table, if_pos ha, hb]
  | trm ts =>
    obtain ⟨h1, h2⟩ := ok
    have hd : ∀ t ∈ ts, termD (.tuple ((tri t).map PyData.int)) = t := fun t _ => by
      obtain ⟨n, i, j⟩ := t
      simp [termD, intsD, tri, intD]
    have ha : areTerms (R.trm ts).body = true := by
      simp only [R.body, areTerms, List.length_map, List.all_map, Bool.and_eq_true, decide_eq_true_eq, List.all_eq_true]
      refine ⟨h1, fun t ht => ?_⟩
      have := h2 t ht
      simp only [Function.comp, tri, List.map_cons, List.map_nil, isTerm, inD, Bool.and_eq_true, decide_eq_true_eq]
      omega
    have hb : termsD (R.trm ts).body = ts := by
      simp only [R.body, termsD, List.map_map]
      conv => rhs; rw [← List.map_id ts]
      exact List.map_congr_left fun t ht => hd t ht
    show ruleOf (.str "terms") _ = _
    rw [ruleOf_terms, if_pos ha, hb]
/-- law_rule: _law_d, _law_most -/
def t__law_rule (Γ : Gm) : TS := (tSeq (tIfS (tTest (tOp (rEqU Γ.K) (tCal (sp__law_below Γ) E0 (tCons (tVar 0) (tCons (tC (.int 2)) tNil))) (tC (.int 0)))) (tRet (tMak Γ.cRule (sp_RuleU_initU Γ) E0 (tCons (tC (.str "table")) (tCons (tCal (sp__law_table Γ) E0 (tCons (tVar 0) (tCons (tVar 1) tNil))) tNil)))) tNext)
  (tRet (tMak Γ.cRule (sp_RuleU_initU Γ) E0 (tCons (tC (.str "terms")) (tCons (tCal (sp__law_terms Γ) E0 (tCons (tVar 0) tNil)) tNil)))))
theorem rd__law_rule (Γ : Gm) (vs : List V) (H : Hp) (Q : VK) (E : XK) (h : sp__law_rule Γ vs H Q E) : t__law_rule Γ ⟨fun _ H' => Q .non H', Q, fun _ _ => False, fun _ _ => False⟩ (startN 2 vs) H := by
  obtain ⟨d, m, rfl, hd, hm, hm2, q⟩ := h
  unfold t__law_rule
  walk_at "ss"
  refine w_below hd (by decide) (by decide) fun r hr1 hr2 => ?_
  walk_at "ss"
  refine w_ite (fun c => ?_) (fun c => ?_)
  · walk_at "ss"
    refine ⟨d, m, rfl, hd, hm, hm2, fun v rows H' e tv ok hl hs => ?_⟩
    refine w_mkRule (R.tab rows) tv ok (ruleOf_body ok) fun p H2 e2 hr => ?_
    exact q _ _ H2 (e.trans e2) hr ⟨hl, hs⟩
  · walk_at "ss"
    refine ⟨d, rfl, hd, fun v ts H' e tv ok => ?_⟩
    refine w_mkRule (R.trm ts) tv ok (ruleOf_body ok) fun p H2 e2 hr => ?_
    exact q _ _ H2 (e.trans e2) hr trivial
theorem k_kind {Γ : Gm} {H : Hp} {v : V} {r : R} {Q : VK} (h : RuleAt Γ H v r) (q : Q (.str r.kind) H) : kPrp Γ.cRule "form" v H Q := by
  obtain ⟨p, dx, b, rfl, h2, h3, h4⟩ := h
  exact ⟨p, dx, _, _, rfl, h2, rfl2_form _ _, q⟩
theorem k_parts {Γ : Gm} {H : Hp} {v : V} {r : R} {Q : VK} (h : RuleAt Γ H v r) (q : ∀ b xs, H b = some (.tup xs) → Tp H (.ref b) r.body → Q (.ref b) H) : kPrp Γ.cRule "body" v H Q := by
  obtain ⟨p, dx, b, rfl, h2, h3, h4⟩ := h
  refine ⟨p, dx, _, _, rfl, h2, rfl2_body _ _, ?_⟩
  cases r <;> (cases h3 with | tup h k => exact q b _ h (.tup h k))
/-- the greatest heap that a rule has points for, of at most so many things -/
def R.topm (r : R) (most : Int) : Int := match r with
  | .tab rows => if (rows.length : Int) + 1 < most then (rows.length : Int) + 1 else most
  | .trm _ => most
def sp__law_top (Γ : Gm) : Sp := fun vs H Q _ => ∃ v r m, vs = [v, .int m] ∧ RuleAt Γ H v r ∧ ∀ H', Same H H' → Q (.int (r.topm m)) H'
/-- law_top: _law_rule_here, _law_most -/
def t__law_top (Γ : Gm) : TS := (tRet (tIf (tTest (tOp (rEqU Γ.K) (tPrp Γ.cRule "form" (tVar 0)) (tC (.str "table")))) (tCB (rMin Γ.K) (tCons (tLst (tCons (tVar 1) (tCons (tOp (rAddU Γ.K) (tCB (rLen Γ.K) (tCons (tPrp Γ.cRule "body" (tVar 0)) tNil)) (tC (.int 1))) tNil))) tNil)) (tVar 1)))
theorem rd__law_top (Γ : Gm) (vs : List V) (H : Hp) (Q : VK) (E : XK) (h : sp__law_top Γ vs H Q E) : t__law_top Γ ⟨fun _ H' => Q .non H', Q, fun _ _ => False, fun _ _ => False⟩ (startN 2 vs) H := by
  obtain ⟨v, r, m, rfl, hr, q⟩ := h
  unfold t__law_top
  walk_at "ss"
  refine k_kind hr ?_
  walk_at "ss"
  rw [kind_tab]
  cases r with
  | tab rows =>
    refine w_iteT ?_
    walk_at "ss"
    refine k_parts hr fun b xs hb ht => ?_
    walk_at "ss"
    refine w_lenT (SqT.of hb) ?_
    walk_at "ss"
    obtain ⟨a, ys, z1, z2, z3⟩ := ht.inv
    cases z1
    rw [hb] at z2
    cases z2
    rw [z3.length, List.length_map]
    refine n_lst fun l H1 hl e1 g1 => ?_
    walk_at "ss"
    refine ⟨l, [m, (rows.length : Int) + 1], rfl, SqL.of g1, Nat.succ_pos _, fun x hx hle => ?_⟩
    have e : x = (R.tab rows).topm m := by
      have h1 := hle m (by simp)
      have h2 := hle ((rows.length : Int) + 1) (by simp)
      simp only [List.mem_cons, List.not_mem_nil, or_false] at hx
      simp only [R.topm]
      split <;> omega
    rw [e]
    exact q _ e1
  | trm ts =>
    refine w_iteF ?_
    walk_at "ss"
    exact q H (Same.refl H)
/-- values that are no heaps, as data -/
def noHeaps (n : Int) : List PyData := [.none, .int 0, .int (-1), .str "1", .bool true, .tuple [.int 1], .int n]
def sp__law_no_heaps (Γ : Gm) : Sp := fun vs H Q _ => ∃ v r m, vs = [v, .int m] ∧ RuleAt Γ H v r ∧ ∀ l xs H', Same H H' → H l = none → H' l = some (.lst xs) → TpAll H' xs (noHeaps (r.topm m + 1)) → Q (.ref l) H'
/-- law_no_heaps: _law_rule_here, _law_most -/
def t__law_no_heaps (Γ : Gm) : TS := (tRet (tLst (tCons (tC .non) (tCons (tC (.int 0)) (tCons (tUn (rU fun i => .int (-i)) (tC (.int 1))) (tCons (tC (.str "1")) (tCons (tC (.bl true)) (tCons (tTup (tCons (tC (.int 1)) tNil)) (tCons (tOp (rAddU Γ.K) (tCal (sp__law_top Γ) E0 (tCons (tVar 0) (tCons (tVar 1) tNil))) (tC (.int 1))) tNil)))))))))
theorem rd__law_no_heaps (Γ : Gm) (vs : List V) (H : Hp) (Q : VK) (E : XK) (h : sp__law_no_heaps Γ vs H Q E) : t__law_no_heaps Γ ⟨fun _ H' => Q .non H', Q, fun _ _ => False, fun _ _ => False⟩ (startN 2 vs) H := by
  obtain ⟨v, r, m, rfl, hr, q⟩ := h
  unfold t__law_no_heaps
  walk_at "ss"
  refine n_tup fun t H1 ht e1 g1 => ?_
  walk_at "ss"
  refine ⟨v, r, m, rfl, hr.mono e1, fun H2 e2 => ?_⟩
  walk_at "ss"
  refine n_lst fun l H3 hl e3 g3 => ?_
  refine q l _ H3 (e1.trans (e2.trans e3)) ((e1.trans e2).free hl) g3 (.cons .non (.cons (.int 0) (.cons (.int (-1)) (.cons (.str _) (.cons (.bl true) (.cons (.tup ((e2.trans e3) _ _ g1) (.cons (.int 1) .nil)) (.cons (.int _) .nil)))))))

/-! ### equal and of the same kind at every level: asked of equal data alone -/
mutual
/-- data without dicts, nested less deep than n -/
def flatN : Nat → PyData → Bool
  | 0, _ => false
  | _ + 1, .none => true
  | _ + 1, .bool _ => true
  | _ + 1, .int _ => true
  | _ + 1, .str _ => true
  | n + 1, .list ds => decide (ds.length ≤ 100000) && flatAll n ds
  | n + 1, .tuple ds => decide (ds.length ≤ 100000) && flatAll n ds
  | _ + 1, .dict _ => false
def flatAll : Nat → List PyData → Bool
  | _, [] => true
  | n, d :: ds => flatN n d && flatAll n ds
end
theorem flatAll_get : ∀ {ds : List PyData} {n i : Nat} {d : PyData}, flatAll n ds = true → ds[i]? = some d → flatN n d = true
  | [], _, _, _, _, h => by simp at h
  | d :: ds, n, 0, _, h, e => by
    cases e
    unfold flatAll at h
    exact (Bool.and_eq_true_iff.mp h).1
  | d :: ds, n, i + 1, _, h, e => by
    unfold flatAll at h
    exact flatAll_get (Bool.and_eq_true_iff.mp h).2 (by simpa using e)
def spn__law_equal (Γ : Gm) (n : Nat) : Sp := fun vs H Q _ => ∃ x y d, vs = [x, y] ∧ Dv H x d ∧ Dv H y d ∧ flatN n d = true ∧ ∀ H', Same H H' → Q (.bl true) H'
def sp__law_equal (Γ : Gm) : Sp := spn__law_equal Γ 45
/-- law_equal: _law_actual, _law_expected, _law_key, _law_k -/
def t__law_equal (Γ : Gm) (n : Nat) : TS := (tSeq (tIfS (tTest (tOp rIsU (tVar 1) (tC .non))) (tRet (tOp rIsU (tVar 0) (tC .non))) tNext)
  (tSeq (tIfS (tB (tCB (rIsi Γ.K) (tCons (tVar 1) (tCons (tC (.ty "bool")) tNil)))) (tRet (tAndV (tCB (rIsi Γ.K) (tCons (tVar 0) (tCons (tC (.ty "bool")) tNil))) (tOp (rEqU Γ.K) (tVar 0) (tVar 1)))) tNext)
  (tSeq (tIfS (tB (tCB (rIsi Γ.K) (tCons (tVar 1) (tCons (tC (.ty "int")) tNil)))) (tRet (tAndV (tCB (rIsi Γ.K) (tCons (tVar 0) (tCons (tC (.ty "int")) tNil))) (tAndV (tNotV (tCB (rIsi Γ.K) (tCons (tVar 0) (tCons (tC (.ty "bool")) tNil)))) (tOp (rEqU Γ.K) (tVar 0) (tVar 1))))) tNext)
  (tSeq (tIfS (tB (tCB (rIsi Γ.K) (tCons (tVar 1) (tCons (tC (.ty "str")) tNil)))) (tRet (tAndV (tCB (rIsi Γ.K) (tCons (tVar 0) (tCons (tC (.ty "str")) tNil))) (tOp (rEqU Γ.K) (tVar 0) (tVar 1)))) tNext)
  (tSeq (tIfS (tB (tCB (rIsi Γ.K) (tCons (tVar 1) (tCons (tC (.ty "dict")) tNil)))) tNever tNext)
  (tSeq (tIfS (tTest (tOp (rNeU Γ.K) (tCB (rIsi Γ.K) (tCons (tVar 1) (tCons (tC (.ty "tuple")) tNil))) (tCB (rIsi Γ.K) (tCons (tVar 0) (tCons (tC (.ty "tuple")) tNil))))) (tRet (tC (.bl false))) tNext)
  (tSeq (tIfS (tTest (tOp (rNeU Γ.K) (tCB (rIsi Γ.K) (tCons (tVar 1) (tCons (tC (.ty "list")) tNil))) (tCB (rIsi Γ.K) (tCons (tVar 0) (tCons (tC (.ty "list")) tNil))))) (tRet (tC (.bl false))) tNext)
  (tSeq (tIfS (tTest (tOp (rNeU Γ.K) (tCB (rLen Γ.K) (tCons (tVar 0) tNil)) (tCB (rLen Γ.K) (tCons (tVar 1) tNil)))) (tRet (tC (.bl false))) tNext)
  (tRet (tCB (rAll Γ.K) (tCons (tLc (iRng1 (tCons (tCB (rLen Γ.K) (tCons (tVar 1) tNil)) tNil)) (gName 3) tYes (tCal (spn__law_equal Γ n) E0 (tCons (tOp (rIx Γ.K) (tVar 0) (tVar 3)) (tCons (tOp (rIx Γ.K) (tVar 1) (tVar 3)) tNil))) [3]) tNil)))))))))))
theorem rd0__law_equal (Γ : Gm) (vs : List V) (H : Hp) (Q : VK) (E : XK) (h : spn__law_equal Γ 0 vs H Q E) : False := by
  obtain ⟨x, y, d, _, _, _, h, _⟩ := h
  unfold flatN at h
  cases h
theorem isN_false {x : V} (h : x ≠ .non) : decide (x = V.non) = false := decide_eq_false h
theorem rd__law_equal (Γ : Gm) (n : Nat) (vs : List V) (H : Hp) (Q : VK) (E : XK) (h : spn__law_equal Γ (n + 1) vs H Q E) : t__law_equal Γ n ⟨fun _ H' => Q .non H', Q, fun _ _ => False, fun _ _ => False⟩ (startN 4 vs) H := by
  obtain ⟨x, y, d, rfl, hx, hy, hf, k⟩ := h
  have kk := k H (Same.refl H)
  unfold t__law_equal
  walk_at "ss"
  -- None
  by_cases dn : d = .none
  · subst dn
    cases hx
    cases hy
    rw [decide_eq_true rfl]
    walk_at "ss"
    rw [decide_eq_true rfl]
    exact kk
  have yn : y ≠ .non := by
    rintro rfl
    cases hy
    exact dn rfl
  rw [isN_false yn]
  walk_at "ss"
  refine w_isi hy.tag (by decide) ?_
  rw [hy.ty]
  walk_at "ss"
  refine w_ite (fun e => ?_) (fun e => ?_)
  · -- a truth value
    cases d with
    | bool b =>
      cases hx
      cases hy
      walk_at "ss"
      refine w_isi (.bl b) (by decide) ?_
      walk_at "ss"
      rw [if_pos (show isTy H "bool" (.bl b) = true from by simp [isTy, tyN, tyTab])]
      walk_at "ss"
      rw [decide_eq_true rfl]
      exact kk
    | _ => simp [tyD, tyTab] at e
  walk_at "ss"
  refine w_isi hy.tag (by decide) ?_
  rw [hy.ty]
  walk_at "ss"
  refine w_ite (fun e2 => ?_) (fun e2 => ?_)
  · cases d with
    | int b =>
      cases hx
      cases hy
      walk_at "ss"
      refine w_isi (.int b) (by decide) ?_
      walk_at "ss"
      rw [if_pos (show isTy H "int" (.int b) = true from by simp [isTy, tyN, tyTab])]
      walk_at "ss"
      refine w_isi (.int b) (by decide) ?_
      walk_at "ss"
      rw [if_pos (show (!isTy H "bool" (.int b)) = true from by simp [isTy, tyN, tyTab])]
      walk_at "ss"
      rw [decide_eq_true rfl]
      exact kk
    | bool b => simp [tyD, tyTab] at e
    | _ => simp [tyD, tyTab] at e2
  walk_at "ss"
  refine w_isi hy.tag (by decide) ?_
  rw [hy.ty]
  walk_at "ss"
  refine w_ite (fun e3 => ?_) (fun e3 => ?_)
  · cases d with
    | str b =>
      cases hx
      cases hy
      walk_at "ss"
      refine w_isi (.str b) (by decide) ?_
      walk_at "ss"
      rw [if_pos (show isTy H "str" (.str b) = true from by simp [isTy, tyN, tyTab])]
      walk_at "ss"
      rw [decide_eq_true rfl]
      exact kk
    | _ => simp [tyD, tyTab] at e3
  walk_at "ss"
  refine w_isi hy.tag (by decide) ?_
  rw [hy.ty]
  walk_at "ss"
  have ndict : tyTab (tyD d) "dict" = false := by
    cases d with
    | dict kvs => unfold flatN at hf; cases hf
    | _ => simp [tyD, tyTab]
  rw [ndict]
  walk_at "ss"
  -- a tuple or a list
  have main : ∀ (a b : Addr) (xs ys : List V) (ds : List PyData), x = .ref a → y = .ref b → (SqL Γ.K H a xs ∨ SqT Γ.K H a xs) → (SqL Γ.K H b ys ∨ SqT Γ.K H b ys) → DvAll H xs ds → DvAll H ys ds → ds.length ≤ 100000 → flatAll n ds = true →
      (tSeq (tIfS (tTest (tOp (rNeU Γ.K) (tCB (rLen Γ.K) (tCons (tVar 0) tNil)) (tCB (rLen Γ.K) (tCons (tVar 1) tNil)))) (tRet (tC (.bl false))) tNext)
      (tRet (tCB (rAll Γ.K) (tCons (tLc (iRng1 (tCons (tCB (rLen Γ.K) (tCons (tVar 1) tNil)) tNil)) (gName 3) tYes (tCal (spn__law_equal Γ n) E0 (tCons (tOp (rIx Γ.K) (tVar 0) (tVar 3)) (tCons (tOp (rIx Γ.K) (tVar 1) (tVar 3)) tNil))) [3]) tNil)))) ⟨fun _ H' => Q .non H', Q, fun _ _ => False, fun _ _ => False⟩ (startN 4 [x, y]) H := by
    rintro a b xs ys ds rfl rfl ha hb hxs hys hsz hfa
    have len : ∀ {c : Addr} {zs : List V} {R : VK}, (SqL Γ.K H c zs ∨ SqT Γ.K H c zs) → R (.int (zs.length : Int)) H → rLen Γ.K [.ref c] H R := fun h q => h.elim (fun h => w_lenL h q) (fun h => w_lenT h q)
    have hxl := hxs.length
    have hyl := hys.length
    walk_at "ss"
    refine len ha ?_
    walk_at "ss"
    refine len hb ?_
    walk_at "ss"
    rw [hxl, hyl, decide_eq_true rfl]
    walk_at "ss"
    refine len hb ?_
    walk_at "ss"
    refine k_rng1 (by omega) ?_
    refine k_lcRange (fun i acc H' => acc = (List.replicate i true).map V.bl) (fun _ _ => rfl) ?_ ?_
    · rintro i D acc H2 hi hD e4 hacc rfl
      have hi' : i < ds.length := by omega
      have hdi := List.getElem?_eq_getElem hi'
      obtain ⟨xi, hxi, dxi⟩ := hxs.get hdi
      obtain ⟨yi, hyi, dyi⟩ := hys.get hdi
      walk_at "ss"
      refine ⟨rfl, ?_⟩
      walk_at "ss"
      have at_ : ∀ {c : Addr} {zs : List V} {z : V} {R : VK}, (SqL Γ.K H c zs ∨ SqT Γ.K H c zs) → zs[i]? = some z → R z H2 → rIx Γ.K (.ref c) (.int (0 + (i : Int))) H2 R := fun h g q => h.elim (fun h => w_ixL (e4.seq h) (atI_of (by omega) (by rw [Int.zero_add]; exact g)) q) (fun h => w_ixT (e4.seqT h) (atI_of (by omega) (by rw [Int.zero_add]; exact g)) q)
      refine at_ ha hxi ?_
      walk_at "ss"
      refine at_ hb hyi ?_
      walk_at "ss"
      refine ⟨xi, yi, _, rfl, dxi.mono e4, dyi.mono e4, flatAll_get hfa hdi, fun H3 e5 => ?_⟩
      refine lcTurn.mk hD (e4.trans e5) (e5 _ _ hacc) (by rw [List.length_map, List.length_replicate]; omega) ?_
      rw [List.replicate_succ', List.map_append]
      rfl
    · rintro D acc H2 hD e4 hacc rfl
      walk_at "ss"
      refine w_all (SqL.of hacc) ?_
      have er : ∀ m : Nat, (List.replicate m true).all id = true := fun m => by
        induction m with
        | zero => rfl
        | succ m ih => rw [List.replicate_succ, List.all_cons, ih]; rfl
      rw [er]
      exact k H2 e4
  unfold flatN at hf
  cases d with
  | list ds =>
    rw [Bool.and_eq_true, decide_eq_true_eq] at hf
    cases hx with
    | lst gx hxs =>
      cases hy with
      | lst gy hys =>
        refine w_isi (.lst gy) (by decide) ?_
        walk_at "ss"
        refine w_isi (.lst gx) (by decide) ?_
        walk_at "ss"
        rw [show isTy H "tuple" _ = false from by simp [isTy, tyN, tyTab, gy], show isTy H "tuple" _ = false from by simp [isTy, tyN, tyTab, gx]]
        rw [decide_eq_true rfl]
        walk_at "ss"
        refine w_isi (.lst gy) (by decide) ?_
        walk_at "ss"
        refine w_isi (.lst gx) (by decide) ?_
        walk_at "ss"
        rw [show isTy H "list" _ = true from by simp [isTy, tyN, tyTab, gy], show isTy H "list" _ = true from by simp [isTy, tyN, tyTab, gx]]
        rw [decide_eq_true rfl]
        refine w_iteNT ?_
        exact main _ _ _ _ ds rfl rfl (.inl (SqL.of gx)) (.inl (SqL.of gy)) hxs hys hf.1 hf.2
  | tuple ds =>
    rw [Bool.and_eq_true, decide_eq_true_eq] at hf
    cases hx with
    | tup gx hxs =>
      cases hy with
      | tup gy hys =>
        refine w_isi (.tup gy) (by decide) ?_
        walk_at "ss"
        refine w_isi (.tup gx) (by decide) ?_
        walk_at "ss"
        rw [show isTy H "tuple" _ = true from by simp [isTy, tyN, tyTab, gy], show isTy H "tuple" _ = true from by simp [isTy, tyN, tyTab, gx]]
        rw [decide_eq_true rfl]
        walk_at "ss"
        refine w_isi (.tup gy) (by decide) ?_
        walk_at "ss"
        refine w_isi (.tup gx) (by decide) ?_
        walk_at "ss"
        rw [show isTy H "list" _ = false from by simp [isTy, tyN, tyTab, gy], show isTy H "list" _ = false from by simp [isTy, tyN, tyTab, gx]]
        rw [decide_eq_true rfl]
        refine w_iteNT ?_
        exact main _ _ _ _ ds rfl rfl (.inr (SqT.of gx)) (.inr (SqT.of gy)) hxs hys hf.1 hf.2
  | none => exact absurd rfl dn
  | bool b => simp [tyD, tyTab] at e
  | int b => simp [tyD, tyTab] at e2
  | str b => simp [tyD, tyTab] at e3
  | dict b => cases hf

/-! ### points -/
def splitOk (r : R) (a b : PyData) : Bool := inD 1 r.top a && inD 1 r.top b && decide (intD a + intD b ≤ r.top)
def sp_points (Γ : Gm) : Sp := fun vs H Q E => ∃ v r x y a b, vs = [v, x, y] ∧ RuleAt Γ H v r ∧ Dv H x a ∧ Dv H y b ∧ (splitOk r a b = false → E (.ref Γ.cBadSplit) none H) ∧ (splitOk r a b = true → ∀ H', Same H H' → Q (.int (r.pts (intD a) (intD b))) H')
theorem inD_int {lo hi : Int} {d : PyData} (h : inD lo hi d = true) : ∃ n, d = .int n ∧ lo ≤ n ∧ n ≤ hi := by
  cases d with
  | int n =>
    simp only [inD, Bool.and_eq_true, decide_eq_true_eq] at h
    exact ⟨n, rfl, h⟩
  | _ => simp [inD] at h
theorem dv_int {H : Hp} {x : V} {n : Int} (h : Dv H x (.int n)) : x = .int n := by cases h; rfl
/-- points: rule, first, second, top -/
def t_points (Γ : Gm) (E : XK) : TS := (tSeq (tAsg (tCal (sp_most_of Γ) E0 (tCons (tVar 0) tNil)) (gName 3))
  (tSeq (tIfS (tOr (tNot (tB (tCal (sp_is_from Γ) E0 (tCons (tVar 1) (tCons (tC (.int 1)) (tCons (tVar 3) tNil)))))) (tOr (tNot (tB (tCal (sp_is_from Γ) E0 (tCons (tVar 2) (tCons (tC (.int 1)) (tCons (tVar 3) tNil)))))) (tTest (tOp rGt (tOp (rAddU Γ.K) (tVar 1) (tVar 2)) (tVar 3))))) (tRaise Γ.cBadSplit (fun cls d _ H => E cls d H)) tNext)
  (tRet (tCal (sp_points_by Γ) E0 (tCons (tVar 0) (tCons (tVar 1) (tCons (tVar 2) tNil)))))))
theorem rd_points (Γ : Gm) (vs : List V) (H : Hp) (Q : VK) (E : XK) (h : sp_points Γ vs H Q E) : t_points Γ E ⟨fun _ H' => Q .non H', Q, fun _ _ => False, fun _ _ => False⟩ (startN 4 vs) H := by
  obtain ⟨v, r, x, y, a, b, rfl, hr, hx, hy, k1, k2⟩ := h
  unfold t_points
  walk_at "ss"
  refine ⟨v, r, rfl, hr, ?_⟩
  walk_at "ss"
  refine ⟨x, _, _, rfl, hx.tag, ?_⟩
  rw [hx.inR]
  walk_at "ss"
  refine w_ite (fun e => ?_) (fun e => ?_)
  · walk_at "ss"
    refine k1 ?_
    have e' : inD 1 r.top a = false := by simpa using e
    unfold splitOk
    rw [e', Bool.false_and, Bool.false_and]
  have e' : inD 1 r.top a = true := by simpa using e
  walk_at "ss"
  refine ⟨y, _, _, rfl, hy.tag, ?_⟩
  rw [hy.inR]
  walk_at "ss"
  refine w_ite (fun e2 => ?_) (fun e2 => ?_)
  · walk_at "ss"
    refine k1 ?_
    have e2' : inD 1 r.top b = false := by simpa using e2
    unfold splitOk
    rw [e2', Bool.and_false, Bool.false_and]
  have e2' : inD 1 r.top b = true := by simpa using e2
  obtain ⟨m, rfl, m1, m2⟩ := inD_int e'
  obtain ⟨n, rfl, n1, n2⟩ := inD_int e2'
  have ex := dv_int hx
  have ey := dv_int hy
  subst ex ey
  walk_at "ss"
  refine w_ite (fun e3 => ?_) (fun e3 => ?_)
  · walk_at "ss"
    refine k1 ?_
    unfold splitOk
    rw [Bool.and_eq_false_iff]
    right
    have := of_decide_eq_true e3
    exact decide_eq_false (show ¬ (m + n ≤ r.top) by omega)
  · have h3 := of_decide_eq_false e3
    walk_at "ss"
    refine ⟨v, r, m, n, rfl, hr, m1, n1, by omega, ?_⟩
    refine k2 ?_
    unfold splitOk
    rw [e', e2']
    show (true && true && decide (m + n ≤ r.top)) = true
    rw [decide_eq_true (by omega)]
    rfl
/-! ### the law's own points -/
def sp__law_points (Γ : Gm) : Sp := fun vs H Q _ => ∃ v r a b, vs = [v, .int a, .int b] ∧ RuleAt Γ H v r ∧ 1 ≤ a ∧ 1 ≤ b ∧ a + b ≤ r.top ∧ Q (.int (r.pts a b)) H
/-- law_points: _law_rule_here, _law_one, _law_other, _law_found, _law_number, _law_i, _law_j, _law_k -/
def t__law_points (Γ : Gm) : TS := (tSeq (tIfS (tTest (tOp (rEqU Γ.K) (tPrp Γ.cRule "form" (tVar 0)) (tC (.str "table")))) (tRet (tOp (rIx Γ.K) (tOp (rIx Γ.K) (tPrp Γ.cRule "body" (tVar 0)) (tOp rSubI (tVar 1) (tC (.int 1)))) (tOp rSubI (tVar 2) (tC (.int 1))))) tNext)
  (tSeq (tAsg (tC (.int 0)) (gName 3))
  (tSeq (tFor (iSeq Γ.K (tPrp Γ.cRule "body" (tVar 0))) (gTup Γ.K 3 (gCons (gName 4) (gCons (gName 5) (gCons (gName 6) gNil)))) (tSeq (tFor (iRng1 (tCons (tVar 5) tNil)) (gName 7) (tAsg (tOp (rMulU Γ.K) (tVar 4) (tVar 1)) (gName 4)))
  (tSeq (tFor (iRng1 (tCons (tVar 6) tNil)) (gName 7) (tAsg (tOp (rMulU Γ.K) (tVar 4) (tVar 2)) (gName 4)))
  (tAsg (tOp (rAddU Γ.K) (tVar 3) (tVar 4)) (gName 3)))))
  (tRet (tVar 3)))))
theorem rd__law_points (Γ : Gm) (vs : List V) (H : Hp) (Q : VK) (E : XK) (h : sp__law_points Γ vs H Q E) : t__law_points Γ ⟨fun _ H' => Q .non H', Q, fun _ _ => False, fun _ _ => False⟩ (startN 8 vs) H := by
  obtain ⟨v, r, a, b, rfl, hr, ha, hb, hs, q⟩ := h
  unfold t__law_points
  walk_at "ss"
  refine k_kind hr ?_
  walk_at "ss"
  rw [kind_tab]
  have hok : r.ok := by obtain ⟨_, _, _, _, _, _, h⟩ := hr; exact h
  cases r with
  | tab rows =>
    refine w_iteT ?_
    walk_at "ss"
    refine k_parts hr fun bb xs hx ht => ?_
    obtain ⟨row, e1, e2⟩ := tab_at hok ha hb hs
    obtain ⟨a', ys, z1, z2, z3⟩ := ht.inv
    cases z1
    rw [hx] at z2
    cases z2
    obtain ⟨w, hw, tw⟩ := z3.get (i := (a - 1).toNat) (d := .tuple (row.map PyData.int)) (by rw [List.getElem?_map, e1]; rfl)
    obtain ⟨c, zs, rfl, hc, tc⟩ := tw.inv
    walk_at "ss"
    refine w_ixT (SqT.of hx) (atI_of (by omega) hw) ?_
    walk_at "ss"
    have ez := tc.ints
    subst ez
    refine w_ixT (SqT.of hc) (atI_of (by omega) (by rw [List.getElem?_map, e2]; rfl)) ?_
    exact q
  | trm ts =>
    refine w_iteF ?_
    walk_at "ss"
    refine k_parts hr fun bb xs hx ht => ?_
    obtain ⟨a', ys, z1, z2, z3⟩ := ht.inv
    cases z1
    rw [hx] at z2
    cases z2
    refine k_seqT (SqT.of hx) ?_
    have hlen : xs.length = ts.length := by rw [z3.length, List.length_map]
    refine k_tup (xs := xs) (fun i σ H' => ∃ x4 x5 x6 x7, σ = [some v, some (.int a), some (.int b), some (.int ((ts.take i).map (tval a b)).sum), x4, x5, x6, x7] ∧ H' = H) ⟨none, none, none, none, rfl, rfl⟩ (fun i σ H' _ ⟨_, _, _, _, _, e⟩ => by rw [e]; exact SqT.of hx) ?_ ?_
    · rintro i x σ H' hi ⟨x4, x5, x6, x7, rfl, rfl⟩
      obtain ⟨d, hd, tx⟩ := z3.get' hi
      rw [List.getElem?_map] at hd
      obtain ⟨t, ht', rfl⟩ := Option.map_eq_some_iff.mp hd
      obtain ⟨c, zs, rfl, hc, tc⟩ := tx.inv
      have ez := tc.ints
      subst ez
      obtain ⟨n, i1, j1⟩ := t
      refine w_gTup (xs := [V.int n, V.int i1, V.int j1]) (SqT.of hc) rfl ?_
      walk_at "ss"
      obtain ⟨hl6, hb6⟩ := hok
      have hm := hb6 _ (List.mem_of_getElem? ht')
      dsimp only at hm
      have top : a + b ≤ 1000000000000000000000000000000 := hs
      have ba : a.natAbs ≤ 2 ^ 100 := by omega
      have bb' : b.natAbs ≤ 2 ^ 100 := by omega
      have n1 : n.natAbs ≤ 2 ^ 20 := by omega
      refine k_rng1 (by omega) ?_
      refine k_range (fun k σ H1 => ∃ x7, σ = [some v, some (.int a), some (.int b), some (.int ((ts.take i).map (tval a b)).sum), some (.int (n * a ^ k)), some (.int i1), some (.int j1), x7] ∧ H1 = H') ⟨x7, by rw [Int.pow_zero, Int.mul_one]; rfl, rfl⟩ ?_ ?_
      · rintro k σ H1 hk ⟨x7', rfl, rfl⟩
        have hk' : k < i1 := by simpa using hk
        have k1 : 100 * k ≤ 100 * 4 := Nat.mul_le_mul_left _ (by omega)
        walk_at "ss"
        refine w_mulI (cmul_of (mul_nat n1 (pow_nat ba)) ba) ?_
        walk_at "ss"
        exact ⟨_, by rw [Int.pow_succ, ← Int.mul_assoc]; rfl, rfl⟩
      · rintro σ H1 ⟨x7', rfl, rfl⟩
        walk_at "ss"
        refine k_rng1 (by omega) ?_
        have ei : (i1 : Int).toNat = i1 := Int.toNat_natCast i1
        rw [ei]
        refine k_range (fun k σ H2 => ∃ x7, σ = [some v, some (.int a), some (.int b), some (.int ((ts.take i).map (tval a b)).sum), some (.int (n * a ^ i1 * b ^ k)), some (.int i1), some (.int j1), x7] ∧ H2 = H1) ⟨x7', by rw [Int.pow_zero, Int.mul_one], rfl⟩ ?_ ?_
        · rintro k σ H2 hk ⟨x7'', rfl, rfl⟩
          have hk' : k < j1 := by simpa using hk
          have k1 : 100 * k ≤ 100 * 4 := Nat.mul_le_mul_left _ (by omega)
          have k2 : 100 * i1 ≤ 100 * 4 := Nat.mul_le_mul_left _ (by omega)
          walk_at "ss"
          refine w_mulI (cmul_of (mul_nat (mul_nat n1 (pow_nat ba)) (pow_nat bb')) bb') ?_
          walk_at "ss"
          exact ⟨_, by rw [Int.pow_succ, ← Int.mul_assoc]; rfl, rfl⟩
        · rintro σ H2 ⟨x7'', rfl, rfl⟩
          have ej : (j1 : Int).toNat = j1 := Int.toNat_natCast j1
          rw [ej]
          walk_at "ss"
          have es : ((ts.take (i + 1)).map (tval a b)).sum = ((ts.take i).map (tval a b)).sum + n * a ^ i1 * b ^ j1 := by
            rw [take_succ ht', List.map_append, List.sum_append]
            simp only [List.map_cons, List.map_nil, List.sum_cons, List.sum_nil, Int.add_zero, tval]
          rw [es]
          exact ⟨_, _, _, _, rfl, rfl⟩
    · rintro σ H' ⟨x4, x5, x6, x7, rfl, rfl⟩
      rw [hlen, List.take_length]
      walk_at "ss"
      exact q
/-! ### a law's promise -/
def spLaw (K : PySem.W.Frag) : Sp := fun vs H Q _ => ∃ (a : Addr) (ns : List Int), vs = [.ref a] ∧ SqL K H a (ns.map V.int) ∧ ns.length ≤ 63 ∧ ∀ H', Q (.bl true) H'
theorem mem_of {xs : List V} {ds : List PyData} {H : Hp} {i : Nat} {x : V} (t : TpAll H xs ds) (h : xs[i]? = some x) : ∃ d ∈ ds, Tp H x d := by
  obtain ⟨d, hd, td⟩ := t.get' h
  exact ⟨d, List.mem_of_getElem? hd, td⟩
theorem topm_top {r : R} (ok : r.ok) : r.topm 1000000000000000000000000000000 = r.top := by
  cases r with
  | tab rows =>
    obtain ⟨_, h, _⟩ := ok
    simp only [R.topm, R.top]
    rw [if_pos (by omega)]
  | trm ts => rfl
theorem RuleAt.ok {Γ : Gm} {H : Hp} {v : V} {r : R} (h : RuleAt Γ H v r) : r.ok := by obtain ⟨_, _, _, _, _, _, h⟩ := h; exact h
theorem top_ge {r : R} (ok : r.ok) : 2 ≤ r.top ∧ r.top ≤ 1000000000000000000000000000000 := by
  cases r with
  | tab rows =>
    obtain ⟨h1, h, _⟩ := ok
    have : (R.tab rows).top = (rows.length : Int) + 1 := rfl
    omega
  | trm ts => exact (by decide : (2 : Int) ≤ 1000000000000000000000000000000 ∧ (1000000000000000000000000000000 : Int) ≤ 1000000000000000000000000000000)
theorem w_min {K : PySem.W.Frag} {H : Hp} {Q : VK} {a : Addr} {ns : List Int} (h : H a = some (.lst (ns.map V.int))) (h0 : 0 < ns.length) (k : ∀ m, m ∈ ns → (∀ y, y ∈ ns → m ≤ y) → Q (.int m) H) : rMin K [.ref a] H Q := ⟨a, ns, rfl, SqL.of h, h0, k⟩
theorem w_max {K : PySem.W.Frag} {H : Hp} {Q : VK} {a : Addr} {ns : List Int} (h : H a = some (.lst (ns.map V.int))) (h0 : 0 < ns.length) (k : ∀ m, m ∈ ns → (∀ y, y ∈ ns → y ≤ m) → Q (.int m) H) : rMax K [.ref a] H Q := ⟨a, ns, rfl, SqL.of h, h0, k⟩
theorem w_equal {Γ : Gm} {H : Hp} {Q : VK} {x y : V} {d : PyData} {E : XK} (hx : Dv H x d) (hy : Dv H y d) (hf : flatN 45 d = true) (k : ∀ H', Same H H' → Q (.bl true) H') : sp__law_equal Γ [x, y] H Q E := ⟨x, y, d, rfl, hx, hy, hf, k⟩

/-! ### len of an instance of an own class -/
def rLenO (C : Addr) (sp : Sp) (xs : List V) (H : Hp) (Q : VK) : Prop := ∃ a dx fs, xs = [.ref a] ∧ H a = some (.ins C dx fs) ∧ sp [.ref a] H (fun v H' => ∃ n : Int, v = .int n ∧ 0 ≤ n ∧ n < 2 ^ 63 ∧ Q (.int n) H') E0
theorem call_lenO {X : Cx} {C : Addr} {k : Nat} {ps : List Str} {sp : Sp} (c : CalM X.prog X.w X.K X.mg X.base CX0 C "__len__" k ps sp) (hr : Room (k + 1) X.A) : CallR X (.builtin "len") (rLenO C sp) := by
  obtain ⟨f, fd, F, hm, hb⟩ := c.ex
  intro pins s σ H xs us Q I rv h
  obtain ⟨a, dx, fs, rfl, ha, q⟩ := h
  obtain _ | ⟨r, rs⟩ := rv
  cases rs
  cases r
  refine wpAny_call (codeAny_call_builtin (b := PySem.Builtin.len) (by decide) entry_len ?_)
  show wpAny _ _ (pure ()) _ _ _
  refine wpAny_pure ?_
  have hi : ∃ ox od, PySem.W.InstAt s.heap a ox C od := by
    have z := I.hok a _ ha
    simp only [L2.ObjOk] at z
    obtain ⟨_, _, _, z1, mA, z2, _⟩ := z
    obtain ⟨od, hod⟩ : ∃ od, s.heap.get? dx = some od := by
      obtain ⟨o, _, _, e, _⟩ := z2
      exact ⟨o, e⟩
    exact ⟨_, some od, z1, rfl, rfl, hod⟩
  obtain ⟨ox, od, hi⟩ := hi
  show wpAny _ _ (callSpecial? (Value.ref a) "__len__" >>= _) _ _ _
  refine wpAny_bind (PySem.W.special_fn I.kIn hi hm.at_ (beq_iff_eq.mp hm.fn) ?_)
  have hl : (Value.ref a :: ([] : List Value)).length = ps.length := (F.len _ _ _ _ q).symm ▸ rfl
  have hbb := hb _ [Value.ref a] I.kIn hl
  rw [List.append_nil] at hbb
  refine wpAny_call (codeAny_mono (F.run _ X.stack _ _ ⟨[Value.ref a], []⟩ [Value.ref a] [.ref a] _ E0 hr.in1 I.env0.in1 hbb (Paired.cons (show L2.RelV (.ref a) (.ref a) from rfl) .nil) q) fun r s' hq' => ?_)
  cases r with
  | error e => exact False.elim hq'
  | ok fl =>
    cases fl with
    | ret u =>
      obtain ⟨v, H', I3, rv, n, rfl, h1, h2, q3⟩ := I.after hq'
      obtain ⟨t, rfl⟩ := rv
      show wpAny _ _ (holding [_] _ >>= _) _ _ _
      refine wpAny_bind (wpAny_holding ?_)
      refine wpAny_bind (wpAny_pure ?_)
      show wpAny _ _ (pure n) _ _ _
      refine wpAny_pure ?_
      refine wpAny_bind (wpAny_letGo ?_)
      show wpAny _ _ (if n < 0 then _ else (if n ≥ 2 ^ 63 then _ else retInt n)) _ _ _
      rw [if_neg (by omega), if_neg (by omega)]
      refine wpAny_bind (wpAny_mkInt ?_)
      show wpAny _ _ (pure _) _ _ _
      refine wpAny_pure ?_
      exact ⟨.int n, H', I3.tok _, ⟨_, rfl⟩, q3⟩
    | next => exact False.elim hq'
    | brk => exact False.elim hq'
    | cont => exact False.elim hq'
/-! ### a property whose getter is any def -/
structure CalQ (P : Program) (w : World) (K : PySem.W.Frag) (mg : Str → Option Value) (base : Heap) (C : Addr) (f : Str) (k : Nat) (sp : Sp) : Prop where
  cls : Cls K C
  ex : ∃ (p g : Addr) (fd : FuncData), PropOf K C f p g ∧ FnOk P w K mg base CX0 k g fd ["self"] sp ∧ Binds K fd ["self"] []
def kPrs (C : Addr) (sp : Sp) (x : V) (H : Hp) (Q : VK) : Prop := ∃ a dx fs, x = .ref a ∧ H a = some (.ins C dx fs) ∧ sp [.ref a] H Q E0
def tPrs (C : Addr) (sp : Sp) (ta : TE) : TE := fun σ H Q => ta σ H fun x H1 => kPrs C sp x H1 Q
theorem pe_prs {X : Cx} {C : Addr} {f : Str} {sp : Sp} {k : Nat} {e : Expr} {ta : TE} {pos : Pos} (c : CalQ X.prog X.w X.K X.mg X.base C f k sp) (hr : Room (k + 1) X.A) (he : PE X e ta)
    (hab : attributeBase e f X.env (eval e X.env) = eval e X.env) : PE X (.Attribute e f pos) (tPrs C sp ta) := by
  obtain ⟨p, g, fd, hp, F, hb⟩ := c.ex
  exact pe_prop (pos := pos) (E := E0) he c.cls hp F hr hb .nil pass0 hab
theorem w_prs {σ : St} {H : Hp} {Q : VK} {ta : TE} {C : Addr} {sp : Sp} (h : ta σ H fun x H1 => kPrs C sp x H1 Q) : tPrs C sp ta σ H Q := h
theorem w_star {σ : St} {H : Hp} {QA : List V → Hp → Prop} {K : PySem.W.Frag} {te : TE} {tr : TA} (h : te σ H fun x H1 => ∃ p xs, x = .ref p ∧ (SqT K H1 p xs ∨ SqL K H1 p xs) ∧ tr σ H1 fun ys H2 => QA (xs ++ ys) H2) : StX.tStar K te tr σ H QA := h
theorem w_metS {σ : St} {H : Hp} {Q : VK} {C : Addr} {m : Str} {sp : Sp} {E : St → XK} {ta : TE} {t : TA} (h : ta σ H fun x H1 => ∃ a dx fs, x = .ref a ∧ H1 a = some (.ins C dx fs) ∧ fs.lookup m = none ∧ t σ H1 fun vs H2 => sp (x :: vs) H2 Q (E σ)) : tMetS C m sp E ta t σ H Q := h
/-! ### slices of tuples -/
def cutD (ds : List PyData) (lo hi : Option Int) : List PyData := List.take (HT.sIx ds.length ds.length hi - HT.sIx ds.length 0 lo) (List.drop (HT.sIx ds.length 0 lo) ds)
theorem TpAll.take {H : Hp} : ∀ (n : Nat) {vs : List V} {ds : List PyData}, TpAll H vs ds → TpAll H (vs.take n) (ds.take n)
  | 0, _, _, _ => .nil
  | _ + 1, _, _, .nil => .nil
  | n + 1, _, _, .cons h k => .cons h (TpAll.take n k)
theorem TpAll.drop {H : Hp} : ∀ (n : Nat) {vs : List V} {ds : List PyData}, TpAll H vs ds → TpAll H (vs.drop n) (ds.drop n)
  | 0, _, _, h => h
  | _ + 1, _, _, .nil => .nil
  | n + 1, _, _, .cons _ k => TpAll.drop n k
theorem w_slT {K : PySem.W.Frag} {H : Hp} {Q : VK} {v : V} {ds : List PyData} {lo hi : Option Int} (hv : Tp H v (.tuple ds)) (h : ∀ u H', Same H H' → Tp H' u (.tuple (cutD ds lo hi)) → Q u H') : rSlU K v lo hi H Q := by
  obtain ⟨a, xs, rfl, ha, ta⟩ := hv.inv
  have el := ta.length
  refine .inr (.inl ⟨a, xs, rfl, SqT.of ha, ?_, ?_⟩)
  · rintro ⟨z1, z2⟩
    have := h (.ref a) H (Same.refl H)
    unfold cutD at this
    rw [← el, z1, z2, Nat.sub_zero, List.drop_zero, List.take_of_length_le (by rw [el]; exact Nat.le_refl _)] at this
    exact this hv
  · intro z p hp
    have e := Same.new (o := .tup (cutV xs lo hi)) hp
    refine h _ _ e (.tup upd_same ?_)
    unfold cutV cutD
    rw [← el]
    exact ((ta.drop _).take _).mono (Same.tups e)
theorem cutD_to {ds : List PyData} {i : Nat} : cutD ds none (some (i : Int)) = ds.take i := by
  unfold cutD HT.sIx
  simp only [Nat.sub_zero, List.drop_zero]
  rw [if_neg (by omega), Int.toNat_natCast]
  by_cases h : i ≤ ds.length
  · rw [Nat.min_eq_left h]
  · rw [Nat.min_eq_right (by omega), List.take_of_length_le (Nat.le_refl _), List.take_of_length_le (by omega)]
theorem cutD_from {ds : List PyData} {i : Nat} : cutD ds (some (i : Int)) none = ds.drop i := by
  unfold cutD HT.sIx
  simp only
  rw [if_neg (by omega), Int.toNat_natCast]
  by_cases h : i ≤ ds.length
  · rw [Nat.min_eq_left h, List.take_of_length_le (by rw [List.length_drop]; exact Nat.le_refl _)]
  · rw [Nat.min_eq_right (by omega), Nat.sub_self, List.take_zero, List.drop_of_length_le (by omega)]
theorem cutD_last {ds : List PyData} {i : Nat} : cutD ds none (some (-((i : Int) + 1))) = ds.take (ds.length - (i + 1)) := by
  unfold cutD HT.sIx
  simp only [Nat.sub_zero, List.drop_zero]
  rw [if_pos (by omega)]
  congr 1
  omega
theorem w_ifY {b : Bool} {A B : Prop} (h : b = true) (k : A) : if b = true then A else B := by rw [if_pos h]; exact k
theorem w_ifN {b : Bool} {A B : Prop} (h : b = false) (k : B) : if b = true then A else B := by rw [if_neg (by rw [h]; decide)]; exact k
theorem inD_yes {lo hi n : Int} (h1 : lo ≤ n) (h2 : n ≤ hi) : inD lo hi (.int n) = true := by
  show (decide (lo ≤ n) && decide (n ≤ hi)) = true
  rw [decide_eq_true h1, decide_eq_true h2]
  rfl
theorem w_dnewK {σ : St} {H : Hp} {Q : VK} (h : ∀ p H', H p = none → Same H H' → H' p = some (.dK []) → Q (.ref p) H') : tDNewK σ H Q := alloc h

/-! ### == of data -/
mutual
theorem Dv.dp {K : PySem.W.Frag} {H : Hp} : ∀ {n : Nat} {v : V} {d : PyData}, flatN n d = true → Dv H v d → Dp K H v d
  | 0, _, _, h, _ => by unfold flatN at h; cases h
  | n + 1, _, _, _, .non => .non
  | n + 1, _, _, _, .bl b => .bl b
  | n + 1, _, _, _, .int i => .int i
  | n + 1, _, _, _, .str x => .str x
  | n + 1, _, _, h, .lst g k => .lst (SqL.of g) (DvAll.dp (n := n) (by unfold flatN at h; exact (Bool.and_eq_true_iff.mp h).2) k)
  | n + 1, _, _, h, .tup g k => .tup (SqT.of g) (DvAll.dp (n := n) (by unfold flatN at h; exact (Bool.and_eq_true_iff.mp h).2) k)
  | n + 1, _, _, h, .dict g => by unfold flatN at h; cases h
theorem DvAll.dp {K : PySem.W.Frag} {H : Hp} : ∀ {n : Nat} {vs : List V} {ds : List PyData}, flatAll n ds = true → DvAll H vs ds → DpAll K H vs ds
  | _, _, _, _, .nil => .nil
  | n, _, _, h, .cons g k => by
    unfold flatAll at h
    have h' := Bool.and_eq_true_iff.mp h
    exact .cons (Dv.dp (n := n) h'.1 g) (DvAll.dp (n := n) h'.2 k)
end
/-! no strings but short ones, no truth values: what is compared in the laws -/
mutual
def pureD : PyData → Bool
  | .none => true
  | .bool _ => false
  | .int _ => true
  | .str x => PySem.PyData.strOk x
  | .list ds => pureAll ds
  | .tuple ds => pureAll ds
  | .dict _ => false
def pureAll : List PyData → Bool
  | [] => true
  | d :: ds => pureD d && pureAll ds
end
mutual
theorem pure_lay : ∀ {d : PyData}, pureD d = true → d.canLay0 = true
  | .none, _ => by unfold PyData.canLay0; rfl
  | .bool _, h => by unfold pureD at h; cases h
  | .int _, _ => by unfold PyData.canLay0; rfl
  | .str x, h => by unfold pureD at h; unfold PyData.canLay0; exact h
  | .list ds, h => by unfold pureD at h; unfold PyData.canLay0; exact pure_layAll h
  | .tuple ds, h => by unfold pureD at h; unfold PyData.canLay0; exact pure_layAll h
  | .dict _, h => by unfold pureD at h; cases h
theorem pure_layAll : ∀ {ds : List PyData}, pureAll ds = true → PyData.canLayAll0 ds = true
  | [], _ => by unfold PyData.canLayAll0; rfl
  | d :: ds, h => by
    unfold pureAll at h
    have h' := Bool.and_eq_true_iff.mp h
    unfold PyData.canLayAll0
    rw [pure_lay h'.1, pure_layAll h'.2]
    rfl
end
mutual
theorem eqv_pure : ∀ {d e : PyData}, pureD d = true → pureD e = true → PyData.eqv d e = true → d = e
  | .none, e, _, he, h => by cases e <;> simp [PyData.eqv] at h ⊢
  | .bool _, _, h, _, _ => by unfold pureD at h; cases h
  | .int i, e, _, he, h => by
    cases e with
    | int j => simp [PyData.eqv] at h; rw [h]
    | bool b => unfold pureD at he; cases he
    | _ => simp [PyData.eqv] at h
  | .str x, e, _, he, h => by cases e <;> simp [PyData.eqv] at h ⊢; exact h
  | .list ds, e, hd, he, h => by
    cases e with
    | list es =>
      unfold pureD at hd he
      rw [PyData.eqv] at h
      rw [eqv_pureAll hd he h]
    | _ => simp [PyData.eqv] at h
  | .tuple ds, e, hd, he, h => by
    cases e with
    | tuple es =>
      unfold pureD at hd he
      rw [PyData.eqv] at h
      rw [eqv_pureAll hd he h]
    | _ => simp [PyData.eqv] at h
  | .dict _, _, h, _, _ => by unfold pureD at h; cases h
theorem eqv_pureAll : ∀ {ds es : List PyData}, pureAll ds = true → pureAll es = true → PyData.eqvAll ds es = true → ds = es
  | [], [], _, _, _ => rfl
  | [], _ :: _, _, _, h => by simp [PyData.eqvAll] at h
  | _ :: _, [], _, _, h => by simp [PyData.eqvAll] at h
  | d :: ds, e :: es, hd, he, h => by
    unfold pureAll at hd he
    rw [PyData.eqvAll] at h
    have h1 := Bool.and_eq_true_iff.mp hd
    have h2 := Bool.and_eq_true_iff.mp he
    have h3 := Bool.and_eq_true_iff.mp h
    rw [eqv_pure h1.1 h2.1 h3.1, eqv_pureAll h1.2 h2.2 h3.2]
end
theorem eqv_dec {d e : PyData} [dec : Decidable (d = e)] (hd : pureD d = true) (he : pureD e = true) : PyData.eqv d e = decide (d = e) := by
  by_cases h : d = e
  · subst h
    rw [decide_eq_true rfl]
    exact SeqAt.eqv_refl d (pure_lay hd)
  · rw [decide_eq_false h]
    cases hb : PyData.eqv d e with
    | false => rfl
    | true => exact absurd (eqv_pure hd he hb) h
mutual
theorem flat_depth : ∀ {n : Nat} {d : PyData}, flatN n d = true → d.depth ≤ n
  | 0, _, h => by unfold flatN at h; cases h
  | n + 1, .none, _ => by simp [PyData.depth]
  | n + 1, .bool _, _ => by simp [PyData.depth]
  | n + 1, .int _, _ => by simp [PyData.depth]
  | n + 1, .str _, _ => by simp [PyData.depth]
  | n + 1, .list ds, h => by
    unfold flatN at h
    have := flat_depthAll (Bool.and_eq_true_iff.mp h).2
    simp only [PyData.depth]; omega
  | n + 1, .tuple ds, h => by
    unfold flatN at h
    have := flat_depthAll (Bool.and_eq_true_iff.mp h).2
    simp only [PyData.depth]; omega
  | n + 1, .dict _, h => by unfold flatN at h; cases h
theorem flat_depthAll : ∀ {n : Nat} {ds : List PyData}, flatAll n ds = true → PyData.depthAll ds ≤ n
  | n, [], _ => by simp [PyData.depthAll]
  | n, d :: ds, h => by
    unfold flatAll at h
    have h' := Bool.and_eq_true_iff.mp h
    have h1 := flat_depth h'.1
    have h2 := flat_depthAll h'.2
    simp only [PyData.depthAll]; omega
end
theorem shaped_of {d : PyData} (h : flatN 45 d = true) (hp : pureD d = true) : SeqAt.shaped d = true := by
  unfold SeqAt.shaped
  rw [pure_lay hp, decide_eq_true (Nat.le_trans (flat_depth h) (by decide))]
  rfl
theorem w_eqD {K : PySem.W.Frag} {H : Hp} {Q : VK} {x y : V} {d e : PyData} [dec : Decidable (d = e)] (hx : Dv H x d) (hy : Dv H y e) (fd : flatN 45 d = true) (fe : flatN 45 e = true) (pd : pureD d = true) (pe : pureD e = true) (q : Q (.bl (decide (d = e))) H) : rEqU K x y H Q :=
  .inr ⟨d, e, hx.dp fd, hy.dp fe, shaped_of fd pd, shaped_of fe pe, by rw [eqv_dec pd pe]; exact q⟩
theorem w_neD {K : PySem.W.Frag} {H : Hp} {Q : VK} {x y : V} {d e : PyData} [dec : Decidable (d = e)] (hx : Dv H x d) (hy : Dv H y e) (fd : flatN 45 d = true) (fe : flatN 45 e = true) (pd : pureD d = true) (pe : pureD e = true) (q : Q (.bl (!decide (d = e))) H) : rNeU K x y H Q :=
  .inr ⟨d, e, hx.dp fd, hy.dp fe, shaped_of fd pd, shaped_of fe pe, by rw [eqv_dec pd pe]; exact q⟩
/-! lists of ints -/
theorem pure_ints : ∀ ns : List Int, pureAll (ns.map PyData.int) = true
  | [] => by unfold pureAll; rfl
  | n :: ns => by rw [List.map_cons]; unfold pureAll pureD; rw [pure_ints ns]; rfl
theorem flat_intsN {n : Nat} : ∀ ns : List Int, flatAll (n + 1) (ns.map PyData.int) = true
  | [] => by unfold flatAll; rfl
  | m :: ns => by rw [List.map_cons]; unfold flatAll flatN; rw [flat_intsN ns]; rfl
theorem flat_listI {ns : List Int} (h : ns.length ≤ 100000) : flatN 45 (.list (ns.map PyData.int)) = true := by
  unfold flatN
  rw [flat_intsN, List.length_map, decide_eq_true h]
  rfl
theorem flat_tupI {ns : List Int} (h : ns.length ≤ 100000) : flatN 45 (.tuple (ns.map PyData.int)) = true := by
  unfold flatN
  rw [flat_intsN, List.length_map, decide_eq_true h]
  rfl
theorem pure_listI (ns : List Int) : pureD (.list (ns.map PyData.int)) = true := by unfold pureD; exact pure_ints ns
theorem pure_tupI (ns : List Int) : pureD (.tuple (ns.map PyData.int)) = true := by unfold pureD; exact pure_ints ns
theorem map_int_inj {ns ms : List Int} (h : ns.map PyData.int = ms.map PyData.int) : ns = ms := by
  induction ns generalizing ms with
  | nil => cases ms with
    | nil => rfl
    | cons _ _ => cases h
  | cons a ns ih => cases ms with
    | nil => cases h
    | cons b ms =>
      rw [List.map_cons, List.map_cons] at h
      injection h with h1 h2
      injection h1 with h1
      rw [h1, ih h2]
theorem w_eqLI {K : PySem.W.Frag} {H : Hp} {Q : VK} {a b : Addr} {ns ms : List Int} (ha : H a = some (.lst (ns.map V.int))) (hb : H b = some (.lst (ms.map V.int))) (h1 : ns.length ≤ 100000) (h2 : ms.length ≤ 100000) (q : Q (.bl (decide (ns = ms))) H) : rEqU K (.ref a) (.ref b) H Q := by
  have dec : Decidable (PyData.list (ns.map PyData.int) = .list (ms.map PyData.int)) := Classical.propDecidable _
  refine w_eqD (dec := dec) (.lst ha ((TpAll.of_ints H ns).dv)) (.lst hb ((TpAll.of_ints H ms).dv)) (flat_listI h1) (flat_listI h2) (pure_listI _) (pure_listI _) ?_
  have e : decide (PyData.list (ns.map PyData.int) = .list (ms.map PyData.int)) = decide (ns = ms) := by
    rw [decide_eq_decide]
    exact ⟨fun z => by injection z with z; exact map_int_inj z, fun z => by rw [z]⟩
  rw [e]
  exact q
theorem w_neLI {K : PySem.W.Frag} {H : Hp} {Q : VK} {a b : Addr} {ns ms : List Int} (ha : H a = some (.lst (ns.map V.int))) (hb : H b = some (.lst (ms.map V.int))) (h1 : ns.length ≤ 100000) (h2 : ms.length ≤ 100000) (q : Q (.bl (!decide (ns = ms))) H) : rNeU K (.ref a) (.ref b) H Q := by
  have dec : Decidable (PyData.list (ns.map PyData.int) = .list (ms.map PyData.int)) := Classical.propDecidable _
  refine w_neD (dec := dec) (.lst ha ((TpAll.of_ints H ns).dv)) (.lst hb ((TpAll.of_ints H ms).dv)) (flat_listI h1) (flat_listI h2) (pure_listI _) (pure_listI _) ?_
  have e : decide (PyData.list (ns.map PyData.int) = .list (ms.map PyData.int)) = decide (ns = ms) := by
    rw [decide_eq_decide]
    exact ⟨fun z => by injection z with z; exact map_int_inj z, fun z => by rw [z]⟩
  rw [e]
  exact q
/-! ### isinstance of a tuple of classes -/
theorem kitAny_ty {K : PySem.W.Frag} {a : String} : ∀ (ns : List String), (∀ n ∈ ns, n ∈ tyNames) → a ∈ ["NoneType", "int", "bool", "str", "tuple", "list", "dict"] → PySem.W.kitAny K (.type a) (ns.map Value.type) = some (ns.any fun n => tyTab a n)
  | [], _, _ => kitAny_nil
  | n :: ns, h, m => by
    have e := kit_ty (K := K) (tyTab_all a m n (h n (List.mem_cons_self ..)))
    have ih := kitAny_ty (K := K) ns (fun x hx => h x (List.mem_cons_of_mem _ hx)) m
    rw [List.map_cons, List.any_cons]
    cases hb : tyTab a n with
    | true => exact kitAny_cons (b := true) (by rw [e, hb]) (fun z => nomatch z) (fun _ => rfl)
    | false => exact kitAny_cons (b := false) (by rw [e, hb]) (fun _ => ih) (fun z => nomatch z)
theorem paired_ty : ∀ ns : List String, Paired ClsV (ns.map V.ty) (ns.map Value.type)
  | [] => .nil
  | n :: ns => .cons (.ty n) (paired_ty ns)
theorem w_isiT {K : PySem.W.Frag} {H : Hp} {v : V} {tp : Addr} {ns : List String} {Q : VK} (h : Tag K H v) (ht : H tp = some (.tup (ns.map V.ty))) (hn : ∀ n ∈ ns, n ∈ tyNames) (q : Q (.bl (ns.any fun n => isTy H n v)) H) : rIsiT K [v, .ref tp] H Q := by
  have key : ∀ (a : String), TyX K H v (.type a) → tyN H v = a → a ∈ ["NoneType", "int", "bool", "str", "tuple", "list", "dict"] → rIsiT K [v, .ref tp] H Q := fun a t e m =>
    ⟨v, tp, _, .type a, _, _, rfl, ht, paired_ty ns, t, kitAny_ty ns hn m, by unfold isTy at q; rw [e] at q; exact q⟩
  cases h with
  | non => exact key "NoneType" (.base .non) rfl (by decide)
  | bl b => exact key "bool" (.base (.bl b)) rfl (by decide)
  | int i => exact key "int" (.base (.int i)) rfl (by decide)
  | str x => exact key "str" (.base (.str x)) rfl (by decide)
  | lst h => exact key "list" (.base (.lst h)) (by simp only [tyN, h]) (by decide)
  | tup h => exact key "tuple" (.base (.tup h)) (by simp only [tyN, h]) (by decide)
  | dK h => exact key "dict" (.base (.dK h)) (by simp only [tyN, h]) (by decide)
theorem w_slL {K : PySem.W.Frag} {H : Hp} {Q : VK} {a : Addr} {xs : List V} {lo hi : Option Int} (ha : H a = some (.lst xs)) (h : ∀ p H', H p = none → Same H H' → H' p = some (.lst (cutV xs lo hi)) → Q (.ref p) H') : rSlU K (.ref a) lo hi H Q := .inl ⟨a, xs, rfl, SqL.of ha, alloc h⟩
/-! ### the law's top -/
theorem R.tle {r : R} (ok : r.ok) {m : Int} (h : 2 ≤ m) (h2 : m ≤ 1000000000000000000000000000000) : 2 ≤ r.topm m ∧ r.topm m ≤ m ∧ r.topm m ≤ r.top := by
  cases r with
  | tab rows =>
    obtain ⟨h1, _, _⟩ := ok
    simp only [R.topm, R.top]
    split <;> omega
  | trm ts => exact ⟨h, Int.le_refl _, h2⟩

local macro_rules | `(tactic| walk_at "s") => `(tactic| with_reducible first
  | refine w_prs ?_ | refine w_star ?_ | refine w_metS ?_)
/-! ### whiles, walks of any kind -/
/-- one turn of a while: N is what it comes to -/
def whK (tb : TS) (Pv : Nat → St → Hp → Prop) (m : Nat) (rt : VK) (nx : St → Hp → Prop) (σ : St) (H : Hp) : Prop := ∃ N : St → Hp → Prop, (∀ σ' H', N σ' H' → ∃ m', m' < m ∧ Pv m' σ' H') ∧ tb ⟨N, rt, nx, N⟩ σ H
theorem k_while {c : TT} {tb : TS} {nx bk ct : St → Hp → Prop} {rt : VK} {σ : St} {H : Hp} (Pv : Nat → St → Hp → Prop) (m : Nat) (h0 : Pv m σ H) (hs : ∀ m σ H, Pv m σ H → c σ H fun b H1 => if b = true then whK tb Pv m rt nx σ H1 else nx σ H1) : tWhile c tb ⟨nx, rt, bk, ct⟩ σ H := ⟨Pv, ⟨m, h0⟩, hs⟩
theorem whK.mk {tb : TS} {Pv : Nat → St → Hp → Prop} {m : Nat} {rt : VK} {nx : St → Hp → Prop} {σ : St} {H : Hp} (h : tb ⟨fun σ' H' => ∃ m', m' < m ∧ Pv m' σ' H', rt, nx, fun σ' H' => ∃ m', m' < m ∧ Pv m' σ' H'⟩ σ H) : whK tb Pv m rt nx σ H := ⟨_, fun _ _ z => z, h⟩
theorem k_it {J : It} {n : Nat} {G : Hp → Prop} {Y : Nat → Hp → V → Hp → Prop} {g : TG} {t : TS} {nx : St → Hp → Prop} {rt : VK} {σ : St} {H : Hp} (w : Walk J n G Y) (Pv : Nat → St → Hp → Prop) (h0 : Pv 0 σ H) (hG : ∀ i σ H, i ≤ n → Pv i σ H → G H)
    (hs : ∀ i x σ H H', i < n → Pv i σ H → Y i H x H' → g x σ H' fun σ2 H2 => t ⟨Pv (i + 1), rt, nx, Pv (i + 1)⟩ σ2 H2) (hd : ∀ σ H, Pv n σ H → nx σ H) : forK J g t nx rt σ H :=
  for_it w (D := ⟨nx, rt, fun _ _ => False, fun _ _ => False⟩) Pv h0 hG hs hd
theorem k_lcIt {J : It} {n : Nat} {G : Hp → Prop} {Y : Nat → Hp → V → Hp → Prop} {g : TG} {c : TT} {te : TE} {vs : List Nat} {σ : St} {H : Hp} {Q : VK} (w : Walk J n G Y) (hG : ∀ H', Same H H' → G H') (P : Nat → List V → Hp → Prop) (h0 : ∀ H', Same H H' → P 0 [] H')
    (hs : ∀ i x D acc H1 H', i < n → H D = none → Same H H1 → H1 D = some (.lst acc) → P i acc H1 → Y i H1 x H' → g x (wipe σ vs) H' fun σ2 H2 => wipe σ2 vs = wipe σ vs ∧ c σ2 H2 fun b H3 => if b = true then te σ2 H3 (lcTurn H D (P (i + 1))) else lcAt H D (P (i + 1)) H3)
    (hd : ∀ D acc H', H D = none → Same H H' → H' D = some (.lst acc) → P n acc H' → Q (.ref D) H') : lcK J g c te vs σ H Q := fun D hD =>
  lc_it w (fun i H' => lcAt H D (P i) H') ⟨[], hD, Same.new hD, upd_same, h0 _ (Same.new hD)⟩ (fun i H' _ ⟨_, _, e, _⟩ => hG _ e) (fun i x H1 H' hi ⟨acc, _, e, ha, p⟩ y => hs i x D acc H1 H' hi hD e ha p y) fun H' ⟨acc, _, e, ha, p⟩ => hd D acc H' hD e ha p
theorem k_enL {K : PySem.W.Frag} {H : Hp} {a : Addr} {xs : List V} {R : It → Hp → Prop} (hx : SqL K H a xs) (h : R (Ite K a) H) : kEnum K [.ref a] H R := .inl ⟨a, xs, rfl, hx, h⟩
theorem atI_last {α : Type} {l : List α} {x : α} (h : l[l.length - 1]? = some x) (h0 : 0 < l.length) : atI l (-1) = some x := by
  unfold atI ixN
  rw [if_neg (by decide), if_pos (by omega)]
  show l[((l.length : Int) + -1).toNat]? = _
  rw [show ((l.length : Int) + -1).toNat = l.length - 1 by omega]
  exact h
/-! ### fractions -/
def frD (a b : Int) : PyData := .tuple [.int a, .int b]
def ratD (q : Rat) : PyData := frD q.num q.den
/-- how great a fraction's numbers are -/
def bdR (a b : Nat) (q : Rat) : Prop := q.num.natAbs ≤ 2 ^ a ∧ q.den ≤ 2 ^ b
theorem bdR.mono {a b a' b' : Nat} {q : Rat} (h : bdR a b q) (h1 : a ≤ a') (h2 : b ≤ b') : bdR a' b' q := ⟨Nat.le_trans h.1 (Nat.pow_le_pow_right (by decide) h1), Nat.le_trans h.2 (Nat.pow_le_pow_right (by decide) h2)⟩
theorem bd_mk {o : Int} {u a b : Nat} (ho : o.natAbs ≤ 2 ^ a) (hu : u ≤ 2 ^ b) : bdR a b (mkRat o u) := by
  unfold bdR
  rw [Rat.num_mkRat, Rat.den_mkRat]
  by_cases h : u = 0
  · rw [if_pos h, if_pos h]
    exact ⟨by simp, Nat.two_pow_pos b⟩
  · rw [if_neg h, if_neg h]
    refine ⟨Nat.le_trans ?_ ho, Nat.le_trans (Nat.div_le_self _ _) hu⟩
    rw [Int.natAbs_ediv_of_dvd]
    · exact Nat.div_le_self _ _
    · exact Int.ofNat_dvd_left.mpr (Nat.gcd_dvd_right _ _)
theorem bd_add {a b c d : Nat} {p q : Rat} (hp : bdR a b p) (hq : bdR c d q) : bdR (a + b + c + d + 1) (b + d) (p + q) := by
  rw [Rat.add_def']
  refine bd_mk ?_ ?_
  · refine Nat.le_trans (Int.natAbs_add_le _ _) ?_
    rw [Int.natAbs_mul, Int.natAbs_mul, Int.natAbs_natCast, Int.natAbs_natCast]
    have h1 : p.num.natAbs * q.den ≤ 2 ^ (a + b + c + d) := Nat.le_trans (Nat.mul_le_mul hp.1 hq.2) (by rw [← Nat.pow_add]; exact Nat.pow_le_pow_right (by decide) (by omega))
    have h2 : q.num.natAbs * p.den ≤ 2 ^ (a + b + c + d) := Nat.le_trans (Nat.mul_le_mul hq.1 hp.2) (by rw [← Nat.pow_add]; exact Nat.pow_le_pow_right (by decide) (by omega))
    rw [Nat.pow_succ]
    omega
  · rw [Nat.pow_add]
    exact Nat.mul_le_mul hp.2 hq.2
theorem fr_inv {H : Hp} {x : V} {a b : Int} (h : Tp H x (frD a b)) : ∃ p, x = .ref p ∧ H p = some (.tup [.int a, .int b]) := by
  obtain ⟨p, xs, rfl, hp, tp⟩ := h.inv
  have e := TpAll.ints (ns := [a, b]) tp
  subst e
  exact ⟨p, rfl, hp⟩
theorem fr_mk {H : Hp} {p : Addr} {a b : Int} (h : H p = some (.tup [.int a, .int b])) : Tp H (.ref p) (frD a b) := .tup h (.cons (.int a) (.cons (.int b) .nil))
def sp_lowest (Γ : Gm) : Sp := fun vs H Q _ => ∃ (o : Int) (u : Nat), vs = [.int o, .int u] ∧ 0 < u ∧ u ≤ 2 ^ 8000 ∧ ∀ x H', Same H H' → Tp H' x (ratD (mkRat o u)) → Q x H'
/-- lowest: over, under, great, less -/
def t_lowest (Γ : Gm) : TS := (tSeq (tPar 2 3 (tCons (tCB rAbs (tCons (tVar 0) tNil)) (tCons (tVar 1) tNil)))
  (tSeq (tWhile (tTest (tOp (rNeU Γ.K) (tVar 3) (tC (.int 0)))) (tPar 2 3 (tCons (tVar 3) (tCons (tOp rModI (tVar 2) (tVar 3)) tNil))))
  (tRet (tTup (tCons (tOp rDivI (tVar 0) (tVar 2)) (tCons (tOp rDivI (tVar 1) (tVar 2)) tNil))))))
theorem rd_lowest (Γ : Gm) (vs : List V) (H : Hp) (Q : VK) (E : XK) (h : sp_lowest Γ vs H Q E) : t_lowest Γ ⟨fun _ H' => Q .non H', Q, fun _ _ => False, fun _ _ => False⟩ (startN 4 vs) H := by
  obtain ⟨o, u, rfl, hu, hb, k⟩ := h
  unfold t_lowest
  walk_at "ss"
  refine k_while (fun m σ H' => ∃ G L : Nat, σ = [some (.int o), some (.int u), some (.int G), some (.int L)] ∧ H' = H ∧ m = L ∧ Nat.gcd G L = Nat.gcd u o.natAbs) u ⟨o.natAbs, u, ?_, rfl, rfl, Nat.gcd_comm _ _⟩ ?_
  · have : (if o < 0 then -o else o) = (o.natAbs : Int) := by split <;> omega
    rw [this]
    rfl
  · rintro m σ H' ⟨G, L, rfl, rfl, rfl, hg⟩
    walk_at "ss"
    by_cases hL : m = 0
    · subst hL
      refine w_ifN (by rw [decide_eq_true (by omega)]; rfl) ?_
      rw [Nat.gcd_zero_right] at hg
      have gu : G ≤ u := by rw [hg]; exact Nat.le_of_dvd hu (Nat.gcd_dvd_left _ _)
      have g0 : 0 < G := by rw [hg]; exact Nat.gcd_pos_of_pos_left _ hu
      have gl : (G : Int).natAbs.log2 < 9000 := by
        rw [Int.natAbs_natCast]
        have := log2_le (n := G) (k := 8000) (Nat.le_trans gu hb)
        omega
      walk_at "ss"
      refine w_divI ⟨by omega, gl⟩ ?_
      walk_at "ss"
      refine w_divI ⟨by omega, gl⟩ ?_
      walk_at "ss"
      refine n_tup fun p H1 f1 e1 g1 => ?_
      refine k _ H1 e1 ?_
      unfold ratD
      rw [Rat.num_mkRat, Rat.den_mkRat, if_neg (by omega), if_neg (by omega), ← hg]
      refine fr_mk ?_
      rw [Int.natCast_ediv]
      exact g1
    · refine w_ifY (by rw [decide_eq_false (by omega)]; rfl) ?_
      refine whK.mk ?_
      walk_at "ss"
      refine ⟨G % m, Nat.mod_lt _ (Nat.pos_of_ne_zero hL), m, G % m, ?_, rfl, rfl, ?_⟩
      · rw [Int.natCast_emod]
        rfl
      · rw [← hg, Nat.gcd_comm m, Nat.gcd_comm G]
        exact (Nat.gcd_rec m G).symm
def sp_plus (Γ : Gm) : Sp := fun vs H Q _ => ∃ x y, ∃ a c : Int, ∃ b d : Nat, vs = [x, y] ∧ Tp H x (frD a b) ∧ Tp H y (frD c d) ∧ 0 < b ∧ 0 < d ∧ a.natAbs ≤ 2 ^ 200000 ∧ c.natAbs ≤ 2 ^ 200000 ∧ b ≤ 2 ^ 4000 ∧ d ≤ 2 ^ 4000 ∧ ∀ z H', Same H H' → Tp H' z (ratD (mkRat a b + mkRat c d)) → Q z H'
/-- plus: one, other -/
def t_plus (Γ : Gm) : TS := (tRet (tCal (sp_lowest Γ) E0 (tCons (tOp (rAddU Γ.K) (tOp (rMulU Γ.K) (tOp (rIx Γ.K) (tVar 0) (tC (.int 0))) (tOp (rIx Γ.K) (tVar 1) (tC (.int 1)))) (tOp (rMulU Γ.K) (tOp (rIx Γ.K) (tVar 1) (tC (.int 0))) (tOp (rIx Γ.K) (tVar 0) (tC (.int 1))))) (tCons (tOp (rMulU Γ.K) (tOp (rIx Γ.K) (tVar 0) (tC (.int 1))) (tOp (rIx Γ.K) (tVar 1) (tC (.int 1)))) tNil))))
theorem rd_plus (Γ : Gm) (vs : List V) (H : Hp) (Q : VK) (E : XK) (h : sp_plus Γ vs H Q E) : t_plus Γ ⟨fun _ H' => Q .non H', Q, fun _ _ => False, fun _ _ => False⟩ (startN 2 vs) H := by
  obtain ⟨x, y, a, c, b, d, rfl, hx, hy, hb, hd, ba, bc, bb, bd, k⟩ := h
  obtain ⟨p, rfl, hp⟩ := fr_inv hx
  obtain ⟨q, rfl, hq⟩ := fr_inv hy
  have hbb : (b : Int).natAbs ≤ 2 ^ 4000 := by rw [Int.natAbs_natCast]; exact bb
  have hdd : (d : Int).natAbs ≤ 2 ^ 4000 := by rw [Int.natAbs_natCast]; exact bd
  have p0 : atI [V.int a, V.int b] 0 = some (.int a) := atI0 _ _
  have p1 : atI [V.int a, V.int b] 1 = some (.int b) := atI1 _ _ _
  have q0 : atI [V.int c, V.int d] 0 = some (.int c) := atI0 _ _
  have q1 : atI [V.int c, V.int d] 1 = some (.int d) := atI1 _ _ _
  unfold t_plus
  walk_at "s"
  walk_at "s"
  walk_at "s"
  walk_at "s"
  walk_at "s"
  walk_at "s"
  walk_at "s"
  walk_at "s"
  refine w_ixT (SqT.of hp) p0 ?_
  walk_at "s"
  walk_at "s"
  walk_at "s"
  refine w_ixT (SqT.of hq) q1 ?_
  refine w_mulI (cmul_of ba hdd) ?_
  walk_at "s"
  walk_at "s"
  walk_at "s"
  walk_at "s"
  refine w_ixT (SqT.of hq) q0 ?_
  walk_at "s"
  walk_at "s"
  walk_at "s"
  refine w_ixT (SqT.of hp) p1 ?_
  refine w_mulI (cmul_of bc hbb) ?_
  refine w_addI ?_
  walk_at "s"
  walk_at "s"
  walk_at "s"
  walk_at "s"
  walk_at "s"
  refine w_ixT (SqT.of hp) p1 ?_
  walk_at "s"
  walk_at "s"
  walk_at "s"
  refine w_ixT (SqT.of hq) q1 ?_
  refine w_mulI (cmul_of hbb hdd) ?_
  walk_at "s"
  refine ⟨a * d + c * b, b * d, by rw [Int.natCast_mul], Nat.mul_pos hb hd, ?_, fun z H' e t => ?_⟩
  · refine Nat.le_trans (Nat.mul_le_mul bb bd) ?_
    rw [← Nat.pow_add]
    exact Nat.le_refl _
  · refine k z H' e ?_
    rw [Rat.mkRat_add_mkRat _ _ (by omega) (by omega)]
    exact t

/-! ### polynomials by their coefficients, fractions: the plain part -/
def evalR : List Rat → Rat → Rat
  | [], _ => 0
  | c :: cs, x => c + x * evalR cs x
/-- times (x - root) -/
def goR (root : Rat) : Rat → List Rat → List Rat
  | p, [] => [p]
  | p, c :: cs => (p - root * c) :: goR root c cs
def tRoot (root : Rat) (R : List Rat) : List Rat := goR root 0 R
theorem goR_eval (root : Rat) : ∀ (R : List Rat) (p x : Rat), evalR (goR root p R) x = p + (x - root) * evalR R x
  | [], p, x => by
    show p + x * 0 = p + (x - root) * 0
    grind
  | c :: cs, p, x => by
    show (p - root * c) + x * evalR (goR root c cs) x = p + (x - root) * (c + x * evalR cs x)
    rw [goR_eval root cs c x]
    grind
theorem tRoot_eval (root : Rat) (R : List Rat) (x : Rat) : evalR (tRoot root R) x = (x - root) * evalR R x := by
  unfold tRoot
  rw [goR_eval]
  grind
theorem goR_len (root : Rat) : ∀ (R : List Rat) (p : Rat), (goR root p R).length = R.length + 1
  | [], _ => rfl
  | c :: cs, p => by
    show (goR root c cs).length + 1 = _
    rw [goR_len root cs c]
    rfl
theorem goR_at (root : Rat) : ∀ (R : List Rat) (p : Rat) (i : Nat) (c : Rat), R[i]? = some c → ∃ q, (p :: R)[i]? = some q ∧ (goR root p R)[i]? = some (q - root * c)
  | [], _, _, _, h => by simp at h
  | c :: cs, p, 0, c', h => by
    have : c = c' := by simpa using h
    subst this
    exact ⟨p, rfl, rfl⟩
  | c :: cs, p, i + 1, c', h => by
    obtain ⟨q, h1, h2⟩ := goR_at root cs c i c' (by simpa using h)
    exact ⟨q, by simpa using h1, by
      show (goR root c cs)[i]? = _
      exact h2⟩
theorem goR_last (root : Rat) : ∀ (R : List Rat) (p : Rat), (goR root p R)[R.length]? = (p :: R)[R.length]?
  | [], _ => rfl
  | c :: cs, p => by
    show (goR root c cs)[cs.length]? = (c :: cs)[cs.length]?
    exact goR_last root cs c
/-- some of each, place by place -/
def addS (s0 : Int) (w : Nat) : List Rat → List Rat → List Rat
  | f :: fs, c :: cs => (f + mkRat (c.num * s0) (c.den * w)) :: addS s0 w fs cs
  | fs, [] => fs
  | [], _ => []
theorem addS_len (s0 : Int) (w : Nat) : ∀ (fs cs : List Rat), (addS s0 w fs cs).length = fs.length
  | f :: fs, c :: cs => by
    show (addS s0 w fs cs).length + 1 = fs.length + 1
    rw [addS_len s0 w fs cs]
  | [], [] => rfl
  | _ :: _, [] => rfl
  | [], _ :: _ => rfl
theorem addS_nil (s0 : Int) (w : Nat) (fs : List Rat) : addS s0 w fs [] = fs := by cases fs <;> rfl
theorem addS_at (s0 : Int) (w : Nat) : ∀ (fs cs : List Rat) (i : Nat) (f c : Rat), fs[i]? = some f → cs[i]? = some c → (addS s0 w fs cs)[i]? = some (f + mkRat (c.num * s0) (c.den * w))
  | [], _, _, _, _, h, _ => by simp at h
  | _, [], _, _, _, _, h => by simp at h
  | f :: fs, c :: cs, 0, f', c', h1, h2 => by
    have e1 : f = f' := by simpa using h1
    have e2 : c = c' := by simpa using h2
    subst e1 e2
    rfl
  | f :: fs, c :: cs, i + 1, f', c', h1, h2 => addS_at s0 w fs cs i f' c' (by simpa using h1) (by simpa using h2)
theorem addS_rest (s0 : Int) (w : Nat) : ∀ (fs cs : List Rat), (addS s0 w fs cs).drop cs.length = fs.drop cs.length
  | f :: fs, c :: cs => addS_rest s0 w fs cs
  | [], [] => rfl
  | _ :: _, [] => rfl
  | [], c :: cs => rfl
theorem mk_mul (q : Rat) (s : Int) (w : Nat) : mkRat (q.num * s) (q.den * w) = q * mkRat s w := by
  conv => rhs; rw [← Rat.mkRat_self q]
  rw [Rat.mkRat_mul_mkRat]
theorem mk_one (s : Int) : mkRat s 1 = (s : Rat) := by
  rw [← Rat.mkRat_self (s : Rat)]
  rfl
theorem mk_mul1 (q : Rat) (s : Int) : mkRat (q.num * s) q.den = q * (s : Rat) := by
  have := mk_mul q s 1
  rw [Nat.mul_one, mk_one] at this
  exact this
theorem addS_eval (s0 : Int) (w : Nat) (x : Rat) : ∀ (fs cs : List Rat), cs.length ≤ fs.length → evalR (addS s0 w fs cs) x = evalR fs x + mkRat s0 w * evalR cs x
  | [], [], _ => by
    show (0 : Rat) = 0 + mkRat s0 w * 0
    grind
  | f :: fs, [], _ => by
    show f + x * evalR fs x = f + x * evalR fs x + mkRat s0 w * 0
    grind
  | [], c :: cs, h => absurd h (by simp)
  | f :: fs, c :: cs, h => by
    show (f + mkRat (c.num * s0) (c.den * w)) + x * evalR (addS s0 w fs cs) x = f + x * evalR fs x + mkRat s0 w * (c + x * evalR cs x)
    rw [addS_eval s0 w x fs cs (by simpa using h), mk_mul]
    grind
def diffs (s : List Int) : List Int := List.zipWith (fun now later => later - now) s s.tail
def fac : Nat → Nat
  | 0 => 1
  | k + 1 => fac k * (k + 1)
/-- what stands after so many steps -/
def thS (ns : List Int) : Nat → List Rat × List Rat × List Int
  | 0 => (List.replicate 7 0, [1], ns)
  | k + 1 => (addS ((thS ns k).2.2.headD 0) (fac k) (thS ns k).1 (thS ns k).2.1, tRoot ((k + 1 : Nat) : Int) (thS ns k).2.1, diffs (thS ns k).2.2)
def thru (ns : List Int) : List Rat := (thS ns 7).1
/-! how great they are -/
def bk : Nat → Nat
  | 0 => 8
  | k + 1 => 2 * bk k + 8
def fk : Nat → Nat
  | 0 => 1
  | k + 1 => fk k + 10 * k + bk k + 80
theorem bk_le : ∀ k < 8, bk k ≤ 2100 := by decide
theorem fk_le : ∀ k < 8, fk k ≤ 9000 := by decide
theorem fac_le : ∀ k < 7, fac k ≤ 2 ^ 10 := by decide
theorem fac_pos : ∀ k, 0 < fac k
  | 0 => by decide
  | k + 1 => Nat.mul_pos (fac_pos k) (Nat.succ_pos k)
theorem bd_mul {a b c d : Nat} {p q : Rat} (hp : bdR a b p) (hq : bdR c d q) : bdR (a + c) (b + d) (p * q) := by
  rw [Rat.mul_def']
  refine bd_mk ?_ ?_
  · rw [Int.natAbs_mul, Nat.pow_add]
    exact Nat.mul_le_mul hp.1 hq.1
  · rw [Nat.pow_add]
    exact Nat.mul_le_mul hp.2 hq.2
theorem bd_int {a : Nat} {n : Int} (h : n.natAbs ≤ 2 ^ a) : bdR a 0 (n : Rat) := ⟨h, Nat.le_refl 1⟩
theorem bd_neg {a b : Nat} {q : Rat} (h : bdR a b q) : bdR a b (-q) := ⟨by rw [show (-q).num = -q.num from rfl, Int.natAbs_neg]; exact h.1, h.2⟩
theorem goR_bd {root : Int} (hr : root.natAbs ≤ 2 ^ 3) {a : Nat} : ∀ (R : List Rat) (p : Rat), bdR a 0 p → (∀ q ∈ R, bdR a 0 q) → ∀ q ∈ goR (root : Rat) p R, bdR (2 * a + 8) 0 q
  | [], p, hp, _, q, hq => by
    have : q = p := by simpa [goR] using hq
    rw [this]
    exact hp.mono (by omega) (Nat.le_refl _)
  | c :: cs, p, hp, hR, q, hq => by
    have hq' : q = p - (root : Rat) * c ∨ q ∈ goR (root : Rat) c cs := by simpa [goR] using hq
    have hc := hR c (List.mem_cons_self ..)
    rcases hq' with rfl | hq'
    · rw [Rat.sub_eq_add_neg]
      exact (bd_add hp (bd_neg (bd_mul (bd_int hr) hc))).mono (by omega) (by omega)
    · exact goR_bd hr cs c hc (fun q' h' => hR q' (List.mem_cons_of_mem _ h')) q hq'
theorem addS_bd {s0 : Int} {w a b c : Nat} (hs : s0.natAbs ≤ 2 ^ c) (hw : w ≤ 2 ^ 10) {d : Nat} : ∀ (fs cs : List Rat), (∀ q ∈ fs, bdR a b q) → (∀ q ∈ cs, bdR d 0 q) → ∀ q ∈ addS s0 w fs cs, bdR (a + b + (d + c) + 10 + 1) (b + 10) q
  | [], [], _, _, q, hq => nomatch hq
  | f :: fs, [], hf, _, q, hq => (hf q hq).mono (by omega) (by omega)
  | [], _ :: _, _, _, q, hq => nomatch hq
  | f :: fs, c' :: cs, hf, hc, q, hq => by
    have hq' : q = f + mkRat (c'.num * s0) (c'.den * w) ∨ q ∈ addS s0 w fs cs := by simpa [addS] using hq
    rcases hq' with rfl | hq'
    · refine bd_add (hf f (List.mem_cons_self ..)) ?_
      rw [mk_mul]
      have := bd_mul (hc c' (List.mem_cons_self ..)) (bd_mk hs hw)
      exact this.mono (by omega) (by omega)
    · exact addS_bd hs hw fs cs (fun q' h' => hf q' (List.mem_cons_of_mem _ h')) (fun q' h' => hc q' (List.mem_cons_of_mem _ h')) q hq'
theorem diffs_bd {c : Nat} {s : List Int} (h : ∀ n ∈ s, n.natAbs ≤ 2 ^ c) : ∀ n ∈ diffs s, n.natAbs ≤ 2 ^ (c + 1) := by
  intro n hn
  unfold diffs at hn
  obtain ⟨i, hi⟩ := List.mem_iff_getElem?.mp hn
  rw [List.getElem?_zipWith] at hi
  cases h1 : s[i]? with
  | none => rw [h1] at hi; simp at hi
  | some x =>
    cases h2 : s.tail[i]? with
    | none => rw [h1, h2] at hi; simp at hi
    | some y =>
      rw [h1, h2] at hi
      cases hi
      have b1 := h x (List.mem_of_getElem? h1)
      have b2 := h y (List.mem_of_mem_tail (List.mem_of_getElem? h2))
      rw [Nat.pow_succ]
      omega
theorem diffs_len (s : List Int) : (diffs s).length = s.length - 1 := by
  unfold diffs
  rw [List.length_zipWith, List.length_tail]
  omega
structure ThI (f r : List Rat) (s : List Int) (k : Nat) : Prop where
  fl : f.length = 7
  rl : r.length = k + 1
  sl : s.length = 7 - k
  fb : ∀ q ∈ f, bdR (fk k) (10 * k) q
  rb : ∀ q ∈ r, bdR (bk k) 0 q
  sb : ∀ n ∈ s, n.natAbs ≤ 2 ^ (60 + k)
theorem thS_inv {ns : List Int} (hl : ns.length = 7) (hb : ∀ n ∈ ns, n.natAbs ≤ 2 ^ 60) : ∀ k, k ≤ 7 → ThI (thS ns k).1 (thS ns k).2.1 (thS ns k).2.2 k
  | 0, _ => by
    refine ⟨rfl, rfl, hl, fun q hq => ?_, fun q hq => ?_, hb⟩
    · have : q = 0 := by simpa [thS] using hq
      subst this
      exact ⟨by decide, by decide⟩
    · have : q = 1 := by simpa [thS] using hq
      subst this
      exact ⟨by decide, by decide⟩
  | k + 1, hk => by
    obtain ⟨fl, rl, sl, fb, rb, sb⟩ := thS_inv hl hb k (by omega)
    have h0 : ((thS ns k).2.2.headD 0).natAbs ≤ 2 ^ (60 + k) := by
      cases e : (thS ns k).2.2 with
      | nil => show (0 : Int).natAbs ≤ _; exact Nat.zero_le _
      | cons x xs => exact sb x (by rw [e]; exact List.mem_cons_self ..)
    have hr : (((k + 1 : Nat) : Int)).natAbs ≤ 2 ^ 3 := by
      rw [Int.natAbs_natCast]
      show k + 1 ≤ 8
      omega
    have b0 : bdR (bk k) 0 (0 : Rat) := ⟨by show (0 : Int).natAbs ≤ _; exact Nat.zero_le _, by decide⟩
    refine ⟨?_, ?_, ?_, fun q hq => ?_, fun q hq => ?_, fun n hn => ?_⟩
    · show (addS _ _ _ _).length = 7
      rw [addS_len, fl]
    · show (goR _ _ _).length = _
      rw [goR_len, rl]
    · show (diffs _).length = _
      rw [diffs_len, sl]
      omega
    · have := addS_bd h0 (fac_le k (by omega)) (thS ns k).1 (thS ns k).2.1 fb rb q hq
      refine this.mono ?_ (by omega)
      show _ ≤ fk k + 10 * k + bk k + 80
      omega
    · exact goR_bd hr _ _ b0 rb q hq
    · have := diffs_bd sb n hn
      rwa [show 60 + (k + 1) = 60 + k + 1 by omega]
theorem evalR_bd {x : Int} (hx : x.natAbs ≤ 2 ^ 100) : ∀ (R : List Rat), R.length ≤ 10 → (∀ q ∈ R, bdR 9000 70 q) → bdR (11000 * R.length) (70 * R.length) (evalR R x)
  | [], _, _ => ⟨by show (0 : Int).natAbs ≤ _; exact Nat.zero_le _, by show 1 ≤ _; exact Nat.two_pow_pos _⟩
  | c :: cs, hl, h => by
    have hl' : cs.length + 1 ≤ 10 := hl
    have ih := evalR_bd hx cs (by omega) fun q hq => h q (List.mem_cons_of_mem _ hq)
    have := bd_add (h c (List.mem_cons_self ..)) (bd_mul (bd_int hx) ih)
    show bdR (11000 * (cs.length + 1)) (70 * (cs.length + 1)) (c + (x : Rat) * evalR cs x)
    exact this.mono (by omega) (by omega)

/-! ### polynomials: the readings -/
theorem TpAll.set {H : Hp} : ∀ {vs : List V} {ds : List PyData} {i : Nat} {v : V} {d : PyData}, TpAll H vs ds → Tp H v d → TpAll H (vs.set i v) (ds.set i d)
  | _, _, _, _, _, .nil, _ => .nil
  | _, _, 0, _, _, .cons _ k, q => .cons q k
  | _, _, i + 1, _, _, .cons h k, q => .cons h (TpAll.set k q)
theorem mix_set {α : Type} {A B : List α} {i : Nat} {x : α} (hl : A.length = B.length) (h : A[i]? = some x) : (A.take i ++ B.drop i).set i x = A.take (i + 1) ++ B.drop (i + 1) := by
  have hi := (List.getElem?_eq_some_iff.mp h).1
  rw [take_succ h, List.set_append_right i x (show (A.take i).length ≤ i by rw [List.length_take]; omega), List.length_take, Nat.min_eq_left (Nat.le_of_lt hi), Nat.sub_self, List.drop_eq_getElem_cons (show i < B.length by omega), List.append_assoc]
  rfl
theorem mix_get {α : Type} {A B : List α} {i : Nat} (hl : A.length = B.length) (hi : i < A.length) : (A.take i ++ B.drop i)[i]? = B[i]? := by
  rw [List.getElem?_append_right (by rw [List.length_take]; omega), List.length_take, Nat.min_eq_left (Nat.le_of_lt hi), Nat.sub_self, List.getElem?_drop, Nat.add_zero]
theorem ixN_nat {n i : Nat} (h : i < n) {j : Int} (e : j = i) : ixN n j = some i := by
  subst e
  unfold ixN
  rw [if_pos (by omega), if_pos (by omega), Int.toNat_natCast]
def RL (H : Hp) (a : Addr) (R : List Rat) : Prop := ∃ xs, H a = some (.lst xs) ∧ TpAll H xs (R.map ratD)
theorem RL.mono {H H' : Hp} {a : Addr} {R : List Rat} (e : Same H H') (h : RL H a R) : RL H' a R := by
  obtain ⟨xs, h1, h2⟩ := h
  exact ⟨xs, e _ _ h1, h2.mono e.tups⟩
theorem RL.get {H : Hp} {xs : List V} {R : List Rat} {i : Nat} {q : Rat} (h : TpAll H xs (R.map ratD)) (hq : R[i]? = some q) : ∃ p, xs[i]? = some (.ref p) ∧ H p = some (.tup [.int q.num, .int q.den]) := by
  obtain ⟨x, h1, h2⟩ := h.get (i := i) (d := ratD q) (by rw [List.getElem?_map, hq]; rfl)
  obtain ⟨p, rfl, hp⟩ := fr_inv h2
  exact ⟨p, h1, hp⟩
theorem RL.get' {H : Hp} {xs : List V} {R : List Rat} {i : Nat} {x : V} (h : TpAll H xs (R.map ratD)) (hx : xs[i]? = some x) : ∃ q p, R[i]? = some q ∧ x = .ref p ∧ H p = some (.tup [.int q.num, .int q.den]) := by
  obtain ⟨d, h1, h2⟩ := h.get' hx
  rw [List.getElem?_map] at h1
  obtain ⟨q, hq, rfl⟩ := Option.map_eq_some_iff.mp h1
  obtain ⟨p, rfl, hp⟩ := fr_inv h2
  exact ⟨q, p, hq, rfl, hp⟩
theorem w_iZip {K : PySem.W.Frag} {ta : TA} {σ : St} {H : Hp} {R : It → Hp → Prop} (h : ta σ H fun vs H1 => ∃ a b xs ys, vs = [.ref a, .ref b] ∧ SqL K H1 a xs ∧ SqL K H1 b ys ∧ R (Itz K a b) H1) : iZip K ta σ H R := h
theorem w_revL {K : PySem.W.Frag} {te : TE} {σ : St} {H : Hp} {Q : VK} (h : te σ H fun x H1 => ∃ a xs, x = .ref a ∧ SqL K H1 a xs ∧ ∀ p, H1 p = none → Q (.ref p) (upd H1 p (.lst xs.reverse))) : tRevL K te σ H Q := h
/-- between two of plus: the bounds -/
theorem w_plus {Γ : Gm} {x y : V} {H : Hp} {Q : VK} {E : XK} (a c : Int) (b d : Nat) (hx : Tp H x (frD a b)) (hy : Tp H y (frD c d)) (hb : 0 < b) (hd : 0 < d) (ba : a.natAbs ≤ 2 ^ 200000) (bc : c.natAbs ≤ 2 ^ 200000) (bb : b ≤ 2 ^ 4000) (bd : d ≤ 2 ^ 4000) (k : ∀ z H', Same H H' → Tp H' z (ratD (mkRat a b + mkRat c d)) → Q z H') : sp_plus Γ [x, y] H Q E := ⟨x, y, a, c, b, d, rfl, hx, hy, hb, hd, ba, bc, bb, bd, k⟩
theorem le_big {n a b : Nat} (h : n ≤ 2 ^ a) (h2 : a ≤ b) : n ≤ 2 ^ b := Nat.le_trans h (Nat.pow_le_pow_right (by decide) h2)
def sp_times_root (Γ : Gm) : Sp := fun vs H Q _ => ∃ (a : Addr) (root : Nat) (R : List Rat), vs = [.ref a, .int root] ∧ RL H a R ∧ R.length ≤ 50 ∧ root ≤ 8 ∧ (∀ q ∈ R, bdR 3000 0 q) ∧ ∀ l H', Same H H' → H l = none → RL H' l (tRoot ((root : Int) : Rat) R) → Q (.ref l) H'
/-- times_root: row, root, found, at, one -/
def t_times_root (Γ : Gm) : TS := (tSeq (tAsg (tLst (tCons (tTup (tCons (tC (.int 0)) (tCons (tC (.int 1)) tNil))) (StX.tStar Γ.K (tVar 0) tNil))) (gName 2))
  (tSeq (tFor (iEnumS Γ.K (tCons (tVar 0) tNil)) (gTup Γ.K 2 (gCons (gName 3) (gCons (gName 4) gNil))) (tAsg (tCal (sp_plus Γ) E0 (tCons (tOp (rIx Γ.K) (tVar 2) (tVar 3)) (tCons (tTup (tCons (tOp rSubI (tC (.int 0)) (tOp (rMulU Γ.K) (tVar 1) (tOp (rIx Γ.K) (tVar 4) (tC (.int 0))))) (tCons (tOp (rIx Γ.K) (tVar 4) (tC (.int 1))) tNil))) tNil))) (gSub (tVar 2) (tVar 3) rSetL)))
  (tRet (tVar 2))))
theorem rd_times_root (Γ : Gm) (vs : List V) (H : Hp) (Q : VK) (E : XK) (h : sp_times_root Γ vs H Q E) : t_times_root Γ ⟨fun _ H' => Q .non H', Q, fun _ _ => False, fun _ _ => False⟩ (startN 5 vs) H := by
  obtain ⟨a, root, R, rfl, ⟨xs, g, t⟩, hl, hr, hb, k⟩ := h
  have xl := t.length
  rw [List.length_map] at xl
  unfold t_times_root
  walk_at "ss"
  refine n_tup fun p0 H1 f1 e1 g1 => ?_
  walk_at "ss"
  refine ⟨a, xs, rfl, .inr (SqL.of (e1 _ _ g)), ?_⟩
  walk_at "ss"
  refine n_lst (hz := by simp only [List.length_cons, List.length_append, List.length_nil]; omega) fun L H2 f2 e2 g2 => ?_
  walk_at "ss"
  have e12 := e1.trans e2
  refine k_enL (SqL.of (e12 _ _ g)) ?_
  have lenA : (goR ((root : Int) : Rat) 0 R).length = (0 :: R).length := by rw [goR_len]; rfl
  have fL : H L = none := e1.free f2
  refine k_it (walk_enum (K := Γ.K) (a := a) (xs := xs)) (fun i σ H' => ∃ x3 x4 ys, σ = [some (.ref a), some (.int root), some (.ref L), x3, x4] ∧ Same H1 H' ∧ H' L = some (.lst ys) ∧ TpAll H' ys (((goR ((root : Int) : Rat) 0 R).take i ++ (0 :: R).drop i).map ratD)) ⟨none, none, _, rfl, e2, g2, ?_⟩ (fun i σ H' _ ⟨_, _, _, _, e, _⟩ => SqL.of (e _ _ (e1 _ _ g))) ?_ ?_
  · rw [List.take_zero, List.nil_append, List.drop_zero, List.append_nil]
    exact .cons (fr_mk (e2 _ _ g1)) (t.mono e12.tups)
  · rintro i x σ H3 H4 hi ⟨x3, x4, ys, rfl, e3, g3, t3⟩ ⟨T, u, w, rfl, hT, rfl, hu, hw⟩
    cases hu
    have eT := Same.new (o := .tup [.int (i : Nat), w]) hT
    refine w_gTup (xs := [.int (i : Nat), w]) (SqT.of upd_same) rfl ?_
    have e13 := e1.trans (e3.trans eT)
    have tR := t.mono e13.tups
    have g4 := eT _ _ g3
    have t4 := t3.mono eT.tups
    have e34 := e3.trans eT
    generalize upd H3 T (.tup [.int (i : Nat), w]) = H5 at e13 tR g4 t4 e34 ⊢
    obtain ⟨c, pc, hc, rfl, gc⟩ := RL.get' tR hw
    obtain ⟨q, hq, hA⟩ := goR_at ((root : Int) : Rat) R 0 i c hc
    have hiA : i < (goR ((root : Int) : Rat) 0 R).length := by rw [lenA]; show i < R.length + 1; omega
    have hmix : ((goR ((root : Int) : Rat) 0 R).take i ++ (0 :: R).drop i)[i]? = some q := by rw [mix_get lenA hiA]; exact hq
    obtain ⟨pq, hpq, gq⟩ := RL.get t4 hmix
    have bc := hb c (List.mem_of_getElem? hc)
    have bq : bdR 3000 0 q := by
      have := List.mem_of_getElem? hq
      rw [List.mem_cons] at this
      rcases this with rfl | h
      · exact ⟨by show (0 : Int).natAbs ≤ _; exact Nat.zero_le _, Nat.le_refl 1⟩
      · exact hb q h
    walk_at "ss"
    refine w_ixL (SqL.of g4) (atI_of (x := .ref pq) (by omega) (by rw [Int.toNat_natCast]; exact hpq)) ?_
    walk_at "ss"
    refine w_ixT (SqT.of gc) (atI0 _ _) ?_
    have rb : (root : Int).natAbs ≤ 2 ^ 3 := by rw [Int.natAbs_natCast]; exact hr
    refine w_mulI (cmul_of rb bc.1) ?_
    walk_at "ss"
    refine w_ixT (SqT.of gc) (atI1 _ _ _) ?_
    walk_at "ss"
    refine n_tup fun pn H6 f6 e6 g6 => ?_
    walk_at "ss"
    refine w_plus q.num (0 - (root : Int) * c.num) q.den c.den (fr_mk (e6 _ _ gq)) (fr_mk g6) q.den_pos c.den_pos (le_big bq.1 (by decide)) ?_ (le_big bq.2 (by decide)) (le_big bc.2 (by decide)) fun z H7 e7 tz => ?_
    · rw [Int.zero_sub, Int.natAbs_neg]
      exact le_big (mul_nat rb bc.1) (by decide)
    have ez : mkRat q.num q.den + mkRat (0 - (root : Int) * c.num) c.den = q - ((root : Int) : Rat) * c := by
      rw [Rat.mkRat_self, show 0 - (root : Int) * c.num = c.num * (-(root : Int)) from by rw [Int.zero_sub, Int.mul_neg, Int.mul_comm], mk_mul1, Rat.intCast_neg]
      grind
    rw [ez] at tz
    walk_at "ss"
    have g7 := (e6.trans e7) _ _ g4
    have yl := t4.length
    rw [List.length_map, List.length_append, List.length_take, List.length_drop, lenA] at yl
    have iy : i < ys.length := by
      rw [yl]
      show i < _
      simp only [List.length_cons]
      omega
    refine w_setL g7 (ixN_nat iy rfl) ?_
    have uL : Tups H7 (upd H7 L (.lst (ys.set i z))) := (Same.refl H7).tups.upd (fun xs z => by rw [g7] at z; cases z)
    refine ⟨_, _, ys.set i z, rfl, Same.mut (e34.trans (e6.trans e7)) f2, upd_same, ?_⟩
    rw [← mix_set lenA hA, List.map_set]
    exact (t4.mono ((e6.trans e7).tups.trans uL)).set (tz.mono uL)
  · rintro σ H3 ⟨x3, x4, ys, rfl, e3, g3, t3⟩
    walk_at "ss"
    refine k L H3 (e1.trans e3) fL ⟨ys, g3, ?_⟩
    rw [xl] at t3
    have : (goR ((root : Int) : Rat) 0 R).take R.length ++ (0 :: R).drop R.length = tRoot ((root : Int) : Rat) R := by
      have hl' : R.length < (goR ((root : Int) : Rat) 0 R).length := by rw [goR_len]; omega
      have e1 : (0 :: R).drop R.length = (goR ((root : Int) : Rat) 0 R).drop R.length := by
        rw [List.drop_eq_getElem_cons (show R.length < (0 :: R).length by simp), List.drop_eq_getElem_cons hl', List.drop_of_length_le (by simp), List.drop_of_length_le (by rw [goR_len]; exact Nat.le_refl _)]
        congr 1
        have := goR_last ((root : Int) : Rat) R 0
        rw [List.getElem?_eq_getElem hl', List.getElem?_eq_getElem (by simp)] at this
        exact (Option.some.inj this).symm
      rw [e1, List.take_append_drop]
      rfl
    rw [this] at t3
    exact t3
/-! ### the sums, one off each time -/
def stp (r : R) (b : Bool) (h : Nat) : Int := if b = true then r.pts 1 h else r.pts h 1
def linS (r : R) (b : Bool) : Nat → Int
  | 0 => 0
  | k + 1 => linS r b k + stp r b (k + 1)
def sumsL (r : R) (b : Bool) (m : Nat) : List Int := (List.range m).map (linS r b)
def sp_sums_to (Γ : Gm) : Sp := fun vs H Q _ => ∃ v r b, ∃ m : Nat, vs = [v, .int m, .bl b] ∧ RuleAt Γ H v r ∧ 1 ≤ m ∧ m ≤ 50 ∧ (m : Int) ≤ r.top ∧ ∀ l H', Same H H' → H l = none → H' l = some (.lst ((sumsL r b m).map V.int)) → Q (.ref l) H'
/-- sums_to: rule, most, is_first, found, heap -/
def t_sums_to (Γ : Gm) : TS := (tSeq (tAsg (tLst (tCons (tC (.int 0)) tNil)) (gName 3))
  (tSeq (tFor (iRng2 (tCons (tC (.int 1)) (tCons (tVar 1) tNil))) (gName 4) (tDrop (tBM Γ.K "list" rAppend (tVar 3) (tCons (tOp (rAddU Γ.K) (tOp (rIx Γ.K) (tVar 3) (tUn (rU fun i => .int (-i)) (tC (.int 1)))) (tIf (tB (tVar 2)) (tCal (sp_points_by Γ) E0 (tCons (tVar 0) (tCons (tC (.int 1)) (tCons (tVar 4) tNil)))) (tCal (sp_points_by Γ) E0 (tCons (tVar 0) (tCons (tVar 4) (tCons (tC (.int 1)) tNil)))))) tNil))))
  (tRet (tVar 3))))
theorem rd_sums_to (Γ : Gm) (vs : List V) (H : Hp) (Q : VK) (E : XK) (h : sp_sums_to Γ vs H Q E) : t_sums_to Γ ⟨fun _ H' => Q .non H', Q, fun _ _ => False, fun _ _ => False⟩ (startN 5 vs) H := by
  obtain ⟨v, r, b, m, rfl, hr, h1, h50, ht, k⟩ := h
  unfold t_sums_to
  walk_at "ss"
  refine n_lst fun L H1 fL e1 g1 => ?_
  walk_at "ss"
  refine k_rng2 (by omega) ?_
  refine k_range (fun i σ H' => ∃ x4, σ = [some v, some (.int m), some (.bl b), some (.ref L), x4] ∧ Same H H' ∧ H' L = some (.lst ((sumsL r b (i + 1)).map V.int))) ⟨none, rfl, e1, g1⟩ ?_ ?_
  · rintro i σ H2 hi ⟨x4, rfl, e2, g2⟩
    have sl : (sumsL r b (i + 1)).length = i + 1 := by unfold sumsL; rw [List.length_map, List.length_range]
    walk_at "ss"
    refine w_tyL g2 ?_
    walk_at "ss"
    refine w_ixL (SqL.of g2) (atI_last (x := .int (linS r b i)) (by rw [List.length_map, sl, List.getElem?_map]; unfold sumsL; rw [List.getElem?_map, Nat.add_sub_cancel, List.getElem?_range (by omega)]; rfl) (by rw [List.length_map, sl]; omega)) ?_
    have fin : ∀ H3, Same H2 H3 → rAppend (.ref L) [.int (linS r b i + stp r b (i + 1))] H3 fun _ H1 => ∃ x4, [some v, some (.int m), some (.bl b), some (.ref L), some (V.int (1 + (i : Int)))] = [some v, some (.int m), some (.bl b), some (.ref L), x4] ∧ Same H H1 ∧ H1 L = some (.lst ((sumsL r b (i + 1 + 1)).map V.int)) := fun H3 e3 => by
      refine w_app (e3 _ _ g2) (by rw [List.length_map, sl]; omega) ?_
      refine ⟨_, rfl, Same.mut (e2.trans e3) fL, ?_⟩
      rw [upd_same]
      show some (HO.lst _) = some (.lst (((List.range (i + 1 + 1)).map (linS r b)).map V.int))
      rw [List.range_succ, List.map_append, List.map_append]
      rfl
    have es : stp r b (i + 1) = if b = true then r.pts 1 (1 + (i : Int)) else r.pts (1 + (i : Int)) 1 := by
      unfold stp
      rw [show ((i + 1 : Nat) : Int) = 1 + (i : Int) by omega]
    walk_at "ss"
    cases b with
    | true =>
      rw [if_pos rfl] at es
      walk_at "ss"
      refine ⟨v, r, _, _, rfl, hr.mono e2, by omega, by omega, by omega, fun H3 e3 => ?_⟩
      rw [← es]
      walk_at "ss"
      exact fin H3 e3
    | false =>
      rw [if_neg (by decide)] at es
      walk_at "ss"
      refine ⟨v, r, _, _, rfl, hr.mono e2, by omega, by omega, by omega, fun H3 e3 => ?_⟩
      rw [← es]
      walk_at "ss"
      exact fin H3 e3
  · rintro σ H2 ⟨x4, rfl, e2, g2⟩
    walk_at "ss"
    refine k L H2 e2 fL ?_
    rw [show ((m : Int) - 1).toNat + 1 = m by omega] at g2
    exact g2
/-! ### a polynomial's value -/
def sp_value_at (Γ : Gm) : Sp := fun vs H Q _ => ∃ (a : Addr) (x : Int) (R : List Rat), vs = [.ref a, .int x] ∧ RL H a R ∧ R.length ≤ 10 ∧ x.natAbs ≤ 2 ^ 100 ∧ (∀ q ∈ R, bdR 9000 70 q) ∧ ∀ z H', Same H H' → Tp H' z (ratD (evalR R (x : Rat))) → Q z H'
/-- value_at: row, number, found, one -/
def t_value_at (Γ : Gm) : TS := (tSeq (tAsg (tTup (tCons (tC (.int 0)) (tCons (tC (.int 1)) tNil))) (gName 2))
  (tSeq (tFor (iSeq Γ.K (tRevL Γ.K (tVar 0))) (gName 3) (tAsg (tCal (sp_plus Γ) E0 (tCons (tTup (tCons (tOp (rMulU Γ.K) (tOp (rIx Γ.K) (tVar 2) (tC (.int 0))) (tVar 1)) (tCons (tOp (rIx Γ.K) (tVar 2) (tC (.int 1))) tNil))) (tCons (tVar 3) tNil))) (gName 2)))
  (tRet (tVar 2))))
theorem rd_value_at (Γ : Gm) (vs : List V) (H : Hp) (Q : VK) (E : XK) (h : sp_value_at Γ vs H Q E) : t_value_at Γ ⟨fun _ H' => Q .non H', Q, fun _ _ => False, fun _ _ => False⟩ (startN 4 vs) H := by
  obtain ⟨a, x, R, rfl, ⟨xs, g, t⟩, hl, hx, hb, k⟩ := h
  have xl := t.length
  rw [List.length_map] at xl
  unfold t_value_at
  walk_at "ss"
  refine n_tup fun p0 H1 f1 e1 g1 => ?_
  walk_at "ss"
  refine w_revL ?_
  walk_at "ss"
  refine ⟨a, xs, rfl, SqL.of (e1 _ _ g), fun L fL => ?_⟩
  have e2 := Same.new (o := .lst xs.reverse) fL
  have g2 : upd H1 L (.lst xs.reverse) L = some (.lst xs.reverse) := upd_same
  generalize upd H1 L (.lst xs.reverse) = H2 at e2 g2 ⊢
  refine k_seqL (SqL.of g2) ?_
  have e12 := e1.trans e2
  refine k_list (xs := xs.reverse) (fun i σ H' => ∃ z x3, σ = [some (.ref a), some (.int x), some z, x3] ∧ Same H2 H' ∧ Tp H' z (ratD (evalR (R.drop (R.length - i)) (x : Rat)))) ⟨_, _, rfl, Same.refl H2, ?_⟩ (fun i σ H' _ ⟨_, _, _, e, _⟩ => SqL.of (e _ _ g2)) ?_ ?_
  · rw [Nat.sub_zero, List.drop_of_length_le (Nat.le_refl _)]
    exact fr_mk (e2 _ _ g1)
  · rintro i y σ H3 hi ⟨z, x3, rfl, e3, tz⟩
    have hil : i < R.length := by
      have := (List.getElem?_eq_some_iff.mp hi).1
      rw [List.length_reverse] at this
      omega
    rw [List.getElem?_reverse (by omega), xl] at hi
    obtain ⟨c, pc, hc, rfl, gc⟩ := RL.get' (t.mono (e12.trans e3).tups) hi
    obtain ⟨pz, rfl, gz⟩ := fr_inv tz
    have hd : R.drop (R.length - (i + 1)) = c :: R.drop (R.length - i) := by
      rw [List.drop_eq_getElem_cons (show R.length - (i + 1) < R.length by omega)]
      have : R[R.length - 1 - i]? = some c := hc
      rw [show R.length - 1 - i = R.length - (i + 1) by omega, List.getElem?_eq_getElem (by omega)] at this
      rw [Option.some.inj this, show R.length - (i + 1) + 1 = R.length - i by omega]
    obtain ⟨q, hq⟩ : ∃ q, q = evalR (R.drop (R.length - i)) (x : Rat) := ⟨_, rfl⟩
    have bq : bdR 110000 700 q := by
      rw [hq]
      have := evalR_bd hx (R.drop (R.length - i)) (by rw [List.length_drop]; omega) fun q' h' => hb q' (List.mem_of_mem_drop h')
      rw [List.length_drop] at this
      exact this.mono (by omega) (by omega)
    rw [← hq] at gz
    have bc := hb c (List.mem_of_getElem? hc)
    walk_at "ss"
    refine w_ixT (SqT.of gz) (atI0 _ _) ?_
    walk_at "ss"
    refine w_mulI (cmul_of bq.1 hx) ?_
    walk_at "ss"
    refine w_ixT (SqT.of gz) (atI1 _ _ _) ?_
    walk_at "ss"
    refine n_tup fun pn H6 f6 e6 g6 => ?_
    walk_at "ss"
    refine w_plus (q.num * x) c.num q.den c.den (fr_mk g6) (fr_mk (e6 _ _ gc)) q.den_pos c.den_pos ?_ (le_big bc.1 (by decide)) (le_big bq.2 (by decide)) (le_big bc.2 (by decide)) fun z H7 e7 tz7 => ?_
    · exact le_big (mul_nat bq.1 hx) (by decide)
    walk_at "ss"
    refine ⟨z, _, rfl, e3.trans (e6.trans e7), ?_⟩
    rw [hd]
    show Tp H7 z (ratD (c + (x : Rat) * evalR (R.drop (R.length - i)) (x : Rat)))
    rw [← hq]
    have : mkRat (q.num * x) q.den + mkRat c.num c.den = c + (x : Rat) * q := by
      rw [mk_mul1, Rat.mkRat_self]
      grind
    rw [← this]
    exact tz7
  · rintro σ H3 ⟨z, x3, rfl, e3, tz⟩
    walk_at "ss"
    refine k z H3 (e12.trans e3) ?_
    rw [List.length_reverse, xl, Nat.sub_self, List.drop_zero] at tz
    exact tz

/-! ### through -/
theorem w_rep {K : PySem.W.Frag} {l : Addr} {k : Int} {xs : List V} {H : Hp} {Q : VK} (h : H l = some (.lst xs)) (h0 : 0 ≤ k) (h1 : k ≤ 1000) (hz : xs.length ≤ 100) (q : ∀ p H', H p = none → Same H H' → H' p = some (.lst (List.replicate k.toNat xs).flatten) → Q (.ref p) H') : rMulU K (.ref l) (.int k) H Q := by
  refine .inr (.inl ⟨l, k, xs, rfl, rfl, h, by omega, by omega, ?_, alloc q⟩)
  refine Nat.le_trans (Nat.mul_le_mul hz (show k.toNat ≤ 1000 by omega)) ?_
  decide
theorem rep_one {α : Type} (x : α) : ∀ n : Nat, (List.replicate n [x]).flatten = List.replicate n x
  | 0 => rfl
  | n + 1 => by rw [List.replicate_succ, List.flatten_cons, rep_one x n, List.replicate_succ]; rfl
theorem rep_tp {H : Hp} {v : V} {d : PyData} (h : Tp H v d) : ∀ n, TpAll H (List.replicate n v) (List.replicate n d)
  | 0 => .nil
  | n + 1 => by rw [List.replicate_succ, List.replicate_succ]; exact .cons h (rep_tp h n)
theorem cutV_from {xs : List V} {i : Nat} : cutV xs (some (i : Int)) none = xs.drop i := by
  unfold cutV HT.sIx
  simp only
  rw [if_neg (by omega), Int.toNat_natCast]
  by_cases h : i ≤ xs.length
  · rw [Nat.min_eq_left h, List.take_of_length_le (by rw [List.length_drop]; exact Nat.le_refl _)]
  · rw [Nat.min_eq_right (by omega), Nat.sub_self, List.take_zero, List.drop_of_length_le (by omega)]
def sp_through (Γ : Gm) : Sp := fun vs H Q _ => ∃ (a : Addr) (ns : List Int), vs = [.ref a] ∧ H a = some (.lst (ns.map V.int)) ∧ ns.length = 7 ∧ (∀ n ∈ ns, n.natAbs ≤ 2 ^ 60) ∧ ∀ l H', Same H H' → H l = none → RL H' l (thru ns) → Q (.ref l) H'
/-- through: values, found, row, steps, whole, at, place, one, now, later -/
def t_through (Γ : Gm) : TS := (tSeq (tPar3 1 2 3 (tCons (tOp (rMulU Γ.K) (tLst (tCons (tTup (tCons (tC (.int 0)) (tCons (tC (.int 1)) tNil))) tNil)) (tCB (rLen Γ.K) (tCons (tVar 0) tNil))) (tCons (tLst (tCons (tTup (tCons (tC (.int 1)) (tCons (tC (.int 1)) tNil))) tNil)) (tCons (tCB (rListOf Γ.K) (tCons (tVar 0) tNil)) tNil))))
  (tSeq (tAsg (tC (.int 1)) (gName 4))
  (tSeq (tFor (iRng1 (tCons (tCB (rLen Γ.K) (tCons (tVar 0) tNil)) tNil)) (gName 5) (tSeq (tFor (iEnumS Γ.K (tCons (tVar 2) tNil)) (gTup Γ.K 2 (gCons (gName 6) (gCons (gName 7) gNil))) (tAsg (tCal (sp_plus Γ) E0 (tCons (tOp (rIx Γ.K) (tVar 1) (tVar 6)) (tCons (tCal (sp_lowest Γ) E0 (tCons (tOp (rMulU Γ.K) (tOp (rIx Γ.K) (tVar 7) (tC (.int 0))) (tOp (rIx Γ.K) (tVar 3) (tC (.int 0)))) (tCons (tOp (rMulU Γ.K) (tOp (rIx Γ.K) (tVar 7) (tC (.int 1))) (tVar 4)) tNil))) tNil))) (gSub (tVar 1) (tVar 6) rSetL)))
  (tSeq (tAsg (tCal (sp_times_root Γ) E0 (tCons (tVar 2) (tCons (tOp (rAddU Γ.K) (tVar 5) (tC (.int 1))) tNil))) (gName 2))
  (tPar 3 4 (tCons (tLc (iZip Γ.K (tCons (tVar 3) (tCons (tSl (rSlU Γ.K) (tVar 3) (tPart (tC (.int 1))) tNoPart) tNil))) (gTup Γ.K 2 (gCons (gName 8) (gCons (gName 9) gNil))) tYes (tOp rSubI (tVar 9) (tVar 8)) [8, 9]) (tCons (tOp (rMulU Γ.K) (tVar 4) (tOp (rAddU Γ.K) (tVar 5) (tC (.int 1)))) tNil))))))
  (tRet (tVar 1)))))
theorem rd_through (Γ : Gm) (vs : List V) (H : Hp) (Q : VK) (E : XK) (h : sp_through Γ vs H Q E) : t_through Γ ⟨fun _ H' => Q .non H', Q, fun _ _ => False, fun _ _ => False⟩ (startN 10 vs) H := by
  obtain ⟨a, ns, rfl, g, hl, hb, k⟩ := h
  unfold t_through
  walk_at "ss"
  refine n_tup fun p0 H1 f1 e1 g1 => ?_
  walk_at "ss"
  refine n_lst fun l0 H2 f2 e2 g2 => ?_
  walk_at "ss"
  have ga2 := (e1.trans e2) _ _ g
  refine w_lenL (SqL.of ga2) ?_
  rw [List.length_map, hl]
  refine w_rep g2 (by decide) (by decide) (by simp) fun F H3 fF e3 g3 => ?_
  walk_at "ss"
  refine n_tup fun p1 H4 f4 e4 g4 => ?_
  walk_at "ss"
  refine n_lst fun r0 H5 f5 e5 g5 => ?_
  walk_at "ss"
  have e15 := e1.trans (e2.trans (e3.trans (e4.trans e5)))
  refine w_listL (.inl (SqL.of (e15 _ _ g))) fun s0 H6 f6 e6 g6 => ?_
  walk_at "ss"
  refine w_lenL (SqL.of (e6 _ _ (e15 _ _ g))) ?_
  walk_at "ss"
  rw [List.length_map, hl]
  refine k_rng1 (by decide) ?_
  have fF0 : H F = none := (e1.trans e2).free fF
  have e26 : Same H2 H6 := e3.trans (e4.trans (e5.trans e6))
  have e46 := e4.trans (e5.trans e6)
  have nFr : F ≠ r0 := fun z => by subst z; rw [e4 _ _ g3] at f5; cases f5
  have nFs : F ≠ s0 := fun z => by subst z; rw [(e4.trans e5) _ _ g3] at f6; cases f6
  refine k_range (fun i σ H' => ∃ ro so x5 x6 x7 x8 x9 fs, σ = [some (.ref a), some (.ref F), some (.ref ro), some (.ref so), some (.int (fac i : Nat)), x5, x6, x7, x8, x9] ∧ Same H2 H' ∧ ro ≠ F ∧ so ≠ F ∧ H' F = some (.lst fs) ∧ TpAll H' fs ((thS ns i).1.map ratD) ∧ RL H' ro (thS ns i).2.1 ∧ H' so = some (.lst ((thS ns i).2.2.map V.int))) ⟨r0, s0, none, none, none, none, none, _, rfl, e26, nFr.symm, nFs.symm, e46 _ _ g3, ?_, ⟨_, e6 _ _ g5, ?_⟩, g6⟩ ?_ ?_
  · rw [show ((7 : Nat) : Int).toNat = 7 from rfl, rep_one]
    show TpAll H6 _ ((List.replicate 7 (0 : Rat)).map ratD)
    rw [List.map_replicate]
    exact rep_tp (fr_mk ((e2.trans e26) _ _ g1)) 7
  · exact .cons (fr_mk ((e5.trans e6) _ _ g4)) .nil
  · rintro i σ H7 hi ⟨ro, so, x5, x6, x7, x8, x9, fs, rfl, e7, nro, nso, gF, tF, ⟨rs, gr, tr⟩, gs⟩
    have hi7 : i < 7 := hi
    have I := thS_inv hl hb i (by omega)
    obtain ⟨f, hf⟩ : ∃ f, f = (thS ns i).1 := ⟨_, rfl⟩
    obtain ⟨r, hr⟩ : ∃ r, r = (thS ns i).2.1 := ⟨_, rfl⟩
    obtain ⟨s, hs⟩ : ∃ s, s = (thS ns i).2.2 := ⟨_, rfl⟩
    have en : thS ns (i + 1) = (addS (s.headD 0) (fac i) f r, tRoot ((i + 1 : Nat) : Int) r, diffs s) := by rw [hf, hr, hs]; rfl
    rw [← hf] at tF
    rw [← hr] at tr
    rw [← hs] at gs
    rw [← hf, ← hr, ← hs] at I
    obtain ⟨fl, rl, sl, fb, rb, sb⟩ := I
    rw [en]
    have rsl := tr.length
    rw [List.length_map] at rsl
    have b1 := bk_le i (by omega)
    have b2 := fk_le i (by omega)
    obtain ⟨s0v, st, hsv⟩ : ∃ x xs, s = x :: xs := by
      cases s with
      | nil => simp at sl; omega
      | cons x xs => exact ⟨x, xs, rfl⟩
    have shd : s.headD 0 = s0v := by rw [hsv]; rfl
    rw [shd]
    have s0b := sb s0v (by rw [hsv]; exact List.mem_cons_self ..)
    have fw := fac_le i hi7
    have fp := fac_pos i
    have lenA : (addS s0v (fac i) f r).length = f.length := addS_len ..
    walk_at "ss"
    refine k_enL (SqL.of gr) ?_
    refine k_it (walk_enum (K := Γ.K) (a := ro) (xs := rs)) (fun j σ H' => ∃ x6 x7 ys, σ = [some (.ref a), some (.ref F), some (.ref ro), some (.ref so), some (.int (fac i : Nat)), some (.int (0 + (i : Int))), x6, x7, x8, x9] ∧ Same H2 H' ∧ H' F = some (.lst ys) ∧ TpAll H' ys (((addS s0v (fac i) f r).take j ++ f.drop j).map ratD) ∧ H' ro = some (.lst rs) ∧ Tups H7 H' ∧ H' so = some (.lst (s.map V.int))) ⟨_, _, fs, rfl, e7, gF, by rw [List.take_zero, List.nil_append, List.drop_zero]; exact tF, gr, (Same.refl H7).tups, gs⟩ (fun j σ H' _ ⟨_, _, _, _, _, _, _, e, _⟩ => SqL.of e) ?_ ?_
    · rintro j x σ H8 H9 hj ⟨x6', x7', ys, rfl, e8, gF8, tF8, gr8, u8, gs8⟩ ⟨T, u, w, rfl, hT, rfl, hu, hw⟩
      cases hu
      have eT := Same.new (o := .tup [.int (j : Nat), w]) hT
      refine w_gTup (xs := [.int (j : Nat), w]) (SqT.of upd_same) rfl ?_
      have tR := tr.mono (u8.trans eT.tups)
      have gF9 := eT _ _ gF8
      have tF9 := tF8.mono eT.tups
      have gr9 := eT _ _ gr8
      have gs9 := eT _ _ gs8
      have e9 := e8.trans eT
      have u9 := u8.trans eT.tups
      generalize upd H8 T (.tup [.int (j : Nat), w]) = HA at tR gF9 tF9 gr9 gs9 e9 u9 ⊢
      obtain ⟨c, pc, hc, rfl, gc⟩ := RL.get' tR hw
      have jf : j < f.length := by omega
      obtain ⟨q, hq⟩ : ∃ q, f[j]? = some q := ⟨_, List.getElem?_eq_getElem jf⟩
      have hA := addS_at s0v (fac i) f r j q c hq hc
      have hmix : ((addS s0v (fac i) f r).take j ++ f.drop j)[j]? = some q := by rw [mix_get lenA (by rw [lenA]; exact jf)]; exact hq
      obtain ⟨pq, hpq, gq⟩ := RL.get tF9 hmix
      have bc := (rb c (List.mem_of_getElem? hc)).mono (show bk i ≤ 2100 by omega) (Nat.le_refl 0)
      have bq := (fb q (List.mem_of_getElem? hq)).mono (show fk i ≤ 9000 by omega) (show 10 * i ≤ 70 by omega)
      have s0b' : s0v.natAbs ≤ 2 ^ 70 := le_big s0b (by omega)
      walk_at "ss"
      refine w_ixL (SqL.of gF9) (atI_of (x := .ref pq) (by omega) (by rw [Int.toNat_natCast]; exact hpq)) ?_
      walk_at "ss"
      refine w_ixT (SqT.of gc) (atI0 _ _) ?_
      walk_at "ss"
      refine w_ixL (SqL.of gs9) (atI_of (x := .int s0v) (by decide) (by rw [hsv]; rfl)) ?_
      refine w_mulI (cmul_of bc.1 s0b') ?_
      walk_at "ss"
      refine w_ixT (SqT.of gc) (atI1 _ _ _) ?_
      walk_at "ss"
      have fw' : (((fac i : Nat)) : Int).natAbs ≤ 2 ^ 10 := by rw [Int.natAbs_natCast]; exact fw
      have cd' : (((c.den : Nat)) : Int).natAbs ≤ 2 ^ 0 := by rw [Int.natAbs_natCast]; exact bc.2
      refine w_mulI (cmul_of cd' fw') ?_
      walk_at "ss"
      refine ⟨c.num * s0v, c.den * fac i, by rw [Int.natCast_mul], Nat.mul_pos c.den_pos fp, ?_, fun z H10 e10 tz => ?_⟩
      · refine Nat.le_trans (Nat.mul_le_mul bc.2 fw) ?_
        rw [← Nat.pow_add]
        exact Nat.pow_le_pow_right (by decide) (by decide)
      walk_at "ss"
      have bz : bdR 2300 10 (mkRat (c.num * s0v) (c.den * fac i)) := by
        rw [mk_mul]
        exact (bd_mul bc (bd_mk s0b' fw)).mono (by decide) (by decide)
      refine w_plus q.num (mkRat (c.num * s0v) (c.den * fac i)).num q.den (mkRat (c.num * s0v) (c.den * fac i)).den (fr_mk (e10 _ _ gq)) tz q.den_pos (mkRat (c.num * s0v) (c.den * fac i)).den_pos (le_big bq.1 (by decide)) (le_big bz.1 (by decide)) (le_big bq.2 (by decide)) (le_big bz.2 (by decide)) fun z2 H11 e11 tz2 => ?_
      rw [Rat.mkRat_self, Rat.mkRat_self] at tz2
      walk_at "ss"
      have g11 := (e10.trans e11) _ _ gF9
      have yl := tF9.length
      rw [List.length_map, List.length_append, List.length_take, List.length_drop, lenA] at yl
      refine w_setL g11 (ixN_nat (i := j) (by omega) rfl) ?_
      have uL : Tups H11 (upd H11 F (.lst (ys.set j z2))) := (Same.refl H11).tups.upd (fun xs z => by rw [g11] at z; cases z)
      refine ⟨_, _, ys.set j z2, rfl, Same.mut (e9.trans (e10.trans e11)) fF, upd_same, ?_, by rw [upd_ne nro]; exact (e10.trans e11) _ _ gr9, u9.trans ((e10.trans e11).tups.trans uL), by rw [upd_ne nso]; exact (e10.trans e11) _ _ gs9⟩
      rw [← mix_set lenA hA, List.map_set]
      exact (tF9.mono ((e10.trans e11).tups.trans uL)).set (tz2.mono uL)
    · rintro σ H8 ⟨x6', x7', ys, rfl, e8, gF8, tF8, gr8, u8, gs8⟩
      have emix : (addS s0v (fac i) f r).take rs.length ++ f.drop rs.length = addS s0v (fac i) f r := by
        rw [rsl, ← addS_rest s0v (fac i) f r, List.take_append_drop]
      rw [emix] at tF8
      walk_at "ss"
      refine ⟨ro, i + 1, r, ?_, ⟨rs, gr8, tr.mono u8⟩, by omega, by omega, fun q hq => (rb q hq).mono (by omega) (Nat.le_refl 0), fun ro' H9 e9 f9 RL9 => ?_⟩
      · rw [show (((i + 1 : Nat)) : Int) = 0 + (i : Int) + 1 by omega]
      walk_at "ss"
      have gs9 := e9 _ _ gs8
      refine w_iZip ?_
      walk_at "ss"
      refine w_slL gs9 fun sl' H10 f10 e10 g10 => ?_
      rw [show (some (1 : Int)) = some ((1 : Nat) : Int) from rfl, cutV_from] at g10
      walk_at "ss"
      have gs10 := e10 _ _ gs9
      refine ⟨so, sl', s.map V.int, _, rfl, SqL.of gs10, SqL.of g10, ?_⟩
      have tl : ((s.map V.int).drop 1).length = s.length - 1 := by rw [List.length_drop, List.length_map]
      refine k_lcIt (walk_zip (K := Γ.K) (a := so) (b := sl') (xs := s.map V.int) (ys := (s.map V.int).drop 1) (n := s.length - 1) (by rw [tl, List.length_map]; omega)) (fun H' e => ⟨SqL.of (e _ _ gs10), SqL.of (e _ _ g10)⟩) (fun j acc _ => acc = ((diffs s).take j).map V.int) (fun _ _ => rfl) ?_ ?_
      · rintro j x D acc H11 H12 hj hD e11 hacc rfl ⟨T, u, w, rfl, hT, rfl, hu, hw⟩
        have eT := Same.new (o := .tup [u, w]) hT
        refine w_gTup (xs := [u, w]) (SqT.of upd_same) rfl ?_
        have accT := eT _ _ hacc
        have e12 := e11.trans eT
        generalize upd H11 T (.tup [u, w]) = H13 at accT e12 ⊢
        dsimp only at hu hw
        rw [List.getElem?_map] at hu
        obtain ⟨n1, hn1, rfl⟩ := Option.map_eq_some_iff.mp hu
        rw [List.getElem?_drop, List.getElem?_map] at hw
        obtain ⟨n2, hn2, rfl⟩ := Option.map_eq_some_iff.mp hw
        walk_at "ss"
        refine ⟨rfl, ?_⟩
        walk_at "ss"
        have hd : (diffs s)[j]? = some (n2 - n1) := by
          unfold diffs
          rw [List.getElem?_zipWith, hn1, List.getElem?_tail, show j + 1 = 1 + j by omega, hn2]
        refine lcTurn.mk hD e12 accT (by rw [List.length_map, List.length_take, diffs_len]; omega) ?_
        rw [take_succ hd, List.map_append]
        rfl
      · rintro D acc H11 hD e11 hacc rfl
        rw [List.take_of_length_le (by rw [diffs_len]; exact Nat.le_refl _)] at hacc
        walk_at "ss"
        have e911 := e9.trans (e10.trans e11)
        have nD : D ≠ F := fun z => by subst z; rw [(e9.trans e10) _ _ gF8] at hD; cases hD
        have nr' : ro' ≠ F := fun z => by subst z; rw [gF8] at f9; cases f9
        have ef : (fac i : Int) * (0 + (i : Int) + 1) = (((fac (i + 1) : Nat)) : Int) := by
          show _ = (((fac i * (i + 1) : Nat)) : Int)
          rw [Int.natCast_mul]
          congr 1
          omega
        rw [ef]
        exact ⟨ro', D, _, _, _, _, _, ys, rfl, e8.trans e911, nr', nD, e911 _ _ gF8, tF8.mono e911.tups, RL9.mono (e10.trans e11), hacc⟩
  · rintro σ H7 ⟨ro, so, x5, x6, x7, x8, x9, fs, rfl, e7, nro, nso, gF, tF, _, _⟩
    walk_at "ss"
    exact k F H7 (e1.trans (e2.trans e7)) fF0 ⟨fs, gF, tF⟩

/-! ### three heaps that give unlike points -/
abbrev T3 := Nat × Nat × Nat
def tri1 (h a n : Nat) : List T3 := (List.range n).map fun j => (a, j + 1, h - a - (j + 1))
def tri2 (h n : Nat) : List T3 := (List.range n).flatMap fun i => tri1 h (i + 1) (h - (i + 1) - 1)
/-- all three heaps of up to m + 2 things together -/
def triN (m : Nat) : List T3 := (List.range m).flatMap fun i => tri2 (i + 3) (i + 1)
def triD (t : T3) : PyData := .tuple [.int t.1, .int t.2.1, .int t.2.2]
theorem triN_succ (m : Nat) : triN (m + 1) = triN m ++ tri2 (m + 3) (m + 1) := by
  unfold triN
  rw [List.range_succ, List.flatMap_append]
  simp
theorem tri2_succ (h n : Nat) : tri2 h (n + 1) = tri2 h n ++ tri1 h (n + 1) (h - (n + 1) - 1) := by
  unfold tri2
  rw [List.range_succ, List.flatMap_append]
  simp
theorem tri1_succ (h a n : Nat) : tri1 h a (n + 1) = tri1 h a n ++ [(a, n + 1, h - a - (n + 1))] := by
  unfold tri1
  rw [List.range_succ, List.map_append]
  rfl
theorem range_cut {k n : Nat} (h : k < n) : ∃ s, List.range n = List.range k ++ k :: s := by
  obtain ⟨d, rfl⟩ : ∃ d, n = k + (d + 1) := ⟨n - k - 1, by omega⟩
  refine ⟨((List.range d).map Nat.succ).map (k + ·), ?_⟩
  rw [List.range_add, List.range_succ_eq_map, List.map_cons, Nat.add_zero]
theorem flat_cut {α : Type} (f : Nat → List α) {k n : Nat} (h : k < n) : ∃ s, (List.range n).flatMap f = (List.range k).flatMap f ++ (f k ++ s) := by
  obtain ⟨s, e⟩ := range_cut h
  exact ⟨s.flatMap f, by rw [e, List.flatMap_append, List.flatMap_cons]⟩
theorem map_cut {α : Type} (f : Nat → α) {k n : Nat} (h : k < n) : ∃ s, (List.range n).map f = (List.range k).map f ++ f k :: s := by
  obtain ⟨s, e⟩ := range_cut h
  exact ⟨s.map f, by rw [e, List.map_append, List.map_cons]⟩
/-- where a triple stands -/
theorem tri_cut {m i j k : Nat} (hi : i < m) (hj : j < i + 1) (hk : k < i + 3 - (j + 1) - 1) : ∃ s, triN m = (triN i ++ (tri2 (i + 3) j ++ tri1 (i + 3) (j + 1) k)) ++ (j + 1, k + 1, i + 3 - (j + 1) - (k + 1)) :: s := by
  obtain ⟨s1, e1⟩ := flat_cut (fun i => tri2 (i + 3) (i + 1)) hi
  obtain ⟨s2, e2⟩ := flat_cut (fun q => tri1 (i + 3) (q + 1) (i + 3 - (q + 1) - 1)) hj
  obtain ⟨s3, e3⟩ := map_cut (fun q => ((j + 1, q + 1, i + 3 - (j + 1) - (q + 1)) : T3)) hk
  refine ⟨s3 ++ (s2 ++ s1), ?_⟩
  show (List.range m).flatMap _ = _
  rw [e1]
  show triN i ++ (tri2 (i + 3) (i + 1) ++ s1) = _
  rw [show tri2 (i + 3) (i + 1) = tri2 (i + 3) j ++ (tri1 (i + 3) (j + 1) (i + 3 - (j + 1) - 1) ++ s2) from e2, show tri1 (i + 3) (j + 1) (i + 3 - (j + 1) - 1) = tri1 (i + 3) (j + 1) k ++ _ :: s3 from e3]
  simp only [List.append_assoc, List.cons_append]
theorem triN_sz : (triN 38).length ≤ 10000 := by decide +kernel
theorem mem_triN {m : Nat} {t : T3} (h : t ∈ triN m) : 1 ≤ t.1 ∧ 1 ≤ t.2.1 ∧ 1 ≤ t.2.2 ∧ t.1 + t.2.1 + t.2.2 ≤ m + 2 := by
  unfold triN tri2 tri1 at h
  simp only [List.mem_flatMap, List.mem_map, List.mem_range] at h
  obtain ⟨i, hi, j, hj, k, hk, rfl⟩ := h
  dsimp only
  omega
theorem triN_mem {m a b c : Nat} (ha : 1 ≤ a) (hb : 1 ≤ b) (hc : 1 ≤ c) (h : a + b + c ≤ m + 2) : (a, b, c) ∈ triN m := by
  unfold triN tri2 tri1
  simp only [List.mem_flatMap, List.mem_map, List.mem_range]
  refine ⟨a + b + c - 3, by omega, a - 1, by omega, b - 1, by omega, ?_⟩
  refine Prod.ext (by dsimp only; omega) (Prod.ext (by dsimp only; omega) (by dsimp only; omega))
def evenT (r : R) (a b c : Nat) : Bool := decide (r.pts a b + r.pts (a + b : Nat) c = r.pts b c + r.pts a (b + c : Nat))
def clashN (r : R) (m : Nat) : Option T3 := (triN m).find? fun t => !evenT r t.1 t.2.1 t.2.2
def R.triM : R → Nat
  | .tab rows => rows.length - 1
  | .trm _ => 13
def R.clash (r : R) : Option T3 := clashN r r.triM
def clashD : Option T3 → PyData
  | none => .none
  | some t => .tuple [.int (t.1 + t.2.1 + t.2.2 : Nat), .int t.1, .int t.2.1, .int t.2.2]
theorem find_at {α : Type} {p : α → Bool} {pre suf : List α} {t : α} (h : ∀ x ∈ pre, p x = false) (ht : p t = true) : (pre ++ t :: suf).find? p = some t := by
  rw [List.find?_append, List.find?_cons, ht]
  rw [List.find?_eq_none.mpr fun x hx => by rw [h x hx]; decide]
  rfl
theorem triM_ok {r : R} (ok : r.ok) : r.triM ≤ 38 ∧ (r.triM : Int) + 2 ≤ r.top := by
  cases r with
  | tab rows =>
    obtain ⟨h1, h2, _⟩ := ok
    show rows.length - 1 ≤ 38 ∧ ((rows.length - 1 : Nat) : Int) + 2 ≤ (rows.length : Int) + 1
    omega
  | trm ts => exact (by decide : (13 : Nat) ≤ 38 ∧ ((13 : Nat) : Int) + 2 ≤ 1000000000000000000000000000000)
theorem kind_trm (r : R) : decide (r.kind = ("terms" : Str)) = match r with | .tab _ => false | .trm _ => true := by
  cases r with
  | tab _ => exact decide_eq_false (show ¬ ("table" : Str) = "terms" from by decide +kernel)
  | trm _ => exact decide_eq_true rfl
theorem w_iteV {b : Bool} {ta tb : TE} {σ : St} {H : Hp} {Q : VK} (x : V) (k : Q x H) (h1 : b = true → ∀ Q' : VK, Q' x H → ta σ H Q') (h2 : b = false → ∀ Q' : VK, Q' x H → tb σ H Q') : if b = true then ta σ H Q else tb σ H Q := by
  cases b with
  | true => exact w_iteT (h1 rfl Q k)
  | false => exact w_iteF (h2 rfl Q k)
theorem w_extend {l b : Addr} {xs zs : List V} {H : Hp} {Q : VK} (h1 : H l = some (.lst xs)) (h2 : H b = some (.lst zs)) (hz : xs.length + zs.length ≤ 100000) (h : Q .non (upd H l (.lst (xs ++ zs)))) : rExtend (.ref l) [.ref b] H Q := ⟨l, b, xs, zs, rfl, rfl, h1, h2, Nat.le_trans hz (by decide), h⟩
def sp_triples_of (Γ : Gm) : Sp := fun vs H Q _ => ∃ v r, vs = [v] ∧ RuleAt Γ H v r ∧ ∀ l xs H', Same H H' → H l = none → H' l = some (.lst xs) → TpAll H' xs ((triN r.triM).map triD) → Q (.ref l) H'
/-- triples_of: rule, most, found, heap, first, second -/
def t_triples_of (Γ : Gm) : TS := (tSeq (tAsg (tIf (tTest (tOp (rEqU Γ.K) (tFld Γ.K (tVar 0) "form") (tC (.str "terms")))) (tOp (rAddU Γ.K) (tOp (rMulU Γ.K) (tC (.int 3)) (tC (.int 4))) (tC (.int 3))) (tCal (sp_most_of Γ) E0 (tCons (tVar 0) tNil))) (gName 1))
  (tSeq (tAsg (tLst tNil) (gName 2))
  (tSeq (tFor (iRng2 (tCons (tC (.int 3)) (tCons (tOp (rAddU Γ.K) (tVar 1) (tC (.int 1))) tNil))) (gName 3) (tFor (iRng2 (tCons (tC (.int 1)) (tCons (tOp rSubI (tVar 3) (tC (.int 1))) tNil))) (gName 4) (tDrop (tBM Γ.K "list" rExtend (tVar 2) (tCons (tLc (iRng2 (tCons (tC (.int 1)) (tCons (tOp rSubI (tVar 3) (tVar 4)) tNil))) (gName 5) tYes (tTup (tCons (tVar 4) (tCons (tVar 5) (tCons (tOp rSubI (tOp rSubI (tVar 3) (tVar 4)) (tVar 5)) tNil)))) [5]) tNil)))))
  (tRet (tVar 2)))))
theorem rd_triples_of (Γ : Gm) (F : RuleF Γ) (vs : List V) (H : Hp) (Q : VK) (E : XK) (h : sp_triples_of Γ vs H Q E) : t_triples_of Γ ⟨fun _ H' => Q .non H', Q, fun _ _ => False, fun _ _ => False⟩ (startN 6 vs) H := by
  obtain ⟨v, r, rfl, hr, k⟩ := h
  have hok := hr.ok
  obtain ⟨m38, mtop⟩ := triM_ok hok
  obtain ⟨m, hm⟩ : ∃ m, m = r.triM := ⟨_, rfl⟩
  rw [← hm] at k m38 mtop
  unfold t_triples_of
  walk_at "ss"
  refine w_form F hr ?_
  walk_at "ss"
  refine w_iteV (.int ((m : Int) + 2)) ?_ (fun e Q' q => ?_) (fun e Q' q => ?_)
  rotate_left
  · rw [kind_trm] at e
    cases r with
    | tab rows => cases e
    | trm ts =>
      have : m = 13 := hm
      subst this
      walk_at "ss"
      exact q
  · rw [kind_trm] at e
    cases r with
    | trm ts => cases e
    | tab rows =>
      walk_at "ss"
      refine ⟨v, _, rfl, hr, ?_⟩
      have : (R.tab rows).top = (m : Int) + 2 := by
        obtain ⟨h1, _, _⟩ := hok
        have e1 : m = rows.length - 1 := hm
        show (rows.length : Int) + 1 = _
        omega
      rw [this]
      exact q
  walk_at "ss"
  refine n_lst fun L H1 fL e1 g1 => ?_
  walk_at "ss"
  refine k_rng2 (by omega) ?_
  rw [show ((m : Int) + 2 + 1 - 3).toNat = m by omega]
  refine k_range (fun i σ H' => ∃ xs x3 x4 x5, σ = [some v, some (.int ((m : Int) + 2)), some (.ref L), x3, x4, x5] ∧ Same H H' ∧ H' L = some (.lst xs) ∧ TpAll H' xs ((triN i).map triD)) ⟨[], none, none, none, rfl, e1, g1, .nil⟩ ?_ ?_
  · rintro i σ H2 hi ⟨xs, x3, x4, x5, rfl, e2, g2, t2⟩
    walk_at "ss"
    refine k_rng2 (by omega) ?_
    rw [show (3 + (i : Int) - 1 - 1).toNat = i + 1 by omega]
    refine k_range (fun j σ H' => ∃ xs x4 x5, σ = [some v, some (.int ((m : Int) + 2)), some (.ref L), some (.int (3 + (i : Int))), x4, x5] ∧ Same H H' ∧ H' L = some (.lst xs) ∧ TpAll H' xs ((triN i ++ tri2 (i + 3) j).map triD)) ⟨xs, _, _, rfl, e2, g2, by simpa [tri2] using t2⟩ ?_ ?_
    · rintro j σ H3 hj ⟨xs, x4', x5', rfl, e3, g3, t3⟩
      walk_at "ss"
      refine w_tyL g3 ?_
      walk_at "ss"
      refine k_rng2 (by omega) ?_
      rw [show (3 + (i : Int) - (1 + (j : Int)) - 1).toNat = i + 3 - (j + 1) - 1 by omega]
      have sz : (triN i ++ tri2 (i + 3) (j + 1)).length ≤ 10000 := by
        obtain ⟨s1, e1⟩ := flat_cut (fun i => tri2 (i + 3) (i + 1)) (show i < 38 by omega)
        have z1 : triN 38 = triN i ++ (tri2 (i + 3) (i + 1) ++ s1) := e1
        have z2 : ∃ s2, tri2 (i + 3) (i + 1) = tri2 (i + 3) (j + 1) ++ s2 := by
          by_cases c : j + 1 < i + 1
          · obtain ⟨s2, e2⟩ := flat_cut (fun q => tri1 (i + 3) (q + 1) (i + 3 - (q + 1) - 1)) c
            exact ⟨_, e2⟩
          · exact ⟨[], by rw [show j + 1 = i + 1 by omega, List.append_nil]⟩
        obtain ⟨s2, z2⟩ := z2
        have := triN_sz
        rw [z1, z2] at this
        simp only [List.length_append] at this ⊢
        omega
      rw [tri2_succ] at sz
      simp only [List.length_append] at sz
      have l3 := t3.length
      simp only [List.length_map, List.length_append] at l3
      have tl : ∀ n, (tri1 (i + 3) (j + 1) n).length = n := fun n => by unfold tri1; rw [List.length_map, List.length_range]
      rw [tl] at sz
      refine k_lcRange (fun k acc H' => TpAll H' acc ((tri1 (i + 3) (j + 1) k).map triD)) (fun _ _ => .nil) ?_ ?_
      · rintro k D acc H4 hk hD e4 hacc tacc
        walk_at "ss"
        refine ⟨rfl, ?_⟩
        walk_at "ss"
        refine n_tup fun p H5 f5 e5 g5 => ?_
        have al := tacc.length
        rw [List.length_map, tl] at al
        have d5 := e5 _ _ hacc
        have uD : Tups H5 (upd H5 D (.lst (acc ++ [.ref p]))) := (Same.refl H5).tups.upd (fun xs z => by rw [d5] at z; cases z)
        refine lcTurn.mk hD (e4.trans e5) d5 (by omega) ?_
        rw [tri1_succ, List.map_append]
        refine (tacc.mono (e5.tups.trans uD)).append (.cons (.tup (uD _ _ g5) ?_) .nil)
        show TpAll _ _ [.int ((j + 1 : Nat) : Int), .int ((k + 1 : Nat) : Int), .int ((i + 3 - (j + 1) - (k + 1) : Nat) : Int)]
        rw [show (((j + 1 : Nat)) : Int) = 1 + (j : Int) by omega, show (((k + 1 : Nat)) : Int) = 1 + (k : Int) by omega, show (((i + 3 - (j + 1) - (k + 1) : Nat)) : Int) = 3 + (i : Int) - (1 + (j : Int)) - (1 + (k : Int)) by omega]
        exact .cons (.int _) (.cons (.int _) (.cons (.int _) .nil))
      · rintro D acc H4 hD e4 hacc tacc
        have al := tacc.length
        rw [List.length_map, tl] at al
        have gL := e4 _ _ g3
        walk_at "ss"
        refine w_extend gL hacc (by omega) ?_
        have uL : Tups H4 (upd H4 L (.lst (xs ++ acc))) := (Same.refl H4).tups.upd (fun xs z => by rw [gL] at z; cases z)
        refine ⟨xs ++ acc, _, _, rfl, Same.mut (e3.trans e4) fL, upd_same, ?_⟩
        rw [tri2_succ, ← List.append_assoc, List.map_append]
        exact (t3.mono (e4.tups.trans uL)).append (tacc.mono uL)
    · rintro σ H3 ⟨xs, x4', x5', rfl, e3, g3, t3⟩
      walk_at "ss"
      refine ⟨xs, _, _, _, rfl, e3, g3, ?_⟩
      rw [triN_succ]
      exact t3
  · rintro σ H2 ⟨xs, x3, x4, x5, rfl, e2, g2, t2⟩
    walk_at "ss"
    exact k L xs H2 e2 fL g2 t2
def sp_is_even (Γ : Gm) : Sp := fun vs H Q _ => ∃ v r, ∃ a b c : Nat, vs = [v, .int a, .int b, .int c] ∧ RuleAt Γ H v r ∧ 1 ≤ a ∧ 1 ≤ b ∧ 1 ≤ c ∧ ((a + b + c : Nat) : Int) ≤ r.top ∧ ∀ H', Same H H' → Q (.bl (evenT r a b c)) H'
/-- is_even: rule, first, second, third, left -/
def t_is_even (Γ : Gm) : TS := (tSeq (tAsg (tOp (rAddU Γ.K) (tCal (sp_points_by Γ) E0 (tCons (tVar 0) (tCons (tVar 1) (tCons (tVar 2) tNil)))) (tCal (sp_points_by Γ) E0 (tCons (tVar 0) (tCons (tOp (rAddU Γ.K) (tVar 1) (tVar 2)) (tCons (tVar 3) tNil))))) (gName 4))
  (tRet (tOp (rEqU Γ.K) (tVar 4) (tOp (rAddU Γ.K) (tCal (sp_points_by Γ) E0 (tCons (tVar 0) (tCons (tVar 2) (tCons (tVar 3) tNil)))) (tCal (sp_points_by Γ) E0 (tCons (tVar 0) (tCons (tVar 1) (tCons (tOp (rAddU Γ.K) (tVar 2) (tVar 3)) tNil))))))))
theorem rd_is_even (Γ : Gm) (vs : List V) (H : Hp) (Q : VK) (E : XK) (h : sp_is_even Γ vs H Q E) : t_is_even Γ ⟨fun _ H' => Q .non H', Q, fun _ _ => False, fun _ _ => False⟩ (startN 5 vs) H := by
  obtain ⟨v, r, a, b, c, rfl, hr, ha, hb, hc, ht, k⟩ := h
  unfold t_is_even
  walk_at "ss"
  refine ⟨v, r, a, b, rfl, hr, by omega, by omega, by omega, fun H1 e1 => ?_⟩
  walk_at "ss"
  refine ⟨v, r, _, _, rfl, hr.mono e1, by omega, by omega, by omega, fun H2 e2 => ?_⟩
  walk_at "ss"
  refine ⟨v, r, _, _, rfl, hr.mono (e1.trans e2), by omega, by omega, by omega, fun H3 e3 => ?_⟩
  walk_at "ss"
  refine ⟨v, r, _, _, rfl, hr.mono (e1.trans (e2.trans e3)), by omega, by omega, by omega, fun H4 e4 => ?_⟩
  walk_at "ss"
  exact k H4 (e1.trans (e2.trans (e3.trans e4)))
def sp_clash (Γ : Gm) : Sp := fun vs H Q _ => ∃ v r, vs = [v] ∧ RuleAt Γ H v r ∧ ∀ x H', Same H H' → Tp H' x (clashD r.clash) → Q x H'
/-- clash: rule, first, second, third -/
def t_clash (Γ : Gm) : TS := (tSeq (tFor (iSeq Γ.K (tCal (sp_triples_of Γ) E0 (tCons (tVar 0) tNil))) (gTup Γ.K 3 (gCons (gName 1) (gCons (gName 2) (gCons (gName 3) gNil)))) (tIfS (tNot (tB (tCal (sp_is_even Γ) E0 (tCons (tVar 0) (tCons (tVar 1) (tCons (tVar 2) (tCons (tVar 3) tNil))))))) (tRet (tTup (tCons (tOp (rAddU Γ.K) (tOp (rAddU Γ.K) (tVar 1) (tVar 2)) (tVar 3)) (tCons (tVar 1) (tCons (tVar 2) (tCons (tVar 3) tNil)))))) tNext))
  (tRet (tC .non)))
theorem tri_inv {H : Hp} {x : V} {t : T3} (h : Tp H x (triD t)) : ∃ p, x = .ref p ∧ H p = some (.tup [.int t.1, .int t.2.1, .int t.2.2]) := by
  obtain ⟨p, xs, rfl, hp, tp⟩ := h.inv
  have e := TpAll.ints (ns := [(t.1 : Int), (t.2.1 : Int), (t.2.2 : Int)]) tp
  subst e
  exact ⟨p, rfl, hp⟩
theorem rd_clash (Γ : Gm) (vs : List V) (H : Hp) (Q : VK) (E : XK) (h : sp_clash Γ vs H Q E) : t_clash Γ ⟨fun _ H' => Q .non H', Q, fun _ _ => False, fun _ _ => False⟩ (startN 4 vs) H := by
  obtain ⟨v, r, rfl, hr, k⟩ := h
  obtain ⟨m38, mtop⟩ := triM_ok hr.ok
  unfold t_clash
  walk_at "ss"
  refine ⟨v, r, rfl, hr, fun l xs H1 e1 f1 g1 t1 => ?_⟩
  refine k_seqL (SqL.of g1) ?_
  refine k_list (xs := xs) (fun i σ H' => ∃ x1 x2 x3, σ = [some v, x1, x2, x3] ∧ Same H1 H' ∧ ∀ t ∈ (triN r.triM).take i, (!evenT r t.1 t.2.1 t.2.2) = false) ⟨none, none, none, rfl, Same.refl H1, fun t ht => nomatch ht⟩ (fun i σ H' _ ⟨_, _, _, _, e, _⟩ => SqL.of (e _ _ g1)) ?_ ?_
  · rintro i x σ H2 hi ⟨x1, x2, x3, rfl, e2, pre⟩
    obtain ⟨d, hd, tx⟩ := t1.get' hi
    rw [List.getElem?_map] at hd
    obtain ⟨t, ht, rfl⟩ := Option.map_eq_some_iff.mp hd
    obtain ⟨p, rfl, hp⟩ := tri_inv (tx.mono e2.tups)
    obtain ⟨a, b, c⟩ := t
    obtain ⟨a1, b1, c1, s1⟩ := mem_triN (List.mem_of_getElem? ht)
    dsimp only at a1 b1 c1 s1 hp
    refine w_gTup (SqT.of hp) rfl ?_
    walk_at "ss"
    refine ⟨v, r, a, b, c, rfl, hr.mono (e1.trans e2), a1, b1, c1, by omega, fun H3 e3 => ?_⟩
    walk_at "ss"
    refine w_ite (fun e => ?_) (fun e => ?_)
    · walk_at "ss"
      refine n_tup fun q H4 f4 e4 g4 => ?_
      refine k _ H4 (e1.trans (e2.trans (e3.trans e4))) ?_
      have ec : r.clash = some (a, b, c) := by
        obtain ⟨hlt, _⟩ := List.getElem?_eq_some_iff.mp ht
        show (triN r.triM).find? _ = _
        rw [← List.take_append_drop i (triN r.triM), show (triN r.triM).drop i = (a, b, c) :: (triN r.triM).drop (i + 1) from by rw [List.drop_eq_getElem_cons hlt]; congr 1]
        exact find_at pre e
      rw [ec]
      refine .tup g4 ?_
      show TpAll _ _ [.int ((a + b + c : Nat) : Int), .int (a : Int), .int (b : Int), .int (c : Int)]
      rw [show (((a + b + c : Nat)) : Int) = (a : Int) + (b : Int) + (c : Int) by omega]
      exact .cons (.int _) (.cons (.int _) (.cons (.int _) (.cons (.int _) .nil)))
    · walk_at "ss"
      refine ⟨_, _, _, rfl, e2.trans e3, fun t' ht' => ?_⟩
      rw [take_succ ht, List.mem_append, List.mem_singleton] at ht'
      rcases ht' with ht' | rfl
      · exact pre t' ht'
      · exact e
  · rintro σ H2 ⟨x1, x2, x3, rfl, e2, pre⟩
    walk_at "ss"
    refine k _ H2 (e1.trans e2) ?_
    have ec : r.clash = none := by
      have hl := t1.length
      rw [List.length_map] at hl
      rw [hl, List.take_length] at pre
      exact List.find?_eq_none.mpr fun t ht => by rw [pre t ht]; decide
    rw [ec]
    exact .non
def sp_is_sure (Γ : Gm) : Sp := fun vs H Q _ => ∃ v r, vs = [v] ∧ RuleAt Γ H v r ∧ ∀ H', Same H H' → Q (.bl r.clash.isNone) H'
/-- is_sure: rule -/
def t_is_sure (Γ : Gm) : TS := (tRet (tOp rIsU (tCal (sp_clash Γ) E0 (tCons (tVar 0) tNil)) (tC .non)))
theorem clash_isN {H : Hp} {x : V} {c : Option T3} (h : Tp H x (clashD c)) : decide (x = V.non) = c.isNone := by
  cases c with
  | none => cases h; rfl
  | some t =>
    obtain ⟨p, xs, rfl, _, _⟩ := (show Tp H x (.tuple _) from h).inv
    rfl
theorem rd_is_sure (Γ : Gm) (vs : List V) (H : Hp) (Q : VK) (E : XK) (h : sp_is_sure Γ vs H Q E) : t_is_sure Γ ⟨fun _ H' => Q .non H', Q, fun _ _ => False, fun _ _ => False⟩ (startN 1 vs) H := by
  obtain ⟨v, r, rfl, hr, k⟩ := h
  unfold t_is_sure
  walk_at "ss"
  refine ⟨v, r, rfl, hr, fun x H1 e1 tx => ?_⟩
  walk_at "ss"
  rw [clash_isN tx]
  exact k H1 e1
def sp__law_clash (Γ : Gm) : Sp := fun vs H Q _ => ∃ v r, ∃ m : Nat, vs = [v, .int ((m : Int) + 2)] ∧ RuleAt Γ H v r ∧ m ≤ 38 ∧ (m : Int) + 2 ≤ r.top ∧ ∀ x H', Same H H' → Tp H' x (clashD (clashN r m)) → Q x H'
/-- law_clash: _law_rule_here, _law_most, _law_heap, _law_one, _law_other, _law_last, _law_left -/
def t__law_clash (Γ : Gm) : TS := (tSeq (tFor (iRng2 (tCons (tC (.int 3)) (tCons (tOp (rAddU Γ.K) (tVar 1) (tC (.int 1))) tNil))) (gName 2) (tFor (iRng2 (tCons (tC (.int 1)) (tCons (tOp rSubI (tVar 2) (tC (.int 1))) tNil))) (gName 3) (tFor (iRng2 (tCons (tC (.int 1)) (tCons (tOp rSubI (tVar 2) (tVar 3)) tNil))) (gName 4) (tSeq (tAsg (tOp rSubI (tOp rSubI (tVar 2) (tVar 3)) (tVar 4)) (gName 5))
  (tSeq (tAsg (tOp (rAddU Γ.K) (tCal (sp__law_points Γ) E0 (tCons (tVar 0) (tCons (tVar 3) (tCons (tVar 4) tNil)))) (tCal (sp__law_points Γ) E0 (tCons (tVar 0) (tCons (tOp (rAddU Γ.K) (tVar 3) (tVar 4)) (tCons (tVar 5) tNil))))) (gName 6))
  (tIfS (tTest (tOp (rNeU Γ.K) (tVar 6) (tOp (rAddU Γ.K) (tCal (sp__law_points Γ) E0 (tCons (tVar 0) (tCons (tVar 4) (tCons (tVar 5) tNil)))) (tCal (sp__law_points Γ) E0 (tCons (tVar 0) (tCons (tVar 3) (tCons (tOp (rAddU Γ.K) (tVar 4) (tVar 5)) tNil))))))) (tRet (tTup (tCons (tVar 2) (tCons (tVar 3) (tCons (tVar 4) (tCons (tVar 5) tNil)))))) tNext))))))
  (tRet (tC .non)))
theorem rd__law_clash (Γ : Gm) (vs : List V) (H : Hp) (Q : VK) (E : XK) (h : sp__law_clash Γ vs H Q E) : t__law_clash Γ ⟨fun _ H' => Q .non H', Q, fun _ _ => False, fun _ _ => False⟩ (startN 7 vs) H := by
  obtain ⟨v, r, m, rfl, hr, m38, mtop, k⟩ := h
  unfold t__law_clash
  walk_at "ss"
  refine k_rng2 (by omega) ?_
  rw [show ((m : Int) + 2 + 1 - 3).toNat = m by omega]
  refine k_range (fun i σ H' => ∃ x2 x3 x4 x5 x6, σ = [some v, some (.int ((m : Int) + 2)), x2, x3, x4, x5, x6] ∧ H' = H ∧ ∀ t ∈ triN i, (!evenT r t.1 t.2.1 t.2.2) = false) ⟨none, none, none, none, none, rfl, rfl, fun t ht => nomatch ht⟩ ?_ ?_
  · rintro i σ H2 hi ⟨x2, x3, x4, x5, x6, rfl, rfl, p1⟩
    walk_at "ss"
    refine k_rng2 (by omega) ?_
    rw [show (3 + (i : Int) - 1 - 1).toNat = i + 1 by omega]
    refine k_range (fun j σ H' => ∃ x3 x4 x5 x6, σ = [some v, some (.int ((m : Int) + 2)), some (.int (3 + (i : Int))), x3, x4, x5, x6] ∧ H' = H2 ∧ ∀ t ∈ tri2 (i + 3) j, (!evenT r t.1 t.2.1 t.2.2) = false) ⟨_, _, _, _, rfl, rfl, fun t ht => nomatch ht⟩ ?_ ?_
    · rintro j σ H3 hj ⟨x3', x4', x5', x6', rfl, rfl, p2⟩
      walk_at "ss"
      refine k_rng2 (by omega) ?_
      rw [show (3 + (i : Int) - (1 + (j : Int)) - 1).toNat = i + 3 - (j + 1) - 1 by omega]
      refine k_range (fun q σ H' => ∃ x4 x5 x6, σ = [some v, some (.int ((m : Int) + 2)), some (.int (3 + (i : Int))), some (.int (1 + (j : Int))), x4, x5, x6] ∧ H' = H3 ∧ ∀ t ∈ tri1 (i + 3) (j + 1) q, (!evenT r t.1 t.2.1 t.2.2) = false) ⟨_, _, _, rfl, rfl, fun t ht => nomatch ht⟩ ?_ ?_
      · rintro q σ H4 hq ⟨x4'', x5'', x6'', rfl, rfl, p3⟩
        obtain ⟨c, hc⟩ : ∃ c : Nat, (c : Int) = 3 + (i : Int) - (1 + (j : Int)) - (1 + (q : Int)) := ⟨i + 3 - (j + 1) - (q + 1), by omega⟩
        obtain ⟨a, ha⟩ : ∃ a : Nat, (a : Int) = 1 + (j : Int) := ⟨j + 1, by omega⟩
        obtain ⟨b, hb⟩ : ∃ b : Nat, (b : Int) = 1 + (q : Int) := ⟨q + 1, by omega⟩
        have ec : c = i + 3 - (j + 1) - (q + 1) := by omega
        have ea : a = j + 1 := by omega
        have eb : b = q + 1 := by omega
        walk_at "ss"
        rw [← hc, ← ha, ← hb]
        refine ⟨v, r, a, b, rfl, hr, by omega, by omega, by omega, ?_⟩
        walk_at "ss"
        refine ⟨v, r, _, _, rfl, hr, by omega, by omega, by omega, ?_⟩
        walk_at "ss"
        refine ⟨v, r, _, _, rfl, hr, by omega, by omega, by omega, ?_⟩
        walk_at "ss"
        refine ⟨v, r, _, _, rfl, hr, by omega, by omega, by omega, ?_⟩
        walk_at "ss"
        have ev : decide (r.pts (a : Int) (b : Int) + r.pts ((a : Int) + (b : Int)) (c : Int) = r.pts (b : Int) (c : Int) + r.pts (a : Int) ((b : Int) + (c : Int))) = evenT r a b c := rfl
        rw [ev]
        refine w_ite (fun e => ?_) (fun e => ?_)
        · walk_at "ss"
          refine n_tup fun p H5 f5 e5 g5 => ?_
          refine k _ H5 e5 ?_
          obtain ⟨s, es⟩ := tri_cut hi hj hq
          have ecl : clashN r m = some (a, b, c) := by
            show (triN m).find? _ = _
            rw [es, ← ec, ← ea, ← eb]
            refine find_at (fun t ht => ?_) e
            rw [List.mem_append, List.mem_append] at ht
            rcases ht with ht | ht | ht
            · exact p1 t ht
            · exact p2 t ht
            · rw [ea] at ht; exact p3 t ht
          rw [ecl]
          refine .tup g5 ?_
          show TpAll _ _ [.int ((a + b + c : Nat) : Int), .int (a : Int), .int (b : Int), .int (c : Int)]
          rw [show (((a + b + c : Nat)) : Int) = 3 + (i : Int) by omega]
          exact .cons (.int _) (.cons (.int _) (.cons (.int _) (.cons (.int _) .nil)))
        · walk_at "ss"
          refine ⟨_, _, _, by rw [ha]; rfl, rfl, fun t ht => ?_⟩
          rw [tri1_succ, List.mem_append, List.mem_singleton] at ht
          rcases ht with ht | rfl
          · exact p3 t ht
          · rw [← ec, ← ea, ← eb]; exact e
      · rintro σ H4 ⟨x4'', x5'', x6'', rfl, rfl, p3⟩
        walk_at "ss"
        refine ⟨_, _, _, _, rfl, rfl, fun t ht => ?_⟩
        rw [tri2_succ, List.mem_append] at ht
        rcases ht with ht | ht
        · exact p2 t ht
        · exact p3 t ht
    · rintro σ H3 ⟨x3', x4', x5', x6', rfl, rfl, p2⟩
      walk_at "ss"
      refine ⟨_, _, _, _, _, rfl, rfl, fun t ht => ?_⟩
      rw [triN_succ, List.mem_append] at ht
      rcases ht with ht | ht
      · exact p1 t ht
      · exact p2 t ht
  · rintro σ H2 ⟨x2, x3, x4, x5, x6, rfl, rfl, p1⟩
    walk_at "ss"
    refine k _ H2 (Same.refl H2) ?_
    have : clashN r m = none := List.find?_eq_none.mpr fun t ht => by rw [p1 t ht]; decide
    rw [this]
    exact .non

/-! ### the plain law of sure terms: five heaps each are enough -/
def rec5 (f : Int → Int) : Prop := ∀ x, f (x + 5) = 5 * f (x + 4) - 10 * f (x + 3) + 10 * f (x + 2) - 5 * f (x + 1) + f x
theorem rec5_zero {f : Int → Int} (h : rec5 f) (h1 : f 1 = 0) (h2 : f 2 = 0) (h3 : f 3 = 0) (h4 : f 4 = 0) (h5 : f 5 = 0) : ∀ n : Nat, f (n + 1 : Nat) = 0 ∧ f (n + 2 : Nat) = 0 ∧ f (n + 3 : Nat) = 0 ∧ f (n + 4 : Nat) = 0 ∧ f (n + 5 : Nat) = 0
  | 0 => ⟨h1, h2, h3, h4, h5⟩
  | n + 1 => by
    obtain ⟨a, b, c, d, e⟩ := rec5_zero h h1 h2 h3 h4 h5 n
    refine ⟨?_, ?_, ?_, ?_, ?_⟩
    · rw [show ((n + 1 + 1 : Nat) : Int) = ((n + 2 : Nat) : Int) by omega]; exact b
    · rw [show ((n + 1 + 2 : Nat) : Int) = ((n + 3 : Nat) : Int) by omega]; exact c
    · rw [show ((n + 1 + 3 : Nat) : Int) = ((n + 4 : Nat) : Int) by omega]; exact d
    · rw [show ((n + 1 + 4 : Nat) : Int) = ((n + 5 : Nat) : Int) by omega]; exact e
    · have z := h ((n + 1 : Nat) : Int)
      rw [show ((n + 1 : Nat) : Int) + 5 = ((n + 1 + 5 : Nat) : Int) by omega, show ((n + 1 : Nat) : Int) + 4 = ((n + 5 : Nat) : Int) by omega, show ((n + 1 : Nat) : Int) + 3 = ((n + 4 : Nat) : Int) by omega, show ((n + 1 : Nat) : Int) + 2 = ((n + 3 : Nat) : Int) by omega, show ((n + 1 : Nat) : Int) + 1 = ((n + 2 : Nat) : Int) by omega, a, b, c, d, e] at z
      rw [z]
      decide
theorem rec5_all {f : Int → Int} (h : rec5 f) (h0 : ∀ i : Nat, 1 ≤ i → i ≤ 5 → f i = 0) (n : Nat) (hn : 1 ≤ n) : f n = 0 := by
  have := (rec5_zero h (h0 1 (by decide) (by decide)) (h0 2 (by decide) (by decide)) (h0 3 (by decide) (by decide)) (h0 4 (by decide) (by decide)) (h0 5 (by decide) (by decide)) (n - 1)).1
  rwa [show n - 1 + 1 = n by omega] at this
theorem rec5_pow (K y : Int) : ∀ k, k ≤ 4 → rec5 fun x => K * (x + y) ^ k
  | 0, _, x => by dsimp only; grind
  | 1, _, x => by dsimp only; grind
  | 2, _, x => by dsimp only; grind
  | 3, _, x => by dsimp only; grind
  | 4, _, x => by dsimp only; grind
  | k + 5, h, _ => by omega
theorem rec5_add {f g : Int → Int} (hf : rec5 f) (hg : rec5 g) : rec5 fun x => f x + g x := fun x => by
  have a := hf x
  have b := hg x
  dsimp only
  rw [a, b]
  omega
theorem rec5_neg {f : Int → Int} (hf : rec5 f) : rec5 fun x => -f x := fun x => by
  have a := hf x
  dsimp only
  rw [a]
  omega
theorem rec5_congr {f g : Int → Int} (e : ∀ x, g x = f x) (hf : rec5 f) : rec5 g := by
  have : g = f := funext e
  rw [this]
  exact hf
/-- what one term gives more by the one way than by the other -/
def dTerm (t : Int × Nat × Nat) (a b c : Int) : Int := t.1 * a ^ t.2.1 * b ^ t.2.2 + t.1 * (a + b) ^ t.2.1 * c ^ t.2.2 + (-(t.1 * b ^ t.2.1 * c ^ t.2.2) + -(t.1 * a ^ t.2.1 * (b + c) ^ t.2.2))
def dSum (ts : List (Int × Nat × Nat)) (a b c : Int) : Int := (ts.map fun t => dTerm t a b c).sum
theorem dSum_eq (ts : List (Int × Nat × Nat)) (a b c : Int) : dSum ts a b c = (R.trm ts).pts a b + (R.trm ts).pts (a + b) c - ((R.trm ts).pts b c + (R.trm ts).pts a (b + c)) := by
  induction ts with
  | nil => rfl
  | cons t ts ih =>
    have e : ∀ x y, (R.trm (t :: ts)).pts x y = t.1 * x ^ t.2.1 * y ^ t.2.2 + (R.trm ts).pts x y := fun x y => rfl
    have e2 : dSum (t :: ts) a b c = dTerm t a b c + dSum ts a b c := rfl
    rw [e2, ih, e, e, e, e]
    unfold dTerm
    omega
theorem rec5_sum {F : Int × Nat × Nat → Int → Int} : ∀ (ts : List (Int × Nat × Nat)), (∀ t ∈ ts, rec5 (F t)) → rec5 fun x => (ts.map fun t => F t x).sum
  | [], _ => fun x => rfl
  | t :: ts, h => rec5_congr (fun x => by rw [List.map_cons, List.sum_cons]) (rec5_add (h t (List.mem_cons_self ..)) (rec5_sum ts fun t' h' => h t' (List.mem_cons_of_mem _ h')))
theorem dT_a {t : Int × Nat × Nat} (h1 : t.2.1 ≤ 4) (b c : Int) : rec5 fun a => dTerm t a b c := by
  unfold dTerm
  refine rec5_congr (fun x => ?_) (rec5_add (rec5_add (rec5_pow (t.1 * b ^ t.2.2) 0 t.2.1 h1) (rec5_pow (t.1 * c ^ t.2.2) b t.2.1 h1)) (rec5_add (rec5_pow (-(t.1 * b ^ t.2.1 * c ^ t.2.2)) 0 0 (by decide)) (rec5_neg (rec5_pow (t.1 * (b + c) ^ t.2.2) 0 t.2.1 h1))))
  simp only [Int.add_zero, Int.pow_zero, Int.mul_one]
  rw [Int.mul_right_comm t.1 (x ^ t.2.1), Int.mul_right_comm t.1 ((x + b) ^ t.2.1), Int.mul_right_comm t.1 (x ^ t.2.1) ((b + c) ^ t.2.2)]
theorem dT_b {t : Int × Nat × Nat} (h1 : t.2.1 ≤ 4) (h2 : t.2.2 ≤ 4) (a c : Int) : rec5 fun b => dTerm t a b c := by
  unfold dTerm
  refine rec5_congr (fun x => ?_) (rec5_add (rec5_add (rec5_pow (t.1 * a ^ t.2.1) 0 t.2.2 h2) (rec5_pow (t.1 * c ^ t.2.2) a t.2.1 h1)) (rec5_add (rec5_neg (rec5_pow (t.1 * c ^ t.2.2) 0 t.2.1 h1)) (rec5_neg (rec5_pow (t.1 * a ^ t.2.1) c t.2.2 h2))))
  simp only [Int.add_zero]
  rw [Int.mul_right_comm t.1 ((a + x) ^ t.2.1), Int.mul_right_comm t.1 (x ^ t.2.1), Int.add_comm a x]
theorem dT_c {t : Int × Nat × Nat} (h2 : t.2.2 ≤ 4) (a b : Int) : rec5 fun c => dTerm t a b c := by
  unfold dTerm
  refine rec5_congr (fun x => ?_) (rec5_add (rec5_add (rec5_pow (t.1 * a ^ t.2.1 * b ^ t.2.2) 0 0 (by decide)) (rec5_pow (t.1 * (a + b) ^ t.2.1) 0 t.2.2 h2)) (rec5_add (rec5_neg (rec5_pow (t.1 * b ^ t.2.1) 0 t.2.2 h2)) (rec5_neg (rec5_pow (t.1 * a ^ t.2.1) b t.2.2 h2))))
  simp only [Int.add_zero, Int.pow_zero, Int.mul_one, Int.add_comm x b]
theorem dSum_zero {ts : List (Int × Nat × Nat)} (ok : (R.trm ts).ok) (h : ∀ a b c : Nat, 1 ≤ a → a ≤ 5 → 1 ≤ b → b ≤ 5 → 1 ≤ c → c ≤ 5 → dSum ts a b c = 0) (a b c : Nat) (ha : 1 ≤ a) (hb : 1 ≤ b) (hc : 1 ≤ c) : dSum ts a b c = 0 := by
  obtain ⟨_, ok⟩ := ok
  have ra : ∀ b c, rec5 fun a => dSum ts a b c := fun b c => rec5_sum ts fun t ht => dT_a (ok t ht).2.2.1 b c
  have rb : ∀ a c, rec5 fun b => dSum ts a b c := fun a c => rec5_sum ts fun t ht => dT_b (ok t ht).2.2.1 (ok t ht).2.2.2 a c
  have rc : ∀ a b, rec5 fun c => dSum ts a b c := fun a b => rec5_sum ts fun t ht => dT_c (ok t ht).2.2.2 a b
  refine rec5_all (ra b c) (fun i hi1 hi2 => ?_) a ha
  refine rec5_all (rb i c) (fun j hj1 hj2 => ?_) b hb
  exact rec5_all (rc i j) (fun k hk1 hk2 => h i j k hi1 hi2 hj1 hj2 hk1 hk2) c hc
theorem even_dSum {ts : List (Int × Nat × Nat)} {a b c : Nat} : evenT (.trm ts) a b c = decide (dSum ts a b c = 0) := by
  unfold evenT
  rw [dSum_eq, decide_eq_decide, Int.natCast_add, Int.natCast_add]
  omega
theorem clashN_none {r : R} {m : Nat} : clashN r m = none ↔ ∀ a b c : Nat, 1 ≤ a → 1 ≤ b → 1 ≤ c → a + b + c ≤ m + 2 → evenT r a b c = true := by
  unfold clashN
  rw [List.find?_eq_none]
  constructor
  · intro h a b c ha hb hc hs
    have := h _ (triN_mem ha hb hc hs)
    simpa using this
  · intro h t ht
    obtain ⟨h1, h2, h3, h4⟩ := mem_triN ht
    rw [h _ _ _ h1 h2 h3 h4]
    decide
theorem trm_even {ts : List (Int × Nat × Nat)} (ok : (R.trm ts).ok) (h : clashN (.trm ts) 13 = none) (a b c : Nat) (ha : 1 ≤ a) (hb : 1 ≤ b) (hc : 1 ≤ c) : evenT (.trm ts) a b c = true := by
  rw [even_dSum, decide_eq_true_eq]
  refine dSum_zero ok (fun a b c a1 a5 b1 b5 c1 c5 => ?_) a b c ha hb hc
  have := clashN_none.mp h a b c a1 b1 c1 (by omega)
  rwa [even_dSum, decide_eq_true_eq] at this
theorem triN_more (m d : Nat) : ∃ s, triN (m + d) = triN m ++ s := by
  unfold triN
  rw [List.range_add, List.flatMap_append]
  exact ⟨_, rfl⟩
/-- a look further finds no other clash, of terms -/
theorem trm_clash {ts : List (Int × Nat × Nat)} (ok : (R.trm ts).ok) {m : Nat} (h : 13 ≤ m) : clashN (.trm ts) m = (R.trm ts).clash := by
  show _ = clashN (.trm ts) 13
  cases e : clashN (.trm ts) 13 with
  | none => exact clashN_none.mpr fun a b c ha hb hc _ => trm_even ok e a b c ha hb hc
  | some t =>
    obtain ⟨s, es⟩ := triN_more 13 (m - 13)
    rw [show 13 + (m - 13) = m by omega] at es
    unfold clashN at e ⊢
    rw [es, List.find?_append, e]
    rfl

/-! ### the plain law of the line -/
theorem thS_fst (ns : List Int) (k : Nat) (x : Rat) (hl : (thS ns k).2.1.length ≤ (thS ns k).1.length) : evalR (thS ns (k + 1)).1 x = evalR (thS ns k).1 x + mkRat ((thS ns k).2.2.headD 0) (fac k) * evalR (thS ns k).2.1 x := addS_eval _ _ x _ _ hl
theorem thS_snd (ns : List Int) (k : Nat) (x : Rat) : evalR (thS ns (k + 1)).2.1 x = (x - (((k + 1 : Nat) : Int) : Rat)) * evalR (thS ns k).2.1 x := tRoot_eval _ _ x
theorem thS_trd (ns : List Int) (k : Nat) : (thS ns (k + 1)).2.2 = diffs (thS ns k).2.2 := rfl
theorem thS_lens (ns : List Int) : ∀ k, k ≤ 7 → (thS ns k).1.length = 7 ∧ (thS ns k).2.1.length = k + 1
  | 0, _ => ⟨rfl, rfl⟩
  | k + 1, h => by
    obtain ⟨h1, h2⟩ := thS_lens ns k (by omega)
    constructor
    · show (addS _ _ _ _).length = 7
      rw [addS_len, h1]
    · show (goR _ _ _).length = _
      rw [goR_len, h2]
theorem eval_zeros (x : Rat) : ∀ n, evalR (List.replicate n (0 : Rat)) x = 0
  | 0 => rfl
  | n + 1 => by
    rw [List.replicate_succ]
    show 0 + x * evalR (List.replicate n (0 : Rat)) x = 0
    rw [eval_zeros x n]
    grind
def d0 (s : List Int) : Int := s.headD 0
def d1 (s : List Int) : Int := d0 (diffs s)
def d2 (s : List Int) : Int := d1 (diffs s)
def d3 (s : List Int) : Int := d2 (diffs s)
def d4 (s : List Int) : Int := d3 (diffs s)
def d5 (s : List Int) : Int := d4 (diffs s)
def d6 (s : List Int) : Int := d5 (diffs s)
theorem thru_eval (ns : List Int) (x : Rat) : evalR (thru ns) x =
    (d0 ns : Rat) + (d1 ns : Rat) * (x - 1) + (d2 ns : Rat) / 2 * ((x - 1) * (x - 2)) + (d3 ns : Rat) / 6 * ((x - 1) * (x - 2) * (x - 3)) + (d4 ns : Rat) / 24 * ((x - 1) * (x - 2) * (x - 3) * (x - 4))
    + (d5 ns : Rat) / 120 * ((x - 1) * (x - 2) * (x - 3) * (x - 4) * (x - 5)) + (d6 ns : Rat) / 720 * ((x - 1) * (x - 2) * (x - 3) * (x - 4) * (x - 5) * (x - 6)) := by
  have l := fun k (h : k ≤ 6) => thS_fst ns k x (by obtain ⟨h1, h2⟩ := thS_lens ns k (by omega); omega)
  have e0 : evalR (thS ns 0).1 x = 0 := eval_zeros x 7
  have p0 : evalR (thS ns 0).2.1 x = 1 := by
    show (1 : Rat) + x * 0 = 1
    grind
  have p1 := thS_snd ns 0 x
  have p2 := thS_snd ns 1 x
  have p3 := thS_snd ns 2 x
  have p4 := thS_snd ns 3 x
  have p5 := thS_snd ns 4 x
  have p6 := thS_snd ns 5 x
  have l0 := l 0 (by decide)
  have l1 := l 1 (by decide)
  have l2 := l 2 (by decide)
  have l3 := l 3 (by decide)
  have l4 := l 4 (by decide)
  have l5 := l 5 (by decide)
  have l6 := l 6 (by decide)
  have m0 : mkRat ((thS ns 0).2.2.headD 0) (fac 0) = (d0 ns : Rat) := mk_one _
  have m1 : mkRat ((thS ns 1).2.2.headD 0) (fac 1) = (d1 ns : Rat) := mk_one _
  have m2 : mkRat ((thS ns 2).2.2.headD 0) (fac 2) = (d2 ns : Rat) / 2 := Rat.mkRat_eq_div _ _
  have m3 : mkRat ((thS ns 3).2.2.headD 0) (fac 3) = (d3 ns : Rat) / 6 := Rat.mkRat_eq_div _ _
  have m4 : mkRat ((thS ns 4).2.2.headD 0) (fac 4) = (d4 ns : Rat) / 24 := Rat.mkRat_eq_div _ _
  have m5 : mkRat ((thS ns 5).2.2.headD 0) (fac 5) = (d5 ns : Rat) / 120 := Rat.mkRat_eq_div _ _
  have m6 : mkRat ((thS ns 6).2.2.headD 0) (fac 6) = (d6 ns : Rat) / 720 := Rat.mkRat_eq_div _ _
  have c1 : (((1 : Nat) : Int) : Rat) = 1 := rfl
  have c2 : (((2 : Nat) : Int) : Rat) = 2 := rfl
  have c3 : (((3 : Nat) : Int) : Rat) = 3 := rfl
  have c4 : (((4 : Nat) : Int) : Rat) = 4 := rfl
  have c5 : (((5 : Nat) : Int) : Rat) = 5 := rfl
  have c6 : (((6 : Nat) : Int) : Rat) = 6 := rfl
  show evalR (thS ns 7).1 x = _
  simp only [Nat.zero_add, Nat.reduceAdd] at p1 p2 p3 p4 p5 p6 l0 l1 l2 l3 l4 l5 l6
  rw [l6, l5, l4, l3, l2, l1, l0, p6, p5, p4, p3, p2, p1, p0, e0, m0, m1, m2, m3, m4, m5, m6, c1, c2, c3, c4, c5, c6]
  grind
theorem poly7 (c0 c1 c2 c3 c4 c5 c6 x : Rat) : evalR [c0, c1, c2, c3, c4, c5, c6] (x + 7) = 7 * evalR [c0, c1, c2, c3, c4, c5, c6] (x + 6) - 21 * evalR [c0, c1, c2, c3, c4, c5, c6] (x + 5) + 35 * evalR [c0, c1, c2, c3, c4, c5, c6] (x + 4) - 35 * evalR [c0, c1, c2, c3, c4, c5, c6] (x + 3) + 21 * evalR [c0, c1, c2, c3, c4, c5, c6] (x + 2) - 7 * evalR [c0, c1, c2, c3, c4, c5, c6] (x + 1) + evalR [c0, c1, c2, c3, c4, c5, c6] x := by
  simp only [evalR]
  grind
/-- at seven places -/
theorem thru_at (a0 a1 a2 a3 a4 a5 a6 : Int) : evalR (thru [a0, a1, a2, a3, a4, a5, a6]) 1 = a0 ∧ evalR (thru [a0, a1, a2, a3, a4, a5, a6]) 2 = a1 ∧ evalR (thru [a0, a1, a2, a3, a4, a5, a6]) 3 = a2 ∧ evalR (thru [a0, a1, a2, a3, a4, a5, a6]) 4 = a3 ∧ evalR (thru [a0, a1, a2, a3, a4, a5, a6]) 5 = a4 ∧ evalR (thru [a0, a1, a2, a3, a4, a5, a6]) 6 = a5 ∧ evalR (thru [a0, a1, a2, a3, a4, a5, a6]) 7 = a6 := by
  have e0 : d0 [a0, a1, a2, a3, a4, a5, a6] = a0 := rfl
  have e1 : d1 [a0, a1, a2, a3, a4, a5, a6] = a1 - a0 := rfl
  have e2 : d2 [a0, a1, a2, a3, a4, a5, a6] = a2 - 2 * a1 + a0 := by
    have : d2 [a0, a1, a2, a3, a4, a5, a6] = (a2 - a1) - (a1 - a0) := rfl
    omega
  have e3 : d3 [a0, a1, a2, a3, a4, a5, a6] = a3 - 3 * a2 + 3 * a1 - a0 := by
    have : d3 [a0, a1, a2, a3, a4, a5, a6] = ((a3 - a2) - (a2 - a1)) - ((a2 - a1) - (a1 - a0)) := rfl
    omega
  have e4 : d4 [a0, a1, a2, a3, a4, a5, a6] = a4 - 4 * a3 + 6 * a2 - 4 * a1 + a0 := by
    have : d4 [a0, a1, a2, a3, a4, a5, a6] = (((a4 - a3) - (a3 - a2)) - ((a3 - a2) - (a2 - a1))) - (((a3 - a2) - (a2 - a1)) - ((a2 - a1) - (a1 - a0))) := rfl
    omega
  have e5 : d5 [a0, a1, a2, a3, a4, a5, a6] = a5 - 5 * a4 + 10 * a3 - 10 * a2 + 5 * a1 - a0 := by
    have : d5 [a0, a1, a2, a3, a4, a5, a6] = d4 [a1, a2, a3, a4, a5] - d4 [a0, a1, a2, a3, a4] := rfl
    have h1 : d4 [a1, a2, a3, a4, a5] = (((a5 - a4) - (a4 - a3)) - ((a4 - a3) - (a3 - a2))) - (((a4 - a3) - (a3 - a2)) - ((a3 - a2) - (a2 - a1))) := rfl
    have h2 : d4 [a0, a1, a2, a3, a4] = (((a4 - a3) - (a3 - a2)) - ((a3 - a2) - (a2 - a1))) - (((a3 - a2) - (a2 - a1)) - ((a2 - a1) - (a1 - a0))) := rfl
    omega
  have e6 : d6 [a0, a1, a2, a3, a4, a5, a6] = a6 - 6 * a5 + 15 * a4 - 20 * a3 + 15 * a2 - 6 * a1 + a0 := by
    have : d6 [a0, a1, a2, a3, a4, a5, a6] = (d4 [a2, a3, a4, a5, a6] - d4 [a1, a2, a3, a4, a5]) - (d4 [a1, a2, a3, a4, a5] - d4 [a0, a1, a2, a3, a4]) := rfl
    have h0 : d4 [a2, a3, a4, a5, a6] = (((a6 - a5) - (a5 - a4)) - ((a5 - a4) - (a4 - a3))) - (((a5 - a4) - (a4 - a3)) - ((a4 - a3) - (a3 - a2))) := rfl
    have h1 : d4 [a1, a2, a3, a4, a5] = (((a5 - a4) - (a4 - a3)) - ((a4 - a3) - (a3 - a2))) - (((a4 - a3) - (a3 - a2)) - ((a3 - a2) - (a2 - a1))) := rfl
    have h2 : d4 [a0, a1, a2, a3, a4] = (((a4 - a3) - (a3 - a2)) - ((a3 - a2) - (a2 - a1))) - (((a3 - a2) - (a2 - a1)) - ((a2 - a1) - (a1 - a0))) := rfl
    omega
  have q := thru_eval [a0, a1, a2, a3, a4, a5, a6]
  simp only [e0, e1, e2, e3, e4, e5, e6, Rat.intCast_add, Rat.intCast_sub, Rat.intCast_mul, Rat.intCast_ofNat] at q
  refine ⟨?_, ?_, ?_, ?_, ?_, ?_, ?_⟩
  · rw [q]; grind
  · rw [q]; grind
  · rw [q]; grind
  · rw [q]; grind
  · rw [q]; grind
  · rw [q]; grind
  · rw [q]; grind
theorem seven {α : Type} {l : List α} (h : l.length = 7) : ∃ a b c d e f g, l = [a, b, c, d, e, f, g] := by
  match l, h with
  | [a, b, c, d, e, f, g], _ => exact ⟨a, b, c, d, e, f, g, rfl⟩
theorem thru_len (ns : List Int) : (thru ns).length = 7 := (thS_lens ns 7 (Nat.le_refl 7)).1
/-- a function whose seventh differences are 0 is told by seven values -/
theorem thru_all {f : Nat → Int} (h : ∀ n, f (n + 7) = 7 * f (n + 6) - 21 * f (n + 5) + 35 * f (n + 4) - 35 * f (n + 3) + 21 * f (n + 2) - 7 * f (n + 1) + f n) (n : Nat) :
    ∀ m, n ≤ m → m ≤ n + 6 → evalR (thru [f 0, f 1, f 2, f 3, f 4, f 5, f 6]) (((m + 1 : Nat) : Int) : Rat) = (f m : Rat) := by
  induction n with
  | zero =>
    obtain ⟨h0, h1, h2, h3, h4, h5, h6⟩ := thru_at (f 0) (f 1) (f 2) (f 3) (f 4) (f 5) (f 6)
    intro m _ hm
    match m, hm with
    | 0, _ => exact h0
    | 1, _ => exact h1
    | 2, _ => exact h2
    | 3, _ => exact h3
    | 4, _ => exact h4
    | 5, _ => exact h5
    | 6, _ => exact h6
  | succ n ih =>
    intro m h1 h2
    by_cases e : m ≤ n + 6
    · exact ih m (by omega) e
    · have em : m = n + 7 := by omega
      subst em
      obtain ⟨c0, c1, c2, c3, c4, c5, c6, eL⟩ := seven (thru_len [f 0, f 1, f 2, f 3, f 4, f 5, f 6])
      rw [eL] at ih ⊢
      have z := poly7 c0 c1 c2 c3 c4 c5 c6 (((n + 1 : Nat) : Int) : Rat)
      have cs : ∀ k : Nat, ((((n + 1 : Nat) : Int) : Rat)) + (k : Rat) = (((n + k + 1 : Nat) : Int) : Rat) := fun k => by
        rw [show ((n + k + 1 : Nat) : Int) = ((n + 1 : Nat) : Int) + (k : Int) by omega, Rat.intCast_add]
        rfl
      have c7 := cs 7
      have c6' := cs 6
      have c5' := cs 5
      have c4' := cs 4
      have c3' := cs 3
      have c2' := cs 2
      have c1' := cs 1
      simp only [Rat.natCast_ofNat] at c7 c6' c5' c4' c3' c2' c1'
      have c1'' : ((((n + 1 : Nat) : Int) : Rat)) + 1 = (((n + 1 + 1 : Nat) : Int) : Rat) := cs 1
      rw [c7, c6', c5', c4', c3', c2', c1'', ih (n + 6) (by omega) (by omega), ih (n + 5) (by omega) (by omega), ih (n + 4) (by omega) (by omega), ih (n + 3) (by omega) (by omega), ih (n + 2) (by omega) (by omega), ih (n + 1) (by omega) (by omega), ih n (by omega) (by omega)] at z
      rw [z, h n]
      simp only [Rat.intCast_add, Rat.intCast_sub, Rat.intCast_mul, Rat.intCast_ofNat]
/-! the steps of terms are polynomials -/
theorem stp_rec5 {ts : List (Int × Nat × Nat)} (ok : (R.trm ts).ok) (b : Bool) : ∃ g : Int → Int, rec5 g ∧ ∀ h : Nat, stp (.trm ts) b h = g h := by
  obtain ⟨_, ok⟩ := ok
  cases b with
  | true =>
    refine ⟨fun x => (ts.map fun t => (t.1 * (x + 0) ^ t.2.2)).sum, rec5_sum ts fun t ht => rec5_pow t.1 0 t.2.2 (ok t ht).2.2.2, fun h => ?_⟩
    show (ts.map fun t => t.1 * (1 : Int) ^ t.2.1 * (h : Int) ^ t.2.2).sum = _
    simp only [Int.one_pow, Int.mul_one, Int.add_zero]
  | false =>
    refine ⟨fun x => (ts.map fun t => (t.1 * (x + 0) ^ t.2.1)).sum, rec5_sum ts fun t ht => rec5_pow t.1 0 t.2.1 (ok t ht).2.2.1, fun h => ?_⟩
    show (ts.map fun t => t.1 * (h : Int) ^ t.2.1 * (1 : Int) ^ t.2.2).sum = _
    simp only [Int.one_pow, Int.mul_one, Int.add_zero]
theorem linS_rec7 {ts : List (Int × Nat × Nat)} (ok : (R.trm ts).ok) (b : Bool) (n : Nat) : linS (.trm ts) b (n + 7) = 7 * linS (.trm ts) b (n + 6) - 21 * linS (.trm ts) b (n + 5) + 35 * linS (.trm ts) b (n + 4) - 35 * linS (.trm ts) b (n + 3) + 21 * linS (.trm ts) b (n + 2) - 7 * linS (.trm ts) b (n + 1) + linS (.trm ts) b n := by
  obtain ⟨g, hg, eg⟩ := stp_rec5 ok b
  have s : ∀ k, linS (.trm ts) b (k + 1) = linS (.trm ts) b k + g ((k : Int) + 1) := fun k => by
    show _ + stp (.trm ts) b (k + 1) = _
    rw [eg]
    rfl
  have r1 := hg ((n : Int) + 1)
  have r2 := hg ((n : Int) + 2)
  have s0 := s n
  have s1 := s (n + 1)
  have s2 := s (n + 2)
  have s3 := s (n + 3)
  have s4 := s (n + 4)
  have s5 := s (n + 5)
  have s6 := s (n + 6)
  rw [show ((n + 1 : Nat) : Int) + 1 = (n : Int) + 2 by omega] at s1
  rw [show ((n + 2 : Nat) : Int) + 1 = (n : Int) + 3 by omega] at s2
  rw [show ((n + 3 : Nat) : Int) + 1 = (n : Int) + 4 by omega] at s3
  rw [show ((n + 4 : Nat) : Int) + 1 = (n : Int) + 5 by omega] at s4
  rw [show ((n + 5 : Nat) : Int) + 1 = (n : Int) + 6 by omega] at s5
  rw [show ((n + 6 : Nat) : Int) + 1 = (n : Int) + 7 by omega] at s6
  rw [show (n : Int) + 1 + 5 = (n : Int) + 6 by omega, show (n : Int) + 1 + 4 = (n : Int) + 5 by omega, show (n : Int) + 1 + 3 = (n : Int) + 4 by omega, show (n : Int) + 1 + 2 = (n : Int) + 3 by omega, show (n : Int) + 1 + 1 = (n : Int) + 2 by omega] at r1
  rw [show (n : Int) + 2 + 5 = (n : Int) + 7 by omega, show (n : Int) + 2 + 4 = (n : Int) + 6 by omega, show (n : Int) + 2 + 3 = (n : Int) + 5 by omega, show (n : Int) + 2 + 2 = (n : Int) + 4 by omega, show (n : Int) + 2 + 1 = (n : Int) + 3 by omega] at r2
  generalize linS (.trm ts) b (n + 7) = L7 at *
  generalize linS (.trm ts) b (n + 6) = L6 at *
  generalize linS (.trm ts) b (n + 5) = L5 at *
  generalize linS (.trm ts) b (n + 4) = L4 at *
  generalize linS (.trm ts) b (n + 3) = L3 at *
  generalize linS (.trm ts) b (n + 2) = L2 at *
  generalize linS (.trm ts) b (n + 1) = L1 at *
  generalize linS (.trm ts) b n = L0 at *
  generalize g ((n : Int) + 1) = G1 at *
  generalize g ((n : Int) + 2) = G2 at *
  generalize g ((n : Int) + 3) = G3 at *
  generalize g ((n : Int) + 4) = G4 at *
  generalize g ((n : Int) + 5) = G5 at *
  generalize g ((n : Int) + 6) = G6 at *
  generalize g ((n : Int) + 7) = G7 at *
  omega
def lineR (r : R) (b : Bool) : List Rat := thru (sumsL r b 7)
theorem line_val {ts : List (Int × Nat × Nat)} (ok : (R.trm ts).ok) (b : Bool) (n : Nat) : evalR (lineR (.trm ts) b) (((n + 1 : Nat) : Int) : Rat) = (linS (.trm ts) b n : Rat) := thru_all (linS_rec7 ok b) n n (Nat.le_refl n) (by omega)
theorem sum_sm : ∀ (xs : List Int) {B : Nat}, (∀ x ∈ xs, x.natAbs ≤ B) → xs.sum.natAbs ≤ xs.length * B
  | [], B, _ => by simp
  | x :: xs, B, h => by
    have h1 := h x (List.mem_cons_self ..)
    have h2 := sum_sm xs (B := B) fun y hy => h y (List.mem_cons_of_mem _ hy)
    rw [List.sum_cons, List.length_cons, Nat.succ_mul]
    refine Nat.le_trans (Int.natAbs_add_le _ _) ?_
    omega
theorem stp_sm {ts : List (Int × Nat × Nat)} (ok : (R.trm ts).ok) (b : Bool) {h : Nat} (hh : h ≤ 6) : (stp (.trm ts) b h).natAbs ≤ 2 ^ 36 := by
  obtain ⟨h6, ok⟩ := ok
  have pw : ∀ k, k ≤ 4 → h ^ k ≤ 1296 := fun k hk => Nat.le_trans (Nat.pow_le_pow_left hh k) (Nat.le_trans (Nat.pow_le_pow_right (by decide) hk) (by decide))
  have key : ∀ t ∈ ts, ∀ k, k ≤ 4 → (t.1 * (h : Int) ^ k).natAbs ≤ 1296000000 := fun t ht k hk => by
    rw [Int.natAbs_mul, Int.natAbs_pow, Int.natAbs_natCast]
    have o := ok t ht
    have : t.1.natAbs ≤ 1000000 := by omega
    exact Nat.le_trans (Nat.mul_le_mul this (pw k hk)) (by decide)
  have fin : ∀ F : Int × Nat × Nat → Int, (∀ t ∈ ts, (F t).natAbs ≤ 1296000000) → ((ts.map F).sum).natAbs ≤ 2 ^ 36 := fun F hF => by
    refine Nat.le_trans (sum_sm (ts.map F) (B := 1296000000) fun x hx => ?_) ?_
    · obtain ⟨t, ht, rfl⟩ := List.mem_map.mp hx
      exact hF t ht
    · rw [List.length_map]
      exact Nat.le_trans (Nat.mul_le_mul_right _ h6) (by decide)
  cases b with
  | true =>
    show ((ts.map fun t : Int × Nat × Nat => t.1 * (1 : Int) ^ t.2.1 * (h : Int) ^ t.2.2).sum).natAbs ≤ _
    simp only [Int.one_pow, Int.mul_one]
    exact fin _ fun t ht => key t ht _ (ok t ht).2.2.2
  | false =>
    show ((ts.map fun t : Int × Nat × Nat => t.1 * (h : Int) ^ t.2.1 * (1 : Int) ^ t.2.2).sum).natAbs ≤ _
    simp only [Int.one_pow, Int.mul_one]
    exact fin _ fun t ht => key t ht _ (ok t ht).2.2.1
theorem linS_sm {ts : List (Int × Nat × Nat)} (ok : (R.trm ts).ok) (b : Bool) : ∀ k, k ≤ 6 → (linS (.trm ts) b k).natAbs ≤ k * 2 ^ 36
  | 0, _ => by
    show (0 : Int).natAbs ≤ _
    omega
  | k + 1, h => by
    have i1 := linS_sm ok b k (by omega)
    have i2 := stp_sm ok b (h := k + 1) h
    show (linS (.trm ts) b k + stp (.trm ts) b (k + 1)).natAbs ≤ _
    omega
theorem sumsL_sm {ts : List (Int × Nat × Nat)} (ok : (R.trm ts).ok) (b : Bool) : ∀ n ∈ sumsL (.trm ts) b 7, n.natAbs ≤ 2 ^ 60 := by
  intro n hn
  unfold sumsL at hn
  obtain ⟨k, hk, rfl⟩ := List.mem_map.mp hn
  have := linS_sm ok b k (by have := List.mem_range.mp hk; omega)
  have hk' := List.mem_range.mp hk
  have : k * 2 ^ 36 ≤ 6 * 2 ^ 36 := Nat.mul_le_mul_right _ (by omega)
  have e : 6 * 2 ^ 36 ≤ 2 ^ 60 := by decide
  omega
theorem line_bd {ts : List (Int × Nat × Nat)} (ok : (R.trm ts).ok) (b : Bool) : ∀ q ∈ lineR (.trm ts) b, bdR 9000 70 q := fun q hq =>
  ((thS_inv (ns := sumsL (.trm ts) b 7) (by unfold sumsL; rw [List.length_map, List.length_range]) (sumsL_sm ok b) 7 (Nat.le_refl 7)).fb q hq).mono (fk_le 7 (by decide)) (by decide)
/-! ### line_of, one_by_one -/
def sp_line_of (Γ : Gm) : Sp := fun vs H Q _ => ∃ v ts b, vs = [v, .bl b] ∧ RuleAt Γ H v (.trm ts) ∧ ∀ l H', Same H H' → H l = none → RL H' l (lineR (.trm ts) b) → Q (.ref l) H'
/-- line_of: rule, is_first -/
def t_line_of (Γ : Gm) : TS := (tRet (tCal (sp_through Γ) E0 (tCons (tCal (sp_sums_to Γ) E0 (tCons (tVar 0) (tCons (tOp (rAddU Γ.K) (tC (.int 4)) (tC (.int 3))) (tCons (tVar 1) tNil)))) tNil)))
theorem rd_line_of (Γ : Gm) (vs : List V) (H : Hp) (Q : VK) (E : XK) (h : sp_line_of Γ vs H Q E) : t_line_of Γ ⟨fun _ H' => Q .non H', Q, fun _ _ => False, fun _ _ => False⟩ (startN 2 vs) H := by
  obtain ⟨v, ts, b, rfl, hr, k⟩ := h
  have ok := hr.ok
  unfold t_line_of
  walk_at "ss"
  refine ⟨v, .trm ts, b, 7, rfl, hr, by decide, by decide, (by decide : ((7 : Nat) : Int) ≤ 1000000000000000000000000000000), fun l H1 e1 f1 g1 => ?_⟩
  walk_at "ss"
  refine ⟨l, sumsL (.trm ts) b 7, rfl, g1, by unfold sumsL; rw [List.length_map, List.length_range], sumsL_sm ok b, fun l2 H2 e2 f2 R2 => ?_⟩
  exact k l2 H2 (e1.trans e2) (e1.free f2) R2
def sp_one_by_one (Γ : Gm) : Sp := fun vs H Q _ => ∃ v r b, ∃ n : Nat, vs = [v, .int n, .bl b] ∧ RuleAt Γ H v r ∧ 1 ≤ n ∧ (n : Int) ≤ r.top ∧ ∀ H', Same H H' → Q (.int (linS r b (n - 1))) H'
/-- one_by_one: rule, heap, is_first -/
def t_one_by_one (Γ : Gm) : TS := (tSeq (tIfS (tTest (tOp (rEqU Γ.K) (tFld Γ.K (tVar 0) "form") (tC (.str "table")))) (tRet (tOp (rIx Γ.K) (tCal (sp_sums_to Γ) E0 (tCons (tVar 0) (tCons (tVar 1) (tCons (tVar 2) tNil)))) (tUn (rU fun i => .int (-i)) (tC (.int 1))))) tNext)
  (tRet (tOp (rIx Γ.K) (tCal (sp_value_at Γ) E0 (tCons (tCal (sp_line_of Γ) E0 (tCons (tVar 0) (tCons (tVar 2) tNil))) (tCons (tVar 1) tNil))) (tC (.int 0)))))
theorem rd_one_by_one (Γ : Gm) (F : RuleF Γ) (vs : List V) (H : Hp) (Q : VK) (E : XK) (h : sp_one_by_one Γ vs H Q E) : t_one_by_one Γ ⟨fun _ H' => Q .non H', Q, fun _ _ => False, fun _ _ => False⟩ (startN 3 vs) H := by
  obtain ⟨v, r, b, n, rfl, hr, h1, ht, k⟩ := h
  have ok := hr.ok
  unfold t_one_by_one
  walk_at "ss"
  refine w_form F hr ?_
  walk_at "ss"
  rw [kind_tab]
  cases r with
  | tab rows =>
    refine w_iteT ?_
    walk_at "ss"
    have hn : (n : Int) ≤ 40 := by
      obtain ⟨_, h2, _⟩ := ok
      have : (n : Int) ≤ (rows.length : Int) + 1 := ht
      omega
    refine ⟨v, _, b, n, rfl, hr, h1, by omega, ht, fun l H1 e1 f1 g1 => ?_⟩
    walk_at "ss"
    have sl : (sumsL (.tab rows) b n).length = n := by unfold sumsL; rw [List.length_map, List.length_range]
    refine w_ixL (SqL.of g1) (atI_last (x := .int (linS (.tab rows) b (n - 1))) (by rw [List.length_map, sl, List.getElem?_map]; unfold sumsL; rw [List.getElem?_map, List.getElem?_range (by omega)]; rfl) (by rw [List.length_map, sl]; omega)) ?_
    exact k H1 e1
  | trm ts =>
    refine w_iteF ?_
    walk_at "ss"
    refine ⟨v, ts, b, rfl, hr, fun l H1 e1 f1 R1 => ?_⟩
    walk_at "ss"
    have hn : (n : Int) ≤ 1000000000000000000000000000000 := ht
    refine ⟨l, n, lineR (.trm ts) b, rfl, R1, by show (thru _).length ≤ 10; rw [thru_len]; decide, ?_, line_bd ok b, fun z H2 e2 tz => ?_⟩
    · rw [Int.natAbs_natCast]
      have : n ≤ 1000000000000000000000000000000 := by omega
      exact Nat.le_trans this (by decide)
    obtain ⟨m, rfl⟩ : ∃ m, n = m + 1 := ⟨n - 1, by omega⟩
    rw [line_val ok b m] at tz
    obtain ⟨p, rfl, gp⟩ := fr_inv tz
    walk_at "ss"
    refine w_ixT (SqT.of gp) (atI0 _ _) ?_
    exact k H2 (e1.trans e2)

/-! ### formulas -/
/-- a row of numbers less the noughts at its end -/
structure Trim (L R : List Rat) : Prop where
  ex : ∃ k, L = R ++ List.replicate k 0
  ne : ∀ R' q, R = R' ++ [q] → q ≠ 0
theorem evalR_app (x : Rat) : ∀ (A B : List Rat), evalR (A ++ B) x = evalR A x + x ^ A.length * evalR B x
  | [], B => by
    show evalR B x = 0 + x ^ 0 * evalR B x
    grind
  | a :: A, B => by
    show a + x * evalR (A ++ B) x = (a + x * evalR A x) + x ^ (A.length + 1) * evalR B x
    rw [evalR_app x A B, Rat.pow_succ]
    grind
theorem Trim.eval {L R : List Rat} (t : Trim L R) (x : Rat) : evalR R x = evalR L x := by
  obtain ⟨k, rfl⟩ := t.ex
  rw [evalR_app, eval_zeros]
  grind
theorem ratD_zero {q : Rat} : ratD q = frD 0 1 ↔ q = 0 := by
  refine ⟨fun h => ?_, fun h => by rw [h]; rfl⟩
  unfold ratD frD at h
  injection h with h
  injection h with h1 _
  injection h1 with h1
  exact Rat.num_eq_zero.mp h1
theorem cutV_last (xs : List V) : cutV xs none (some (-1)) = xs.dropLast := by
  unfold cutV HT.sIx
  simp only [Nat.sub_zero, List.drop_zero]
  rw [if_pos (by decide), List.dropLast_eq_take]
  congr 1
  omega
/-! sure terms have no seventh number -/
theorem six_diff (c0 c1 c2 c3 c4 c5 c6 : Rat) : evalR [c0, c1, c2, c3, c4, c5, c6] 7 - 6 * evalR [c0, c1, c2, c3, c4, c5, c6] 6 + 15 * evalR [c0, c1, c2, c3, c4, c5, c6] 5 - 20 * evalR [c0, c1, c2, c3, c4, c5, c6] 4 + 15 * evalR [c0, c1, c2, c3, c4, c5, c6] 3 - 6 * evalR [c0, c1, c2, c3, c4, c5, c6] 2 + evalR [c0, c1, c2, c3, c4, c5, c6] 1 = 720 * c6 := by
  simp only [evalR]
  grind
theorem linS_rec6 {ts : List (Int × Nat × Nat)} (ok : (R.trm ts).ok) (b : Bool) : linS (.trm ts) b 6 - 6 * linS (.trm ts) b 5 + 15 * linS (.trm ts) b 4 - 20 * linS (.trm ts) b 3 + 15 * linS (.trm ts) b 2 - 6 * linS (.trm ts) b 1 + linS (.trm ts) b 0 = 0 := by
  obtain ⟨g, hg, hs⟩ := stp_rec5 ok b
  have e : ∀ n : Nat, linS (.trm ts) b (n + 1) = linS (.trm ts) b n + g ((n + 1 : Nat) : Int) := fun n => by rw [← hs]; rfl
  have e0 : linS (.trm ts) b 1 = linS (.trm ts) b 0 + g 1 := e 0
  have e1 : linS (.trm ts) b 2 = linS (.trm ts) b 1 + g 2 := e 1
  have e2 : linS (.trm ts) b 3 = linS (.trm ts) b 2 + g 3 := e 2
  have e3 : linS (.trm ts) b 4 = linS (.trm ts) b 3 + g 4 := e 3
  have e4 : linS (.trm ts) b 5 = linS (.trm ts) b 4 + g 5 := e 4
  have e5 : linS (.trm ts) b 6 = linS (.trm ts) b 5 + g 6 := e 5
  have r1 : g 6 = 5 * g 5 - 10 * g 4 + 10 * g 3 - 5 * g 2 + g 1 := hg 1
  omega
theorem line_six {ts : List (Int × Nat × Nat)} (ok : (R.trm ts).ok) (b : Bool) : ∃ L6, lineR (.trm ts) b = L6 ++ [0] ∧ L6.length = 6 := by
  have hl : (lineR (.trm ts) b).length = 7 := thru_len _
  obtain ⟨c0, c1, c2, c3, c4, c5, c6, e⟩ := seven hl
  have v := fun n => line_val ok b n
  rw [e] at v
  have h := six_diff c0 c1 c2 c3 c4 c5 c6
  have v0 : evalR [c0, c1, c2, c3, c4, c5, c6] 1 = _ := v 0
  have v1 : evalR [c0, c1, c2, c3, c4, c5, c6] 2 = _ := v 1
  have v2 : evalR [c0, c1, c2, c3, c4, c5, c6] 3 = _ := v 2
  have v3 : evalR [c0, c1, c2, c3, c4, c5, c6] 4 = _ := v 3
  have v4 : evalR [c0, c1, c2, c3, c4, c5, c6] 5 = _ := v 4
  have v5 : evalR [c0, c1, c2, c3, c4, c5, c6] 6 = _ := v 5
  have v6 : evalR [c0, c1, c2, c3, c4, c5, c6] 7 = _ := v 6
  have lr := congrArg (fun z : Int => (z : Rat)) (linS_rec6 ok b)
  simp only [Rat.intCast_add, Rat.intCast_sub, Rat.intCast_mul, Rat.intCast_ofNat] at lr
  rw [v0, v1, v2, v3, v4, v5, v6] at h
  have z : (720 : Rat) * c6 = 0 := by
    rw [← h]
    exact lr
  have z6 : c6 = 0 := by grind
  exact ⟨[c0, c1, c2, c3, c4, c5], by rw [e, z6]; rfl, rfl⟩
theorem trm_sm {ts : List (Int × Nat × Nat)} (ok : (R.trm ts).ok) {a b : Int} {m : Nat} (ha : a.natAbs ≤ 2 ^ m) (hb : b.natAbs ≤ 2 ^ m) : ((R.trm ts).pts a b).natAbs ≤ 2 ^ (20 + 4 * m + 4 * m + 3) := by
  obtain ⟨h6, hb6⟩ := ok
  have pw : ∀ {x : Int} {k : Nat}, x.natAbs ≤ 2 ^ m → k ≤ 4 → (x ^ k).natAbs ≤ 2 ^ (4 * m) := fun {x k} hx hk => by
    rw [Int.natAbs_pow]
    refine Nat.le_trans (Nat.pow_le_pow_left hx k) ?_
    rw [← Nat.pow_mul, Nat.mul_comm 4 m]
    exact Nat.pow_le_pow_right (by decide) (Nat.mul_le_mul_left m hk)
  show (ts.map fun t : Int × Nat × Nat => t.1 * a ^ t.2.1 * b ^ t.2.2).sum.natAbs ≤ _
  have key : ∀ x ∈ ts.map (fun t : Int × Nat × Nat => t.1 * a ^ t.2.1 * b ^ t.2.2), x.natAbs ≤ 2 ^ (20 + 4 * m + 4 * m) := fun x hx => by
    obtain ⟨t, ht, rfl⟩ := List.mem_map.mp hx
    obtain ⟨t1, t2, t3, t4⟩ := hb6 t ht
    exact mul_nat (mul_nat (m := 20) (by omega) (pw ha t3)) (pw hb t4)
  refine Nat.le_trans (sum_sm _ key) ?_
  rw [List.length_map, Nat.pow_add 2 (20 + 4 * m + 4 * m) 3, Nat.mul_comm]
  exact Nat.mul_le_mul_left _ (Nat.le_trans h6 (by decide))
/-! ### the reading -/
structure FormK (Γ : Gm) (r : R) (H : Hp) (Q : VK) (E : XK) : Prop where
  tab : (∃ rows, r = .tab rows) → E (.ref Γ.cNoTerms) none H
  non : ∀ ts, r = .trm ts → r.clash ≠ none → ∀ H', Same H H' → Q .non H'
  row : ∀ ts, r = .trm ts → r.clash = none → ∀ p xs R H', Same H H' → H' p = some (.tup xs) → TpAll H' xs (R.map ratD) → Trim (lineR r false) R → Q (.ref p) H'
def sp_formula (Γ : Gm) : Sp := fun vs H Q E => ∃ v r, vs = [v] ∧ RuleAt Γ H v r ∧ FormK Γ r H Q E
/-- formula: rule, row -/
def t_formula (Γ : Gm) (E : XK) : TS := (tSeq (tIfS (tTest (tOp (rNeU Γ.K) (tFld Γ.K (tVar 0) "form") (tC (.str "terms")))) (tRaise Γ.cNoTerms (fun cls d _ H => E cls d H)) tNext)
  (tSeq (tIfS (tTest (tOp rNotIsU (tCal (sp_clash Γ) E0 (tCons (tVar 0) tNil)) (tC .non))) (tRet (tC .non)) tNext)
  (tSeq (tAsg (tCal (sp_line_of Γ) E0 (tCons (tVar 0) (tCons (tC (.bl false)) tNil))) (gName 1))
  (tSeq (tWhile (tAnd (tTest (tOp rGt (tCB (rLen Γ.K) (tCons (tVar 1) tNil)) (tC (.int 0)))) (tTest (tOp (rEqU Γ.K) (tOp (rIx Γ.K) (tVar 1) (tUn (rU fun i => .int (-i)) (tC (.int 1)))) (tTup (tCons (tC (.int 0)) (tCons (tC (.int 1)) tNil)))))) (tAsg (tSl (rSlU Γ.K) (tVar 1) tNoPart (tPart (tUn (rU fun i => .int (-i)) (tC (.int 1))))) (gName 1)))
  (tRet (tCB (rTupOf Γ.K) (tCons (tVar 1) tNil)))))))
theorem rd_formula (Γ : Gm) (F : RuleF Γ) (vs : List V) (H : Hp) (Q : VK) (E : XK) (h : sp_formula Γ vs H Q E) : t_formula Γ E ⟨fun _ H' => Q .non H', Q, fun _ _ => False, fun _ _ => False⟩ (startN 2 vs) H := by
  obtain ⟨v, r, rfl, hr, k⟩ := h
  unfold t_formula
  walk_at "ss"
  refine w_form F hr ?_
  walk_at "ss"
  rw [kind_trm]
  cases r with
  | tab rows =>
    refine w_ifY rfl ?_
    walk_at "ss"
    exact k.tab ⟨rows, rfl⟩
  | trm ts =>
    refine w_ifN rfl ?_
    walk_at "ss"
    refine ⟨v, .trm ts, rfl, hr, fun x H1 e1 tx => ?_⟩
    walk_at "ss"
    rw [clash_isN tx]
    cases hc : (R.trm ts).clash with
    | some t =>
      refine w_ifY rfl ?_
      walk_at "ss"
      exact k.non ts rfl (by rw [hc]; exact fun z => nomatch z) H1 e1
    | none =>
      refine w_ifN rfl ?_
      walk_at "ss"
      refine ⟨v, ts, false, rfl, hr.mono e1, fun l H2 e2 f2 RL2 => ?_⟩
      walk_at "ss"
      have l7 : (lineR (.trm ts) false).length = 7 := thru_len _
      refine k_while (fun m σ H' => ∃ l R, σ = [some v, some (.ref l)] ∧ Same H H' ∧ RL H' l R ∧ m = R.length ∧ ∃ k, lineR (.trm ts) false = R ++ List.replicate k 0) 7 ⟨l, _, rfl, e1.trans e2, RL2, l7.symm, 0, by rw [List.replicate_zero, List.append_nil]⟩ ?_
      rintro m σ H3 ⟨l, R, rfl, e3, ⟨xs, g3, t3⟩, rfl, kk, ek⟩
      have xl := t3.length
      rw [List.length_map] at xl
      walk_at "ss"
      refine w_lenL (SqL.of g3) ?_
      walk_at "ss"
      rw [xl]
      have done : (∀ R' q, R = R' ++ [q] → q ≠ 0) → ∀ H4, Same H3 H4 → (tRet (tCB (rTupOf Γ.K) (tCons (tVar 1) tNil))) ⟨fun _ H' => Q .non H', Q, fun _ _ => False, fun _ _ => False⟩ [some v, some (.ref l)] H4 := fun hne H4 e4 => by
        walk_at "ss"
        refine w_tupL (SqL.of (e4 _ _ g3)) fun p H5 f5 e5 g5 => ?_
        exact k.row ts rfl hc p xs R H5 (e3.trans (e4.trans e5)) g5 ((t3.mono e4.tups).mono e5.tups) ⟨⟨kk, ek⟩, hne⟩
      rcases List.eq_nil_or_concat R with rfl | ⟨R0, q, rfl⟩
      · refine w_ifN (decide_eq_false (by simp)) ?_
        refine w_ifN rfl ?_
        exact done (fun R' q h => by cases R' <;> cases h) H3 (Same.refl H3)
      · rw [List.concat_eq_append] at *
        have xl' : xs.length = R0.length + 1 := by rw [xl, List.length_append]; rfl
        refine w_ifY (decide_eq_true (by rw [List.length_append]; simp)) ?_
        obtain ⟨p, hp, gp⟩ := RL.get t3 (i := R0.length) (q := q) (by rw [List.getElem?_append_right (Nat.le_refl _), Nat.sub_self]; rfl)
        walk_at "ss"
        refine w_ixL (SqL.of g3) (atI_last (by rw [xl']; exact hp) (by omega)) ?_
        walk_at "ss"
        refine n_tup fun p4 H4 f4 e4 g4 => ?_
        have dec : Decidable (ratD q = frD 0 1) := Classical.propDecidable _
        refine w_eqD (dec := dec) (fr_mk (e4 _ _ gp)).dv (fr_mk g4).dv rfl rfl rfl rfl ?_
        walk_at "ss"
        by_cases hq : q = 0
        · refine w_ifY (decide_eq_true (ratD_zero.mpr hq)) ?_
          refine whK.mk ?_
          walk_at "ss"
          refine w_slL (e4 _ _ g3) fun p5 H5 f5 e5 g5 => ?_
          walk_at "ss"
          rw [cutV_last] at g5
          refine ⟨R0.length, by rw [List.length_append]; exact Nat.lt_succ_self _, p5, R0, rfl, e3.trans (e4.trans e5), ⟨_, g5, ?_⟩, rfl, kk + 1, ?_⟩
          · have := ((t3.mono e4.tups).mono e5.tups).take R0.length
            rw [List.map_append, List.take_left' (by rw [List.length_map])] at this
            rw [List.dropLast_eq_take, xl']
            exact this
          · rw [ek, hq, List.replicate_succ, List.append_assoc]
            rfl
        · refine w_ifN (decide_eq_false fun z => hq (ratD_zero.mp z)) ?_
          exact done (fun R' q' h => by
            obtain ⟨_, h2⟩ := List.append_inj' h rfl
            cases h2
            exact hq) H4 e4

/-! ### sure_sum, where nothing is unsure -/
theorem no_and {c d : TT} {σ : St} {H : Hp} {QB : Bool → Hp → Prop} (P : Hp → Prop) (h : ∀ QB' : Bool → Hp → Prop, (∀ H', P H' → QB' false H') → tAnd c d σ H QB') (k : ∀ H', P H' → QB false H') : tAnd c d σ H QB := h QB k
def t3n (t : T3) : Nat := t.1 + t.2.1 + t.2.2
theorem clash_ix {H : Hp} {x : V} {t : T3} (h : Tp H x (clashD (some t))) : ∃ p, x = .ref p ∧ H p = some (.tup [.int (t3n t : Nat), .int (t.1 : Nat), .int (t.2.1 : Nat), .int (t.2.2 : Nat)]) := by
  obtain ⟨p, xs, rfl, hp, tp⟩ := Tp.inv (ds := [.int (t3n t : Nat), .int (t.1 : Nat), .int (t.2.1 : Nat), .int (t.2.2 : Nat)]) h
  have e := TpAll.ints (ns := [((t3n t : Nat) : Int), (t.1 : Nat), (t.2.1 : Nat), (t.2.2 : Nat)]) tp
  subst e
  exact ⟨p, rfl, hp⟩
def sp_sure_sum (Γ : Gm) : Sp := fun vs H Q _ => ∃ v r, ∃ n : Nat, vs = [v, .int n] ∧ RuleAt Γ H v r ∧ 1 ≤ n ∧ (n : Int) ≤ r.top ∧ (∀ t, r.clash = some t → n < t3n t) ∧ ∀ H', Same H H' → Q (.int (linS r false (n - 1))) H'
/-- sure_sum: rule, heap, told -/
def t_sure_sum (Γ : Gm) (E : XK) : TS := (tSeq (tDrop (tCal (sp_check_heap Γ) E (tCons (tVar 0) (tCons (tVar 1) (tCons (tC (.int 1000000000000000000000000000000)) tNil)))))
  (tSeq (tAsg (tCal (sp_clash Γ) E0 (tCons (tVar 0) tNil)) (gName 2))
  (tSeq (tIfS (tAnd (tTest (tOp rNotIsU (tVar 2) (tC .non))) (tTest (tOp rLe (tOp (rIx Γ.K) (tVar 2) (tC (.int 0))) (tVar 1)))) tNever tNext)
  (tRet (tCal (sp_one_by_one Γ) E0 (tCons (tVar 0) (tCons (tVar 1) (tCons (tC (.bl false)) tNil))))))))
theorem rd_sure_sum (Γ : Gm) (vs : List V) (H : Hp) (Q : VK) (E : XK) (h : sp_sure_sum Γ vs H Q E) : t_sure_sum Γ E ⟨fun _ H' => Q .non H', Q, fun _ _ => False, fun _ _ => False⟩ (startN 3 vs) H := by
  obtain ⟨v, r, n, rfl, hr, h1, ht, hs, k⟩ := h
  unfold t_sure_sum
  walk_at "ss"
  have ok := hr.ok
  have hok : heapOk r 1000000000000000000000000000000 (.int n) = true := by
    have htop : r.top ≤ 1000000000000000000000000000000 := by
      cases r with
      | tab rows =>
        obtain ⟨_, h2, _⟩ := ok
        show (rows.length : Int) + 1 ≤ _
        omega
      | trm ts => exact Int.le_refl _
    unfold heapOk
    refine inD_yes (by omega) ?_
    split <;> omega
  refine ⟨v, r, .int n, .int n, 1000000000000000000000000000000, rfl, hr, .int n, (fun z => by rw [hok] at z; cases z), fun _ => ?_⟩
  walk_at "ss"
  refine ⟨v, r, rfl, hr, fun x H1 e1 tx => ?_⟩
  refine w_gName ?_
  refine w_seq ?_
  refine w_ifS ?_
  refine no_and (P := fun H' => H' = H1) (fun QB' hq => ?_) (fun H2 e2 => ?_)
  · walk_at "ss"
    rw [clash_isN tx]
    cases hc : r.clash with
    | none =>
      refine w_ifN rfl ?_
      exact hq H1 rfl
    | some t =>
      refine w_ifY rfl ?_
      rw [hc] at tx
      obtain ⟨p, rfl, gp⟩ := clash_ix tx
      walk_at "ss"
      refine w_ixT (SqT.of gp) (atI0 _ _) ?_
      walk_at "ss"
      have := hs t hc
      rw [decide_eq_false (by omega)]
      exact hq H1 rfl
  subst e2
  refine w_ifN rfl ?_
  walk_at "ss"
  exact ⟨v, r, false, n, rfl, hr.mono e1, h1, ht, fun H' e => k H' (e1.trans e)⟩

/-! ### rules by powers of heaps: the plain part -/
def chF (n : Int) : Nat → Int
  | 0 => 1
  | j + 1 => chF n j * (n - j) / (j + 1)
def tsK (k : Nat) (N M : Int) : List (Int × Nat × Nat) := ((List.range (k - 1)).map fun j => (N * chF k (j + 1), j + 1, k - (j + 1))) ++ [(M, 0, 0)]
def kOk (k : Nat) : Prop := k = 2 ∨ k = 3 ∨ k = 4 ∨ k = 5
theorem tsK2 (N M : Int) : tsK 2 N M = [(N * 2, 1, 1), (M, 0, 0)] := rfl
theorem tsK3 (N M : Int) : tsK 3 N M = [(N * 3, 1, 2), (N * 3, 2, 1), (M, 0, 0)] := rfl
theorem tsK4 (N M : Int) : tsK 4 N M = [(N * 4, 1, 3), (N * 6, 2, 2), (N * 4, 3, 1), (M, 0, 0)] := rfl
theorem tsK5 (N M : Int) : tsK 5 N M = [(N * 5, 1, 4), (N * 10, 2, 3), (N * 10, 3, 2), (N * 5, 4, 1), (M, 0, 0)] := rfl
theorem tsK_pts {k : Nat} (hk : kOk k) (N M a b : Int) : (R.trm (tsK k N M)).pts a b = N * ((a + b) ^ k - a ^ k - b ^ k) + M := by
  show ((tsK k N M).map fun t : Int × Nat × Nat => t.1 * a ^ t.2.1 * b ^ t.2.2).sum = _
  rcases hk with rfl | rfl | rfl | rfl
  · rw [tsK2]
    simp only [List.map_cons, List.map_nil, List.sum_cons, List.sum_nil]
    grind
  · rw [tsK3]
    simp only [List.map_cons, List.map_nil, List.sum_cons, List.sum_nil]
    grind
  · rw [tsK4]
    simp only [List.map_cons, List.map_nil, List.sum_cons, List.sum_nil]
    grind
  · rw [tsK5]
    simp only [List.map_cons, List.map_nil, List.sum_cons, List.sum_nil]
    grind
theorem tsK_ok {k : Nat} (hk : kOk k) {N M : Int} (hN : -1000 ≤ N ∧ N ≤ 1000) (hM : -100 ≤ M ∧ M ≤ 100) : (R.trm (tsK k N M)).ok := by
  obtain ⟨n1, n2⟩ := hN
  obtain ⟨m1, m2⟩ := hM
  rcases hk with rfl | rfl | rfl | rfl
  · rw [tsK2]
    refine ⟨show 2 ≤ 6 from by decide, fun t ht => ?_⟩
    simp only [List.mem_cons, List.not_mem_nil, or_false] at ht
    rcases ht with rfl | rfl <;> (dsimp only; omega)
  · rw [tsK3]
    refine ⟨show 3 ≤ 6 from by decide, fun t ht => ?_⟩
    simp only [List.mem_cons, List.not_mem_nil, or_false] at ht
    rcases ht with rfl | rfl | rfl <;> (dsimp only; omega)
  · rw [tsK4]
    refine ⟨show 4 ≤ 6 from by decide, fun t ht => ?_⟩
    simp only [List.mem_cons, List.not_mem_nil, or_false] at ht
    rcases ht with rfl | rfl | rfl | rfl <;> (dsimp only; omega)
  · rw [tsK5]
    refine ⟨show 5 ≤ 6 from by decide, fun t ht => ?_⟩
    simp only [List.mem_cons, List.not_mem_nil, or_false] at ht
    rcases ht with rfl | rfl | rfl | rfl | rfl <;> (dsimp only; omega)
theorem tsK_clash {k : Nat} (hk : kOk k) (N M : Int) : (R.trm (tsK k N M)).clash = none := by
  refine List.find?_eq_none.mpr fun t _ => ?_
  have e : evenT (.trm (tsK k N M)) t.1 t.2.1 t.2.2 = true := by
    unfold evenT
    refine decide_eq_true ?_
    rw [tsK_pts hk, tsK_pts hk, tsK_pts hk, tsK_pts hk, Int.natCast_add, Int.natCast_add, Int.add_assoc]
    grind
  rw [e]
  decide
theorem tsK_lin {k : Nat} (hk : kOk k) (N M : Int) : ∀ n : Nat, linS (.trm (tsK k N M)) false n = N * (((n : Int) + 1) ^ k - ((n : Int) + 1)) + M * n
  | 0 => by
    show (0 : Int) = _
    rw [show ((0 : Nat) : Int) + 1 = 1 from rfl, Int.one_pow]
    simp
  | n + 1 => by
    show linS (.trm (tsK k N M)) false n + (R.trm (tsK k N M)).pts ((n + 1 : Nat) : Int) 1 = _
    rw [tsK_lin hk N M n, tsK_pts hk, Int.one_pow, Int.natCast_add]
    show N * (((n : Int) + 1) ^ k - ((n : Int) + 1)) + M * n + (N * (((n : Int) + 1 + 1) ^ k - ((n : Int) + 1) ^ k - 1) + M) = N * (((n : Int) + 1 + 1) ^ k - ((n : Int) + 1 + 1)) + M * ((n : Int) + 1)
    grind
/-! two rows of seven that have the same values at 1 to 7 are the same -/
theorem six0 (c0 c1 c2 c3 c4 c5 c6 : Rat) (v1 : evalR [c0, c1, c2, c3, c4, c5, c6] 1 = 0) (v2 : evalR [c0, c1, c2, c3, c4, c5, c6] 2 = 0) (v3 : evalR [c0, c1, c2, c3, c4, c5, c6] 3 = 0) (v4 : evalR [c0, c1, c2, c3, c4, c5, c6] 4 = 0) (v5 : evalR [c0, c1, c2, c3, c4, c5, c6] 5 = 0) (v6 : evalR [c0, c1, c2, c3, c4, c5, c6] 6 = 0) (v7 : evalR [c0, c1, c2, c3, c4, c5, c6] 7 = 0) :
    c0 = 0 ∧ c1 = 0 ∧ c2 = 0 ∧ c3 = 0 ∧ c4 = 0 ∧ c5 = 0 ∧ c6 = 0 := by
  have h6 := six_diff c0 c1 c2 c3 c4 c5 c6
  rw [v1, v2, v3, v4, v5, v6, v7] at h6
  have z6 : c6 = 0 := by grind
  subst z6
  simp only [evalR] at v1 v2 v3 v4 v5 v6 v7
  refine ⟨?_, ?_, ?_, ?_, ?_, ?_, rfl⟩ <;> grind
theorem Trim.uniq {L R R' : List Rat} (t : Trim L R) (t' : Trim L R') : R = R' := by
  obtain ⟨k, e⟩ := t.ex
  obtain ⟨k', e'⟩ := t'.ex
  have key : ∀ {A B : List Rat} {m j : Nat}, A ++ List.replicate m (0 : Rat) = B ++ List.replicate (m + j) 0 → (∀ A' q, A = A' ++ [q] → q ≠ 0) → A = B := fun {A B m j} h ne => by
    rw [Nat.add_comm m j, ← List.replicate_append_replicate, ← List.append_assoc] at h
    have h2 := List.append_cancel_right h
    cases j with
    | zero => rw [List.replicate_zero, List.append_nil] at h2; exact h2
    | succ j =>
      rw [List.replicate_succ', ← List.append_assoc] at h2
      exact absurd rfl (ne _ 0 h2)
  rw [e] at e'
  rcases Nat.le_total k k' with h | h
  · obtain ⟨j, rfl⟩ := Nat.exists_eq_add_of_le h
    exact key e' t.ne
  · obtain ⟨j, rfl⟩ := Nat.exists_eq_add_of_le h
    exact (key e'.symm t'.ne).symm
/-! the coefficients -/
def rowI (k : Nat) (N M : Int) : List Int := [0 - M, M - N] ++ List.replicate (k - 2) 0 ++ [N]
def ratI (z : Int) : Rat := (z : Rat)
theorem line_2 (N M : Int) {c0 c1 c2 c3 c4 c5 c6 : Rat} (v : ∀ n : Nat, evalR [c0, c1, c2, c3, c4, c5, c6] (((n + 1 : Nat) : Int) : Rat) = (linS (.trm (tsK 2 N M)) false n : Rat)) : [c0, c1, c2, c3, c4, c5, c6] = [((0 : Rat) - (M : Rat)), ((M : Rat) - (N : Rat)), (N : Rat), (0 : Rat), (0 : Rat), (0 : Rat), (0 : Rat)] := by
  have hk : kOk 2 := by unfold kOk; omega
  have l0 : linS (.trm (tsK 2 N M)) false 0 = N * 0 + M * 0 := tsK_lin hk N M 0
  have v0 : evalR [c0, c1, c2, c3, c4, c5, c6] 1 = _ := v 0
  rw [l0, Rat.intCast_add, Rat.intCast_mul, Rat.intCast_mul] at v0
  have l1 : linS (.trm (tsK 2 N M)) false 1 = N * 2 + M * 1 := tsK_lin hk N M 1
  have v1 : evalR [c0, c1, c2, c3, c4, c5, c6] 2 = _ := v 1
  rw [l1, Rat.intCast_add, Rat.intCast_mul, Rat.intCast_mul] at v1
  have l2 : linS (.trm (tsK 2 N M)) false 2 = N * 6 + M * 2 := tsK_lin hk N M 2
  have v2 : evalR [c0, c1, c2, c3, c4, c5, c6] 3 = _ := v 2
  rw [l2, Rat.intCast_add, Rat.intCast_mul, Rat.intCast_mul] at v2
  have l3 : linS (.trm (tsK 2 N M)) false 3 = N * 12 + M * 3 := tsK_lin hk N M 3
  have v3 : evalR [c0, c1, c2, c3, c4, c5, c6] 4 = _ := v 3
  rw [l3, Rat.intCast_add, Rat.intCast_mul, Rat.intCast_mul] at v3
  have l4 : linS (.trm (tsK 2 N M)) false 4 = N * 20 + M * 4 := tsK_lin hk N M 4
  have v4 : evalR [c0, c1, c2, c3, c4, c5, c6] 5 = _ := v 4
  rw [l4, Rat.intCast_add, Rat.intCast_mul, Rat.intCast_mul] at v4
  have l5 : linS (.trm (tsK 2 N M)) false 5 = N * 30 + M * 5 := tsK_lin hk N M 5
  have v5 : evalR [c0, c1, c2, c3, c4, c5, c6] 6 = _ := v 5
  rw [l5, Rat.intCast_add, Rat.intCast_mul, Rat.intCast_mul] at v5
  have l6 : linS (.trm (tsK 2 N M)) false 6 = N * 42 + M * 6 := tsK_lin hk N M 6
  have v6 : evalR [c0, c1, c2, c3, c4, c5, c6] 7 = _ := v 6
  rw [l6, Rat.intCast_add, Rat.intCast_mul, Rat.intCast_mul] at v6
  simp only [evalR, Rat.intCast_ofNat] at v0 v1 v2 v3 v4 v5 v6
  obtain ⟨z0, z1, z2, z3, z4, z5, z6⟩ := six0 (c0 - ((0 : Rat) - (M : Rat))) (c1 - ((M : Rat) - (N : Rat))) (c2 - (N : Rat)) (c3 - (0 : Rat)) (c4 - (0 : Rat)) (c5 - (0 : Rat)) (c6 - (0 : Rat)) (by simp only [evalR]; grind) (by simp only [evalR]; grind) (by simp only [evalR]; grind) (by simp only [evalR]; grind) (by simp only [evalR]; grind) (by simp only [evalR]; grind) (by simp only [evalR]; grind)
  rw [show c0 = ((0 : Rat) - (M : Rat)) by grind, show c1 = ((M : Rat) - (N : Rat)) by grind, show c2 = (N : Rat) by grind, show c3 = (0 : Rat) by grind, show c4 = (0 : Rat) by grind, show c5 = (0 : Rat) by grind, show c6 = (0 : Rat) by grind]
theorem line_3 (N M : Int) {c0 c1 c2 c3 c4 c5 c6 : Rat} (v : ∀ n : Nat, evalR [c0, c1, c2, c3, c4, c5, c6] (((n + 1 : Nat) : Int) : Rat) = (linS (.trm (tsK 3 N M)) false n : Rat)) : [c0, c1, c2, c3, c4, c5, c6] = [((0 : Rat) - (M : Rat)), ((M : Rat) - (N : Rat)), (0 : Rat), (N : Rat), (0 : Rat), (0 : Rat), (0 : Rat)] := by
  have hk : kOk 3 := by unfold kOk; omega
  have l0 : linS (.trm (tsK 3 N M)) false 0 = N * 0 + M * 0 := tsK_lin hk N M 0
  have v0 : evalR [c0, c1, c2, c3, c4, c5, c6] 1 = _ := v 0
  rw [l0, Rat.intCast_add, Rat.intCast_mul, Rat.intCast_mul] at v0
  have l1 : linS (.trm (tsK 3 N M)) false 1 = N * 6 + M * 1 := tsK_lin hk N M 1
  have v1 : evalR [c0, c1, c2, c3, c4, c5, c6] 2 = _ := v 1
  rw [l1, Rat.intCast_add, Rat.intCast_mul, Rat.intCast_mul] at v1
  have l2 : linS (.trm (tsK 3 N M)) false 2 = N * 24 + M * 2 := tsK_lin hk N M 2
  have v2 : evalR [c0, c1, c2, c3, c4, c5, c6] 3 = _ := v 2
  rw [l2, Rat.intCast_add, Rat.intCast_mul, Rat.intCast_mul] at v2
  have l3 : linS (.trm (tsK 3 N M)) false 3 = N * 60 + M * 3 := tsK_lin hk N M 3
  have v3 : evalR [c0, c1, c2, c3, c4, c5, c6] 4 = _ := v 3
  rw [l3, Rat.intCast_add, Rat.intCast_mul, Rat.intCast_mul] at v3
  have l4 : linS (.trm (tsK 3 N M)) false 4 = N * 120 + M * 4 := tsK_lin hk N M 4
  have v4 : evalR [c0, c1, c2, c3, c4, c5, c6] 5 = _ := v 4
  rw [l4, Rat.intCast_add, Rat.intCast_mul, Rat.intCast_mul] at v4
  have l5 : linS (.trm (tsK 3 N M)) false 5 = N * 210 + M * 5 := tsK_lin hk N M 5
  have v5 : evalR [c0, c1, c2, c3, c4, c5, c6] 6 = _ := v 5
  rw [l5, Rat.intCast_add, Rat.intCast_mul, Rat.intCast_mul] at v5
  have l6 : linS (.trm (tsK 3 N M)) false 6 = N * 336 + M * 6 := tsK_lin hk N M 6
  have v6 : evalR [c0, c1, c2, c3, c4, c5, c6] 7 = _ := v 6
  rw [l6, Rat.intCast_add, Rat.intCast_mul, Rat.intCast_mul] at v6
  simp only [evalR, Rat.intCast_ofNat] at v0 v1 v2 v3 v4 v5 v6
  obtain ⟨z0, z1, z2, z3, z4, z5, z6⟩ := six0 (c0 - ((0 : Rat) - (M : Rat))) (c1 - ((M : Rat) - (N : Rat))) (c2 - (0 : Rat)) (c3 - (N : Rat)) (c4 - (0 : Rat)) (c5 - (0 : Rat)) (c6 - (0 : Rat)) (by simp only [evalR]; grind) (by simp only [evalR]; grind) (by simp only [evalR]; grind) (by simp only [evalR]; grind) (by simp only [evalR]; grind) (by simp only [evalR]; grind) (by simp only [evalR]; grind)
  rw [show c0 = ((0 : Rat) - (M : Rat)) by grind, show c1 = ((M : Rat) - (N : Rat)) by grind, show c2 = (0 : Rat) by grind, show c3 = (N : Rat) by grind, show c4 = (0 : Rat) by grind, show c5 = (0 : Rat) by grind, show c6 = (0 : Rat) by grind]
theorem line_4 (N M : Int) {c0 c1 c2 c3 c4 c5 c6 : Rat} (v : ∀ n : Nat, evalR [c0, c1, c2, c3, c4, c5, c6] (((n + 1 : Nat) : Int) : Rat) = (linS (.trm (tsK 4 N M)) false n : Rat)) : [c0, c1, c2, c3, c4, c5, c6] = [((0 : Rat) - (M : Rat)), ((M : Rat) - (N : Rat)), (0 : Rat), (0 : Rat), (N : Rat), (0 : Rat), (0 : Rat)] := by
  have hk : kOk 4 := by unfold kOk; omega
  have l0 : linS (.trm (tsK 4 N M)) false 0 = N * 0 + M * 0 := tsK_lin hk N M 0
  have v0 : evalR [c0, c1, c2, c3, c4, c5, c6] 1 = _ := v 0
  rw [l0, Rat.intCast_add, Rat.intCast_mul, Rat.intCast_mul] at v0
  have l1 : linS (.trm (tsK 4 N M)) false 1 = N * 14 + M * 1 := tsK_lin hk N M 1
  have v1 : evalR [c0, c1, c2, c3, c4, c5, c6] 2 = _ := v 1
  rw [l1, Rat.intCast_add, Rat.intCast_mul, Rat.intCast_mul] at v1
  have l2 : linS (.trm (tsK 4 N M)) false 2 = N * 78 + M * 2 := tsK_lin hk N M 2
  have v2 : evalR [c0, c1, c2, c3, c4, c5, c6] 3 = _ := v 2
  rw [l2, Rat.intCast_add, Rat.intCast_mul, Rat.intCast_mul] at v2
  have l3 : linS (.trm (tsK 4 N M)) false 3 = N * 252 + M * 3 := tsK_lin hk N M 3
  have v3 : evalR [c0, c1, c2, c3, c4, c5, c6] 4 = _ := v 3
  rw [l3, Rat.intCast_add, Rat.intCast_mul, Rat.intCast_mul] at v3
  have l4 : linS (.trm (tsK 4 N M)) false 4 = N * 620 + M * 4 := tsK_lin hk N M 4
  have v4 : evalR [c0, c1, c2, c3, c4, c5, c6] 5 = _ := v 4
  rw [l4, Rat.intCast_add, Rat.intCast_mul, Rat.intCast_mul] at v4
  have l5 : linS (.trm (tsK 4 N M)) false 5 = N * 1290 + M * 5 := tsK_lin hk N M 5
  have v5 : evalR [c0, c1, c2, c3, c4, c5, c6] 6 = _ := v 5
  rw [l5, Rat.intCast_add, Rat.intCast_mul, Rat.intCast_mul] at v5
  have l6 : linS (.trm (tsK 4 N M)) false 6 = N * 2394 + M * 6 := tsK_lin hk N M 6
  have v6 : evalR [c0, c1, c2, c3, c4, c5, c6] 7 = _ := v 6
  rw [l6, Rat.intCast_add, Rat.intCast_mul, Rat.intCast_mul] at v6
  simp only [evalR, Rat.intCast_ofNat] at v0 v1 v2 v3 v4 v5 v6
  obtain ⟨z0, z1, z2, z3, z4, z5, z6⟩ := six0 (c0 - ((0 : Rat) - (M : Rat))) (c1 - ((M : Rat) - (N : Rat))) (c2 - (0 : Rat)) (c3 - (0 : Rat)) (c4 - (N : Rat)) (c5 - (0 : Rat)) (c6 - (0 : Rat)) (by simp only [evalR]; grind) (by simp only [evalR]; grind) (by simp only [evalR]; grind) (by simp only [evalR]; grind) (by simp only [evalR]; grind) (by simp only [evalR]; grind) (by simp only [evalR]; grind)
  rw [show c0 = ((0 : Rat) - (M : Rat)) by grind, show c1 = ((M : Rat) - (N : Rat)) by grind, show c2 = (0 : Rat) by grind, show c3 = (0 : Rat) by grind, show c4 = (N : Rat) by grind, show c5 = (0 : Rat) by grind, show c6 = (0 : Rat) by grind]
theorem line_5 (N M : Int) {c0 c1 c2 c3 c4 c5 c6 : Rat} (v : ∀ n : Nat, evalR [c0, c1, c2, c3, c4, c5, c6] (((n + 1 : Nat) : Int) : Rat) = (linS (.trm (tsK 5 N M)) false n : Rat)) : [c0, c1, c2, c3, c4, c5, c6] = [((0 : Rat) - (M : Rat)), ((M : Rat) - (N : Rat)), (0 : Rat), (0 : Rat), (0 : Rat), (N : Rat), (0 : Rat)] := by
  have hk : kOk 5 := by unfold kOk; omega
  have l0 : linS (.trm (tsK 5 N M)) false 0 = N * 0 + M * 0 := tsK_lin hk N M 0
  have v0 : evalR [c0, c1, c2, c3, c4, c5, c6] 1 = _ := v 0
  rw [l0, Rat.intCast_add, Rat.intCast_mul, Rat.intCast_mul] at v0
  have l1 : linS (.trm (tsK 5 N M)) false 1 = N * 30 + M * 1 := tsK_lin hk N M 1
  have v1 : evalR [c0, c1, c2, c3, c4, c5, c6] 2 = _ := v 1
  rw [l1, Rat.intCast_add, Rat.intCast_mul, Rat.intCast_mul] at v1
  have l2 : linS (.trm (tsK 5 N M)) false 2 = N * 240 + M * 2 := tsK_lin hk N M 2
  have v2 : evalR [c0, c1, c2, c3, c4, c5, c6] 3 = _ := v 2
  rw [l2, Rat.intCast_add, Rat.intCast_mul, Rat.intCast_mul] at v2
  have l3 : linS (.trm (tsK 5 N M)) false 3 = N * 1020 + M * 3 := tsK_lin hk N M 3
  have v3 : evalR [c0, c1, c2, c3, c4, c5, c6] 4 = _ := v 3
  rw [l3, Rat.intCast_add, Rat.intCast_mul, Rat.intCast_mul] at v3
  have l4 : linS (.trm (tsK 5 N M)) false 4 = N * 3120 + M * 4 := tsK_lin hk N M 4
  have v4 : evalR [c0, c1, c2, c3, c4, c5, c6] 5 = _ := v 4
  rw [l4, Rat.intCast_add, Rat.intCast_mul, Rat.intCast_mul] at v4
  have l5 : linS (.trm (tsK 5 N M)) false 5 = N * 7770 + M * 5 := tsK_lin hk N M 5
  have v5 : evalR [c0, c1, c2, c3, c4, c5, c6] 6 = _ := v 5
  rw [l5, Rat.intCast_add, Rat.intCast_mul, Rat.intCast_mul] at v5
  have l6 : linS (.trm (tsK 5 N M)) false 6 = N * 16800 + M * 6 := tsK_lin hk N M 6
  have v6 : evalR [c0, c1, c2, c3, c4, c5, c6] 7 = _ := v 6
  rw [l6, Rat.intCast_add, Rat.intCast_mul, Rat.intCast_mul] at v6
  simp only [evalR, Rat.intCast_ofNat] at v0 v1 v2 v3 v4 v5 v6
  obtain ⟨z0, z1, z2, z3, z4, z5, z6⟩ := six0 (c0 - ((0 : Rat) - (M : Rat))) (c1 - ((M : Rat) - (N : Rat))) (c2 - (0 : Rat)) (c3 - (0 : Rat)) (c4 - (0 : Rat)) (c5 - (N : Rat)) (c6 - (0 : Rat)) (by simp only [evalR]; grind) (by simp only [evalR]; grind) (by simp only [evalR]; grind) (by simp only [evalR]; grind) (by simp only [evalR]; grind) (by simp only [evalR]; grind) (by simp only [evalR]; grind)
  rw [show c0 = ((0 : Rat) - (M : Rat)) by grind, show c1 = ((M : Rat) - (N : Rat)) by grind, show c2 = (0 : Rat) by grind, show c3 = (0 : Rat) by grind, show c4 = (0 : Rat) by grind, show c5 = (N : Rat) by grind, show c6 = (0 : Rat) by grind]
theorem row_trim {k : Nat} (hk : kOk k) {N M : Int} (hN : -1000 ≤ N ∧ N ≤ 1000) (hM : -100 ≤ M ∧ M ≤ 100) (h0 : N ≠ 0) : Trim (lineR (.trm (tsK k N M)) false) ((rowI k N M).map ratI) := by
  have hl : (lineR (.trm (tsK k N M)) false).length = 7 := thru_len _
  obtain ⟨c0, c1, c2, c3, c4, c5, c6, e⟩ := seven hl
  have v := fun n => line_val (tsK_ok hk hN hM) false n
  rw [e] at v
  refine ⟨⟨6 - k, ?_⟩, fun R' q h => ?_⟩
  · rw [e]
    have c : ∀ x : Int, ratI (0 - x) = (0 : Rat) - (x : Rat) := fun x => by unfold ratI; rw [Rat.intCast_sub]; rfl
    have c2' : ∀ x y : Int, ratI (x - y) = (x : Rat) - (y : Rat) := fun x y => by unfold ratI; rw [Rat.intCast_sub]
    rcases hk with rfl | rfl | rfl | rfl
    · rw [line_2 N M v]
      show _ = [ratI (0 - M), ratI (M - N), ratI N, (0 : Rat), (0 : Rat), (0 : Rat), (0 : Rat)]
      rw [c, c2']
      rfl
    · rw [line_3 N M v]
      show _ = [ratI (0 - M), ratI (M - N), ratI 0, ratI N, (0 : Rat), (0 : Rat), (0 : Rat)]
      rw [c, c2']
      rfl
    · rw [line_4 N M v]
      show _ = [ratI (0 - M), ratI (M - N), ratI 0, ratI 0, ratI N, (0 : Rat), (0 : Rat)]
      rw [c, c2']
      rfl
    · rw [line_5 N M v]
      show _ = [ratI (0 - M), ratI (M - N), ratI 0, ratI 0, ratI 0, ratI N, (0 : Rat)]
      rw [c, c2']
      rfl
  · unfold rowI at h
    rw [List.map_append] at h
    obtain ⟨_, h2⟩ := List.append_inj' h rfl
    injection h2 with h2
    intro z
    rw [z] at h2
    have : ((N : Int) : Rat) = ((0 : Int) : Rat) := h2
    exact h0 (Rat.intCast_inj.mp this)
theorem ratI_D (l : List Int) : (l.map ratI).map ratD = l.map fun z => frD z 1 := by
  rw [List.map_map]
  refine List.map_congr_left fun z _ => ?_
  show frD (ratI z).num (ratI z).den = frD z 1
  unfold ratI
  rw [Rat.num_intCast, Rat.den_intCast]
  rfl
theorem line_none : Trim (lineR (.trm []) false) [] := by
  have ok : (R.trm []).ok := ⟨show 0 ≤ 6 from by decide, fun t ht => by cases ht⟩
  have hl : (lineR (.trm []) false).length = 7 := thru_len _
  obtain ⟨c0, c1, c2, c3, c4, c5, c6, e⟩ := seven hl
  have v := fun n => line_val ok false n
  rw [e] at v
  have z : ∀ n, linS (.trm []) false n = 0 := fun n => by
    induction n with
    | zero => rfl
    | succ n ih => show linS (.trm []) false n + 0 = 0; rw [ih]; rfl
  obtain ⟨z0, z1, z2, z3, z4, z5, z6⟩ := six0 c0 c1 c2 c3 c4 c5 c6 ((v 0).trans (by rw [z]; rfl)) ((v 1).trans (by rw [z]; rfl)) ((v 2).trans (by rw [z]; rfl)) ((v 3).trans (by rw [z]; rfl)) ((v 4).trans (by rw [z]; rfl)) ((v 5).trans (by rw [z]; rfl)) ((v 6).trans (by rw [z]; rfl))
  refine ⟨⟨7, ?_⟩, fun R' q h => by cases R' <;> cases h⟩
  rw [e, z0, z1, z2, z3, z4, z5, z6]
  rfl

/-! ### k07: sure sums of great heaps -/
theorem chF_le : ∀ n : Fin 6, ∀ j : Fin 6, (chF (n.val : Int) j.val).natAbs ≤ 2 ^ 10 := by decide
theorem chF_sm {n j : Nat} (hn : n < 6) (hj : j < 6) : (chF (n : Int) j).natAbs ≤ 2 ^ 10 := chF_le ⟨n, hn⟩ ⟨j, hj⟩
def sp__law_choose (Γ : Gm) : Sp := fun vs H Q _ => ∃ n k : Nat, vs = [.int n, .int k] ∧ n < 6 ∧ k < 6 ∧ Q (.int (chF n k)) H
/-- law_choose: _law_n, _law_k, _law_found, _law_at -/
def t__law_choose (Γ : Gm) : TS := (tSeq (tAsg (tC (.int 1)) (gName 2))
  (tSeq (tFor (iRng1 (tCons (tVar 1) tNil)) (gName 3) (tAsg (tOp rDivI (tOp (rMulU Γ.K) (tVar 2) (tOp rSubI (tVar 0) (tVar 3))) (tOp (rAddU Γ.K) (tVar 3) (tC (.int 1)))) (gName 2)))
  (tRet (tVar 2))))
theorem rd__law_choose (Γ : Gm) (vs : List V) (H : Hp) (Q : VK) (E : XK) (h : sp__law_choose Γ vs H Q E) : t__law_choose Γ ⟨fun _ H' => Q .non H', Q, fun _ _ => False, fun _ _ => False⟩ (startN 4 vs) H := by
  obtain ⟨n, k, rfl, hn, hk, q⟩ := h
  unfold t__law_choose
  walk_at "ss"
  refine k_rng1 (by omega) ?_
  rw [Int.toNat_natCast]
  refine k_range (fun i σ H' => ∃ x3, σ = [some (.int n), some (.int k), some (.int (chF n i)), x3] ∧ H' = H) ⟨none, rfl, rfl⟩ ?_ ?_
  · rintro i σ H' hi ⟨x3, rfl, rfl⟩
    walk_at "ss"
    refine w_mulI (cmul_of (m := 10) (n := 10) (chF_sm hn (by omega)) (by omega)) ?_
    walk_at "ss"
    refine w_divI ⟨by omega, by
      have := log2_le (n := (0 + (i : Int) + 1).natAbs) (k := 10) (by omega)
      omega⟩ ?_
    walk_at "ss"
    refine ⟨some (.int (0 + (i : Int))), ?_, rfl⟩
    rw [Int.zero_add]
    rfl
  · rintro σ H' ⟨x3, rfl, rfl⟩
    walk_at "ss"
    exact q
theorem pow_sm {b : Int} {m : Nat} (hb : b.natAbs ≤ 2 ^ m) (i : Nat) : (b ^ i).natAbs ≤ 2 ^ (m * i) := by
  rw [Int.natAbs_pow, Nat.pow_mul]
  exact Nat.pow_le_pow_left hb i
def sp__law_power (Γ : Gm) : Sp := fun vs H Q _ => ∃ (b : Int) (k : Nat), vs = [.int b, .int k] ∧ b.natAbs ≤ 2 ^ 100 ∧ k < 6 ∧ Q (.int (b ^ k)) H
/-- law_power: _law_base, _law_times_so, _law_found, _law_lap -/
def t__law_power (Γ : Gm) : TS := (tSeq (tAsg (tC (.int 1)) (gName 2))
  (tSeq (tFor (iRng1 (tCons (tVar 1) tNil)) (gName 3) (tAsg (tOp (rMulU Γ.K) (tVar 2) (tVar 0)) (gName 2)))
  (tRet (tVar 2))))
theorem rd__law_power (Γ : Gm) (vs : List V) (H : Hp) (Q : VK) (E : XK) (h : sp__law_power Γ vs H Q E) : t__law_power Γ ⟨fun _ H' => Q .non H', Q, fun _ _ => False, fun _ _ => False⟩ (startN 4 vs) H := by
  obtain ⟨b, k, rfl, hb, hk, q⟩ := h
  unfold t__law_power
  walk_at "ss"
  refine k_rng1 (by omega) ?_
  rw [Int.toNat_natCast]
  refine k_range (fun i σ H' => ∃ x3, σ = [some (.int b), some (.int k), some (.int (b ^ i)), x3] ∧ H' = H) ⟨none, by rw [Int.pow_zero]; rfl, rfl⟩ ?_ ?_
  · rintro i σ H' hi ⟨x3, rfl, rfl⟩
    walk_at "ss"
    refine w_mulI (cmul_of (m := 100 * i) (n := 100) (pow_sm hb i) hb) ?_
    walk_at "ss"
    refine ⟨some (.int (0 + (i : Int))), ?_, rfl⟩
    rw [Int.pow_succ]
    rfl
  · rintro σ H' ⟨x3, rfl, rfl⟩
    walk_at "ss"
    exact q
theorem flat_row : ∀ l : List Int, flatAll 44 (l.map fun z => frD z 1) = true
  | [] => by unfold List.map flatAll; rfl
  | z :: l => by rw [List.map_cons]; unfold flatAll; rw [flat_row l]; rfl
theorem rep_flat {α : Type} (x : α) : ∀ n : Nat, (List.replicate n [x]).flatten = List.replicate n x := rep_one x
/-- law: _law_script, _law_d, _law_turn, _law_k, _law_number, _law_terms, _law_more, _law_rule, _law_heap, _law_due, _law_i -/
def t_law_k07 (Γ : Gm) : TS := (tSeq (tAsg (tCal (sp__law_random Γ) E0 (tCons (tVar 0) (tCons (tC (.int 2807)) tNil))) (gName 1))
  (tSeq (tFor (iRng1 (tCons (tC (.int 3)) tNil)) (gName 2) (tSeq (tAsg (tTup (tCons (tOp (rAddU Γ.K) (tC (.int 2)) (tCal (sp__law_below Γ) E0 (tCons (tVar 1) (tCons (tC (.int 4)) tNil)))) (tCons (tCal (sp__law_pick Γ) E0 (tCons (tVar 1) (tCons (tLst (tCons (tC (.int 1)) (tCons (tUn (rU fun i => .int (-i)) (tC (.int 3))) (tCons (tC (.int 50)) (tCons (tOp (rAddU Γ.K) (tC (.int 1)) (tCal (sp__law_below Γ) E0 (tCons (tVar 1) (tCons (tC (.int 999)) tNil)))) tNil))))) tNil))) tNil))) (gTup Γ.K 2 (gCons (gName 3) (gCons (gName 4) gNil))))
  (tSeq (tAsg (tLc (iRng2 (tCons (tC (.int 1)) (tCons (tVar 3) tNil))) (gName 10) tYes (tTup (tCons (tOp (rMulU Γ.K) (tVar 4) (tCal (sp__law_choose Γ) E0 (tCons (tVar 3) (tCons (tVar 10) tNil)))) (tCons (tVar 10) (tCons (tOp rSubI (tVar 3) (tVar 10)) tNil)))) [10]) (gName 5))
  (tSeq (tAsg (tOp rSubI (tCal (sp__law_below Γ) E0 (tCons (tVar 1) (tCons (tC (.int 100)) tNil))) (tC (.int 50))) (gName 6))
  (tSeq (tAsg (tMak Γ.cRule (sp_RuleU_initU Γ) E0 (tCons (tC (.str "terms")) (tCons (tCB (rTupOf Γ.K) (tCons (tOp (rAddU Γ.K) (tVar 5) (tLst (tCons (tTup (tCons (tVar 6) (tCons (tC (.int 0)) (tCons (tC (.int 0)) tNil)))) tNil))) tNil)) tNil))) (gName 7))
  (tSeq (tAsg (tCal (sp__law_pick Γ) E0 (tCons (tVar 1) (tCons (tLst (tCons (tOp (rAddU Γ.K) (tC (.int 1)) (tCal (sp__law_below Γ) E0 (tCons (tVar 1) (tCons (tOp rPowI (tC (.int 10)) (tC (.int 6))) tNil)))) (tCons (tOp rPowI (tC (.int 10)) (tC (.int 30))) (tCons (tOp (rAddU Γ.K) (tOp rPowI (tC (.int 10)) (tC (.int 15))) (tCal (sp__law_below Γ) E0 (tCons (tVar 1) (tCons (tOp rPowI (tC (.int 10)) (tC (.int 6))) tNil)))) tNil)))) tNil))) (gName 8))
  (tSeq (tAsg (tOp (rAddU Γ.K) (tOp (rMulU Γ.K) (tVar 4) (tOp rSubI (tCal (sp__law_power Γ) E0 (tCons (tVar 8) (tCons (tVar 3) tNil))) (tVar 8))) (tOp (rMulU Γ.K) (tVar 6) (tOp rSubI (tVar 8) (tC (.int 1))))) (gName 9))
  (tSeq (tIfS (tOr (tNot (tB (tCal (sp_is_sure Γ) E0 (tCons (tVar 7) tNil)))) (tNot (tB (tCal (sp__law_equal Γ) E0 (tCons (tCal (sp_sure_sum Γ) E0 (tCons (tVar 7) (tCons (tVar 8) tNil))) (tCons (tVar 9) tNil)))))) (tRet (tC (.bl false))) tNext)
  (tSeq (tAsg (tOp (rAddU Γ.K) (tOp (rAddU Γ.K) (tLst (tCons (tTup (tCons (tOp rSubI (tC (.int 0)) (tVar 6)) (tCons (tC (.int 1)) tNil))) (tCons (tTup (tCons (tOp rSubI (tVar 6) (tVar 4)) (tCons (tC (.int 1)) tNil))) tNil))) (tOp (rMulU Γ.K) (tLst (tCons (tTup (tCons (tC (.int 0)) (tCons (tC (.int 1)) tNil))) tNil)) (tOp rSubI (tVar 3) (tC (.int 2))))) (tLst (tCons (tTup (tCons (tVar 4) (tCons (tC (.int 1)) tNil))) tNil))) (gName 9))
  (tIfS (tNot (tB (tCal (sp__law_equal Γ) E0 (tCons (tCal (sp_formula Γ) E0 (tCons (tVar 7) tNil)) (tCons (tCB (rTupOf Γ.K) (tCons (tVar 9) tNil)) tNil))))) (tRet (tC (.bl false))) tNext))))))))))
  (tRet (tAndV (tCal (sp__law_equal Γ) E0 (tCons (tCal (sp_formula Γ) E0 (tCons (tMak Γ.cRule (sp_RuleU_initU Γ) E0 (tCons (tC (.str "terms")) (tCons (tTup tNil) tNil))) tNil)) (tCons (tTup tNil) tNil))) (tCal (sp__law_equal Γ) E0 (tCons (tCal (sp_sure_sum Γ) E0 (tCons (tMak Γ.cRule (sp_RuleU_initU Γ) E0 (tCons (tC (.str "terms")) (tCons (tTup tNil) tNil))) (tCons (tOp rPowI (tC (.int 10)) (tC (.int 30))) tNil))) (tCons (tC (.int 0)) tNil)))))))
theorem rd_law_k07 (Γ : Gm) (vs : List V) (H : Hp) (Q : VK) (E : XK) (h : spLaw Γ.K vs H Q E) : t_law_k07 Γ ⟨fun _ H' => Q .non H', Q, fun _ _ => False, fun _ _ => False⟩ (startN 11 vs) H := by
  obtain ⟨a, ns, rfl, hS, hl, k⟩ := h
  unfold t_law_k07
  walk_at "ss"
  refine ⟨a, ns, 2807, rfl, hS, hl, by decide, by decide, fun d H1 hd0 e1 hd => ?_⟩
  walk_at "ss"
  refine k_rng1 (by decide) ?_
  refine k_range (fun i σ H' => ∃ x2 x3 x4 x5 x6 x7 x8 x9 x10, σ = [some (.ref a), some (.ref d), x2, x3, x4, x5, x6, x7, x8, x9, x10] ∧ Same H1 H') ⟨none, none, none, none, none, none, none, none, none, rfl, Same.refl H1⟩ ?_ ?_
  · rintro i σ H2 hi ⟨x2, x3, x4, x5, x6, x7, x8, x9, x10, rfl, e2⟩
    walk_at "ss"
    refine ⟨d, 4, rfl, e2 _ _ hd, by decide, by decide, fun q q1 q2 => ?_⟩
    walk_at "ss"
    refine ⟨d, 999, rfl, e2 _ _ hd, by decide, by decide, fun q3 q4 q5 => ?_⟩
    walk_at "ss"
    refine n_lst fun L3 H3 f3 e3 g3 => ?_
    walk_at "ss"
    have e23 := e2.trans e3
    refine ⟨d, L3, _, rfl, e23 _ _ hd, SqL.of g3, (show 0 < 4 from by decide), (show 4 ≤ 100000 from by decide), fun jx x hx => ?_⟩
    obtain ⟨N, rfl, N0, N1, N2⟩ : ∃ N : Int, x = .int N ∧ N ≠ 0 ∧ -1000 ≤ N ∧ N ≤ 1000 := by
      have := List.mem_of_getElem? hx
      simp only [List.mem_cons, List.not_mem_nil, or_false] at this
      rcases this with rfl | rfl | rfl | rfl
      · exact ⟨_, rfl, by decide, by decide, by decide⟩
      · exact ⟨_, rfl, by decide, by decide, by decide⟩
      · exact ⟨_, rfl, by decide, by decide, by decide⟩
      · exact ⟨_, rfl, by omega, by omega, by omega⟩
    walk_at "ss"
    refine n_tup fun t4 H4 f4 e4 g4 => ?_
    refine w_gTup (SqT.of g4) rfl ?_
    walk_at "ss"
    obtain ⟨kk, hkk⟩ : ∃ kk : Nat, (kk : Int) = 2 + q := ⟨(2 + q).toNat, by omega⟩
    rw [← hkk]
    have hk : kOk kk := by unfold kOk; omega
    have k5 : kk < 6 := by omega
    have k2 : 2 ≤ kk := by omega
    refine k_rng2 (by omega) ?_
    refine k_lcRange (fun j acc H' => TpAll H' acc ((List.range j).map fun j => .tuple ((tri (N * chF kk (j + 1), j + 1, kk - (j + 1))).map PyData.int))) (fun H' e => .nil) ?_ ?_
    · rintro j D acc H5 hj hD e5 hacc tacc
      have hj' : j < kk - 1 := by omega
      walk_at "ss"
      refine ⟨rfl, ?_⟩
      walk_at "ss"
      rw [show (1 : Int) + (j : Int) = ((j + 1 : Nat) : Int) by omega]
      refine ⟨kk, j + 1, rfl, k5, by omega, ?_⟩
      walk_at "ss"
      refine w_mulI (cmul_of (m := 10) (n := 10) (by omega) (chF_sm k5 (by omega))) ?_
      walk_at "ss"
      refine n_tup fun t6 H6 f6 e6 g6 => ?_
      have hacc6 := e6 _ _ hacc
      have uD : ∀ ys, Tups H6 (upd H6 D (.lst ys)) := fun ys => (Same.refl H6).tups.upd (fun xs z => by rw [hacc6] at z; cases z)
      have al := tacc.length
      rw [List.length_map, List.length_range] at al
      refine lcTurn.mk hD (e5.trans e6) hacc6 (by omega) ?_
      rw [List.range_succ, List.map_append]
      refine ((tacc.mono e6.tups).mono (uD _)).append (.cons ?_ .nil)
      refine .tup (uD _ _ _ g6) (.cons (.int _) (.cons (.int _) (.cons ?_ .nil)))
      have e : ((kk : Int) - ((j + 1 : Nat) : Int)) = ((kk - (j + 1) : Nat) : Int) := by omega
      rw [e]
      exact .int _
    rintro D acc H5 hD e5 hacc tacc
    rw [show ((kk : Int) - 1).toNat = kk - 1 by omega] at tacc
    have al := tacc.length
    rw [List.length_map, List.length_range] at al
    walk_at "ss"
    have e25 := e23.trans (e4.trans e5)
    refine ⟨d, 100, rfl, e25 _ _ hd, by decide, by decide, fun m m1 m2 => ?_⟩
    walk_at "ss"
    obtain ⟨M, hM⟩ : ∃ M : Int, M = m - 50 := ⟨_, rfl⟩
    rw [← hM]
    refine n_tup fun t6 H6 f6 e6 g6 => ?_
    walk_at "ss"
    refine n_lst fun l7 H7 f7 e7 g7 => ?_
    refine w_addL ((e6.trans e7) _ _ hacc) g7 (by rw [al]; show _ + 1 ≤ _; exact Nat.le_trans (show kk - 1 + 1 ≤ 100 by omega) (by decide)) fun l8 H8 f8 e8 g8 => ?_
    walk_at "ss"
    refine w_tupL (SqL.of g8) fun t9 H9 f9 e9 g9 => ?_
    walk_at "ss"
    have e59 := e6.trans (e7.trans (e8.trans e9))
    have ok := tsK_ok hk (N := N) (M := M) ⟨N1, N2⟩ ⟨by omega, by omega⟩
    have tv : Tp H9 (.ref t9) (R.trm (tsK kk N M)).body := by
      refine .tup g9 ?_
      unfold tsK
      rw [List.map_append, List.map_map]
      refine (tacc.mono e59.tups).append (.cons (.tup ((e7.trans (e8.trans e9)) _ _ g6) ?_) .nil)
      exact .cons (.int M) (.cons (.int 0) (.cons (.int 0) .nil))
    refine w_mkRule (R.trm (tsK kk N M)) tv ok (ruleOf_body ok) fun p HA eA hr => ?_
    walk_at "ss"
    have e2A := e25.trans (e59.trans eA)
    have cl := tsK_clash hk N M
    refine w_powI ⟨by decide, by decide, by decide⟩ ?_
    walk_at "ss"
    refine ⟨d, 1000000, rfl, e2A _ _ hd, by decide, by decide, fun u1 u2 u3 => ?_⟩
    walk_at "ss"
    refine w_powI ⟨by decide, by decide, by decide⟩ ?_
    walk_at "ss"
    refine w_powI ⟨by decide, by decide, by decide⟩ ?_
    walk_at "ss"
    refine w_powI ⟨by decide, by decide, by decide⟩ ?_
    walk_at "ss"
    refine ⟨d, 1000000, rfl, e2A _ _ hd, by decide, by decide, fun u4 u5 u6 => ?_⟩
    walk_at "ss"
    refine n_lst fun LB HB fB eB gB => ?_
    walk_at "ss"
    have e2B := e2A.trans eB
    refine ⟨d, LB, _, rfl, e2B _ _ hd, SqL.of gB, (show 0 < 3 from by decide), (show 3 ≤ 100000 from by decide), fun jy y hy => ?_⟩
    obtain ⟨n, rfl, n1, n2⟩ : ∃ n : Nat, y = .int ((n + 1 : Nat) : Int) ∧ 1 ≤ n + 1 ∧ ((n + 1 : Nat) : Int) ≤ 1000000000000000000000000000000 := by
      have key : ∀ z : Int, 1 ≤ z → z ≤ 1000000000000000000000000000000 → ∃ n : Nat, V.int z = .int ((n + 1 : Nat) : Int) ∧ 1 ≤ n + 1 ∧ ((n + 1 : Nat) : Int) ≤ 1000000000000000000000000000000 := fun z h1 h2 => by
        obtain ⟨w, rfl⟩ := Int.eq_ofNat_of_zero_le (show 0 ≤ z by omega)
        refine ⟨w - 1, ?_, by omega, by omega⟩
        rw [show w - 1 + 1 = w by omega]
      have := List.mem_of_getElem? hy
      simp only [List.mem_cons, List.not_mem_nil, or_false] at this
      rcases this with rfl | rfl | rfl
      · exact key _ (by omega) (by omega)
      · exact key _ (by decide) (by decide)
      · refine key _ ?_ ?_
        · show (1 : Int) ≤ 1000000000000000 + u4
          omega
        · show (1000000000000000 : Int) + u4 ≤ _
          omega
    have nb : (((n + 1 : Nat)) : Int).natAbs ≤ 2 ^ 100 := by
      rw [Int.natAbs_natCast]
      have : n + 1 ≤ 1000000000000000000000000000000 := by omega
      exact Nat.le_trans this (by decide)
    walk_at "ss"
    refine ⟨((n + 1 : Nat) : Int), kk, rfl, nb, k5, ?_⟩
    walk_at "ss"
    have pb := pow_sm nb kk
    have pb2 : ((((n + 1 : Nat)) : Int) ^ kk - ((n + 1 : Nat) : Int)).natAbs ≤ 2 ^ 501 := by
      have h1 : (((((n + 1 : Nat)) : Int) ^ kk)).natAbs ≤ 2 ^ 500 := Nat.le_trans pb (Nat.pow_le_pow_right (by decide) (by omega))
      have h2 : (((n + 1 : Nat)) : Int).natAbs ≤ 2 ^ 500 := Nat.le_trans nb (Nat.pow_le_pow_right (by decide) (by decide))
      have h3 : (2 : Nat) ^ 501 = 2 ^ 500 + 2 ^ 500 := by rw [Nat.pow_succ]; omega
      rw [h3]
      generalize (2 : Nat) ^ 500 = B at h1 h2 ⊢
      omega
    have nN : N.natAbs ≤ 2 ^ 10 := by omega
    have nM : M.natAbs ≤ 2 ^ 10 := by omega
    have nb3 : ((((n + 1 : Nat)) : Int) - 1).natAbs ≤ 2 ^ 100 := by
      have : ((((n + 1 : Nat)) : Int) - 1).natAbs ≤ 1000000000000000000000000000000 := by omega
      exact Nat.le_trans this (by decide)
    refine w_mulI (cmul_of (m := 10) (n := 501) nN pb2) ?_
    walk_at "ss"
    have rB := hr.mono eB
    refine ⟨.ref p, _, rfl, rB, fun HC eC => ?_⟩
    rw [cl]
    walk_at "ss"
    refine w_ifN rfl ?_
    walk_at "ss"
    have e2C := e2B.trans eC
    refine ⟨.ref p, _, n + 1, rfl, rB.mono eC, by omega, n2, (fun t z => by rw [cl] at z; cases z), fun HD eD => ?_⟩
    rw [tsK_lin hk N M (n + 1 - 1), Nat.add_sub_cancel]
    have ed : N * (((n : Int) + 1) ^ kk - ((n : Int) + 1)) + M * (n : Int) = N * ((((n + 1 : Nat)) : Int) ^ kk - ((n + 1 : Nat) : Int)) + M * (((n + 1 : Nat) : Int) - 1) := by
      rw [show (((n + 1 : Nat)) : Int) = (n : Int) + 1 by omega, show (n : Int) + 1 - 1 = n by omega]
    rw [ed]
    walk_at "ss"
    refine w_equal (.int _) (.int _) rfl fun HE eE => ?_
    have e2E := e2C.trans (eD.trans eE)
    walk_at "ss"
    refine n_tup fun tF HF fF eF gF => ?_
    walk_at "ss"
    refine n_tup fun tG HG fG eG gG => ?_
    walk_at "ss"
    refine n_lst fun lH HH fH eH gH => ?_
    walk_at "ss"
    refine n_tup fun tI HI fI eI gI => ?_
    walk_at "ss"
    refine n_lst fun lJ HJ fJ eJ gJ => ?_
    walk_at "ss"
    refine w_rep gJ (by omega) (by omega) (show 1 ≤ 100 from by decide) fun lK HK fK eK gK => ?_
    rw [rep_flat, show ((kk : Int) - 2).toNat = kk - 2 by omega] at gK
    refine w_addL ((eI.trans (eJ.trans eK)) _ _ gH) gK (by rw [List.length_replicate]; show 2 + _ ≤ _; exact Nat.le_trans (show 2 + (kk - 2) ≤ 100 by omega) (by decide)) fun lL HL fL eL gL => ?_
    walk_at "ss"
    refine n_tup fun tM HM fM eM gM => ?_
    walk_at "ss"
    refine n_lst fun lN HN fN eN gN => ?_
    refine w_addL ((eM.trans eN) _ _ gL) gN (by rw [List.length_append, List.length_replicate]; show 2 + _ + 1 ≤ _; exact Nat.le_trans (show 2 + (kk - 2) + 1 ≤ 100 by omega) (by decide)) fun lO HO fO eO gO => ?_
    walk_at "ss"
    have eEO := eF.trans (eG.trans (eH.trans (eI.trans (eJ.trans (eK.trans (eL.trans (eM.trans (eN.trans eO))))))))
    have rO := (rB.mono (eC.trans (eD.trans eE))).mono eEO
    refine ⟨.ref p, _, rfl, rO, ⟨(fun ⟨rows, z⟩ => by cases z), (fun ts' z hc H5 e5 => absurd cl (by cases z; exact hc)), fun ts' z hc t xs R HP eP gt tt tr => ?_⟩⟩
    cases z
    have eR := tr.uniq (row_trim hk ⟨N1, N2⟩ ⟨by omega, by omega⟩ N0)
    subst eR
    rw [ratI_D] at tt
    walk_at "ss"
    refine w_tupL (SqL.of (eP _ _ gO)) fun tQ HQ fQ eQ gQ => ?_
    have td : TpAll HO ([V.ref tF, V.ref tG] ++ List.replicate (kk - 2) (V.ref tI) ++ [V.ref tM]) ((rowI kk N M).map fun z => frD z 1) := by
      unfold rowI
      rw [List.map_append, List.map_append, List.map_replicate]
      refine ((TpAll.cons (fr_mk ((eG.trans (eH.trans (eI.trans (eJ.trans (eK.trans (eL.trans (eM.trans (eN.trans eO)))))))) _ _ gF)) (.cons (fr_mk ((eH.trans (eI.trans (eJ.trans (eK.trans (eL.trans (eM.trans (eN.trans eO))))))) _ _ gG)) .nil)).append (rep_tp (fr_mk ((eJ.trans (eK.trans (eL.trans (eM.trans (eN.trans eO))))) _ _ gI)) _)).append (.cons (fr_mk ((eN.trans eO) _ _ gM)) .nil)
    have rl : (rowI kk N M).length = kk + 1 := by
      unfold rowI
      rw [List.length_append, List.length_append, List.length_replicate]
      show 2 + (kk - 2) + 1 = _
      omega
    refine w_equal (d := .tuple ((rowI kk N M).map fun z => frD z 1)) (Dv.tup (eQ _ _ gt) (tt.mono eQ.tups).dv) (.tup gQ ((td.mono eP.tups).mono eQ.tups).dv) (by
      unfold flatN
      rw [flat_row, List.length_map, rl, decide_eq_true (show kk + 1 ≤ 100000 by omega)]
      rfl) fun HR eR => ?_
    walk_at "ss"
    exact ⟨_, _, _, _, _, _, _, _, _, rfl, e2E.trans (eEO.trans (eP.trans (eQ.trans eR)))⟩
  · rintro σ H2 ⟨x2, x3, x4, x5, x6, x7, x8, x9, x10, rfl, e2⟩
    walk_at "ss"
    refine n_tup fun t3 H3 f3 e3 g3 => ?_
    walk_at "ss"
    have ok0 : (R.trm []).ok := ⟨show 0 ≤ 6 from by decide, fun t ht => by cases ht⟩
    refine w_mkRule (R.trm []) (.tup g3 .nil) ok0 (ruleOf_body ok0) fun p H4 e4 hr => ?_
    walk_at "ss"
    have cl0 : (R.trm []).clash = none := List.find?_eq_none.mpr fun t _ => by
      have e : evenT (.trm []) t.1 t.2.1 t.2.2 = true := rfl
      rw [e]
      decide
    refine ⟨.ref p, _, rfl, hr, ⟨(fun ⟨rows, z⟩ => by cases z), (fun ts' z hc H5 e5 => absurd cl0 (by cases z; exact hc)), fun ts' z hc t xs R H5 e5 gt tt tr => ?_⟩⟩
    cases z
    have eR := tr.uniq line_none
    subst eR
    walk_at "ss"
    refine n_tup fun t6 H6 f6 e6 g6 => ?_
    refine w_equal (d := .tuple []) (Dv.tup (e6 _ _ gt) (tt.mono e6.tups).dv) (.tup g6 .nil) rfl fun H7 e7 => ?_
    walk_at "ss"
    refine n_tup fun t8 H8 f8 e8 g8 => ?_
    walk_at "ss"
    refine w_mkRule (R.trm []) (.tup g8 .nil) ok0 (ruleOf_body ok0) fun p9 H9 e9 hr9 => ?_
    walk_at "ss"
    refine w_powI ⟨by decide, by decide, by decide⟩ ?_
    walk_at "ss"
    refine ⟨.ref p9, _, 1000000000000000000000000000000, rfl, hr9, by decide, by decide, (fun t z => by rw [cl0] at z; cases z), fun HA eA => ?_⟩
    have z : ∀ n, linS (.trm []) false n = 0 := fun n => by
      induction n with
      | zero => rfl
      | succ n ih => show linS (.trm []) false n + 0 = 0; rw [ih]; rfl
    rw [z]
    walk_at "ss"
    refine w_equal (.int _) (.int _) rfl fun HB eB => ?_
    exact k HB


/-- a def of the top -/
def DefAt (K : PySem.W.Frag) (mg : Str → Option Value) (x qual : Str) (st : Stmt) : Prop := ∃ (f : Addr) (fd : FuncData), mg x = some (.ref f) ∧ Fun K x qual st f fd
def FunAt (K : PySem.W.Frag) (x qual : Str) (st : Stmt) (f : Addr) : Prop := ∃ fd : FuncData, Fun K x qual st f fd
theorem def_mk {K : PySem.W.Frag} {h : Heap} {mg : Str → Option Value} {x qual : Str} {st : Stmt} {f : Addr} {oc : Value} {od an : Option Addr} {osl : Array (Option Value)} {kV doc pm cdv ct : Value} (X : K.In h) (G : h.Ns mainGlobals mg)
    (a : PySem.W.nsIn K mainGlobals x = some (some (.ref f))) (l : K.lookup f = some ⟨oc, od, .func (PySem.W.fnOf x qual (defArgs st) (defBody st) (defScope st) .none kV doc pm an cdv ct), osl⟩)
    (c : PySem.W.codeIn K cdv qual = true) (k : PySem.W.keepIn K (.ref f) = true) : DefAt K mg x qual st := ⟨f, _, PySem.W.mg_of X G a, fun_mk l c k⟩
/-- is an error of the class at C one that «except S» names -/
theorem exm_of {K : PySem.W.Frag} {C S : Addr} {b : Bool} (h1 : PySem.W.subIn K (.ref S) (.type "BaseException") = some true) (h2 : PySem.W.isClsIn K S = true) (h3 : PySem.W.typeIn K (.ref S) = some (.type "type")) (h4 : PySem.W.subIn K (.ref C) (.ref S) = some b) :
    PySem.W.exmOne K (.ref C) (.ref S) = some b := by
  have e1 : (PySem.W.subIn K (.ref S) (.type "BaseException") == some true) = true := by rw [h1] <;> rfl
  have e2 : ((PySem.W.clsIn K S).isSome && PySem.W.typeIn K (.ref S) == some (.type "type")) = true := by
    have h2' : (PySem.W.clsIn K S).isSome = true := h2
    rw [h2', h3] <;> rfl
  show (if (PySem.W.subIn K (.ref S) (.type "BaseException") == some true) = true then (if ((PySem.W.clsIn K S).isSome && PySem.W.typeIn K (.ref S) == some (.type "type")) = true then PySem.W.subIn K (.ref C) (.ref S) else none) else none) = some b
  rw [if_pos e1, if_pos e2]
  exact h4
theorem funat_mk {K : PySem.W.Frag} {x qual : Str} {st : Stmt} {f : Addr} {oc : Value} {od an : Option Addr} {osl : Array (Option Value)} {kV doc pm cdv ct : Value}
    (l : K.lookup f = some ⟨oc, od, .func (PySem.W.fnOf x qual (defArgs st) (defBody st) (defScope st) .none kV doc pm an cdv ct), osl⟩)
    (c : PySem.W.codeIn K cdv qual = true) (k : PySem.W.keepIn K (.ref f) = true) : FunAt K x qual st f := ⟨_, fun_mk l c k⟩
/-! ### the text by places -/
def top (i : Nat) : Stmt := PySem.Challenge.pw_splitpoints_k07_great_sure_sums.main.body.getD i (.Pass ⟨0, 0, 0, 0⟩)
abbrev s_is_integer : Stmt := top 12
abbrev N_is_integer : List Str := ["value"]
theorem sc_is_integer : FnScope N_is_integer ["value"] (defScope s_is_integer) := ⟨rfl, rfl, rfl, by decide +kernel, rfl, by decide +kernel, by decide +kernel⟩
theorem b_is_integer {K : PySem.W.Frag} {f : Addr} {fd : FuncData} (F : Fun K "is_integer" "is_integer" s_is_integer f fd) : Binds K fd ["value"] [] := F.binds (ps := ["value"]) fun _ _ _ _ _ _ us hl => match us, hl with | [_], _ => rfl
abbrev s_is_from : Stmt := top 13
abbrev N_is_from : List Str := ["value", "low", "high"]
theorem sc_is_from : FnScope N_is_from ["value", "low", "high"] (defScope s_is_from) := ⟨rfl, rfl, rfl, by decide +kernel, rfl, by decide +kernel, by decide +kernel⟩
theorem b_is_from {K : PySem.W.Frag} {f : Addr} {fd : FuncData} (F : Fun K "is_from" "is_from" s_is_from f fd) : Binds K fd ["value", "low", "high"] [] := F.binds (ps := ["value", "low", "high"]) fun _ _ _ _ _ _ us hl => match us, hl with | [_, _, _], _ => rfl
abbrev s_are_rows : Stmt := top 14
abbrev N_are_rows : List Str := ["value", "index", "row", "number"]
theorem sc_are_rows : FnScope N_are_rows ["value"] (defScope s_are_rows) := ⟨rfl, rfl, rfl, by decide +kernel, rfl, by decide +kernel, by decide +kernel⟩
theorem b_are_rows {K : PySem.W.Frag} {f : Addr} {fd : FuncData} (F : Fun K "are_rows" "are_rows" s_are_rows f fd) : Binds K fd ["value"] [] := F.binds (ps := ["value"]) fun _ _ _ _ _ _ us hl => match us, hl with | [_], _ => rfl
abbrev s_is_term : Stmt := top 15
abbrev N_is_term : List Str := ["value"]
theorem sc_is_term : FnScope N_is_term ["value"] (defScope s_is_term) := ⟨rfl, rfl, rfl, by decide +kernel, rfl, by decide +kernel, by decide +kernel⟩
theorem b_is_term {K : PySem.W.Frag} {f : Addr} {fd : FuncData} (F : Fun K "is_term" "is_term" s_is_term f fd) : Binds K fd ["value"] [] := F.binds (ps := ["value"]) fun _ _ _ _ _ _ us hl => match us, hl with | [_], _ => rfl
abbrev s_are_terms : Stmt := top 16
abbrev N_are_terms : List Str := ["value", "term"]
theorem sc_are_terms : FnScope N_are_terms ["value"] (defScope s_are_terms) := ⟨rfl, rfl, rfl, by decide +kernel, rfl, by decide +kernel, by decide +kernel⟩
theorem b_are_terms {K : PySem.W.Frag} {f : Addr} {fd : FuncData} (F : Fun K "are_terms" "are_terms" s_are_terms f fd) : Binds K fd ["value"] [] := F.binds (ps := ["value"]) fun _ _ _ _ _ _ us hl => match us, hl with | [_], _ => rfl
abbrev s_RuleU_initU : Stmt := inClass (top 17) 0
abbrev N_RuleU_initU : List Str := ["self", "kind", "parts"]
theorem sc_RuleU_initU : FnScope N_RuleU_initU ["self", "kind", "parts"] (defScope s_RuleU_initU) := ⟨rfl, rfl, rfl, by decide +kernel, rfl, by decide +kernel, by decide +kernel⟩
theorem b_RuleU_initU {K : PySem.W.Frag} {f : Addr} {fd : FuncData} (F : Fun K "__init__" "Rule.__init__" s_RuleU_initU f fd) : Binds K fd ["self", "kind", "parts"] [] := F.binds (ps := ["self", "kind", "parts"]) fun _ _ _ _ _ _ us hl => match us, hl with | [_, _, _], _ => rfl
abbrev s_most_of : Stmt := top 18
abbrev N_most_of : List Str := ["rule"]
theorem sc_most_of : FnScope N_most_of ["rule"] (defScope s_most_of) := ⟨rfl, rfl, rfl, by decide +kernel, rfl, by decide +kernel, by decide +kernel⟩
theorem b_most_of {K : PySem.W.Frag} {f : Addr} {fd : FuncData} (F : Fun K "most_of" "most_of" s_most_of f fd) : Binds K fd ["rule"] [] := F.binds (ps := ["rule"]) fun _ _ _ _ _ _ us hl => match us, hl with | [_], _ => rfl
abbrev s_raised : Stmt := top 19
abbrev N_raised : List Str := ["base", "exponent", "found", "lap"]
theorem sc_raised : FnScope N_raised ["base", "exponent"] (defScope s_raised) := ⟨rfl, rfl, rfl, by decide +kernel, rfl, by decide +kernel, by decide +kernel⟩
theorem b_raised {K : PySem.W.Frag} {f : Addr} {fd : FuncData} (F : Fun K "raised" "raised" s_raised f fd) : Binds K fd ["base", "exponent"] [] := F.binds (ps := ["base", "exponent"]) fun _ _ _ _ _ _ us hl => match us, hl with | [_, _], _ => rfl
abbrev s_points_by : Stmt := top 20
abbrev N_points_by : List Str := ["rule", "first", "second", "number", "one", "other"]
theorem sc_points_by : FnScope N_points_by ["rule", "first", "second"] (defScope s_points_by) := ⟨rfl, rfl, rfl, by decide +kernel, rfl, by decide +kernel, by decide +kernel⟩
theorem b_points_by {K : PySem.W.Frag} {f : Addr} {fd : FuncData} (F : Fun K "points_by" "points_by" s_points_by f fd) : Binds K fd ["rule", "first", "second"] [] := F.binds (ps := ["rule", "first", "second"]) fun _ _ _ _ _ _ us hl => match us, hl with | [_, _, _], _ => rfl
abbrev s_check_heap : Stmt := top 21
abbrev N_check_heap : List Str := ["rule", "heap", "most"]
theorem sc_check_heap : FnScope N_check_heap ["rule", "heap", "most"] (defScope s_check_heap) := ⟨rfl, rfl, rfl, by decide +kernel, rfl, by decide +kernel, by decide +kernel⟩
theorem b_check_heap {K : PySem.W.Frag} {f : Addr} {fd : FuncData} (F : Fun K "check_heap" "check_heap" s_check_heap f fd) : Binds K fd ["rule", "heap", "most"] [] := F.binds (ps := ["rule", "heap", "most"]) fun _ _ _ _ _ _ us hl => match us, hl with | [_, _, _], _ => rfl
abbrev s_triples_of : Stmt := top 23
abbrev N_triples_of : List Str := ["rule", "most", "found", "heap", "first", "second"]
theorem sc_triples_of : FnScope N_triples_of ["rule"] (defScope s_triples_of) := ⟨rfl, rfl, rfl, by decide +kernel, rfl, by decide +kernel, by decide +kernel⟩
theorem b_triples_of {K : PySem.W.Frag} {f : Addr} {fd : FuncData} (F : Fun K "triples_of" "triples_of" s_triples_of f fd) : Binds K fd ["rule"] [] := F.binds (ps := ["rule"]) fun _ _ _ _ _ _ us hl => match us, hl with | [_], _ => rfl
abbrev s_is_even : Stmt := top 24
abbrev N_is_even : List Str := ["rule", "first", "second", "third", "left"]
theorem sc_is_even : FnScope N_is_even ["rule", "first", "second", "third"] (defScope s_is_even) := ⟨rfl, rfl, rfl, by decide +kernel, rfl, by decide +kernel, by decide +kernel⟩
theorem b_is_even {K : PySem.W.Frag} {f : Addr} {fd : FuncData} (F : Fun K "is_even" "is_even" s_is_even f fd) : Binds K fd ["rule", "first", "second", "third"] [] := F.binds (ps := ["rule", "first", "second", "third"]) fun _ _ _ _ _ _ us hl => match us, hl with | [_, _, _, _], _ => rfl
abbrev s_clash : Stmt := top 25
abbrev N_clash : List Str := ["rule", "first", "second", "third"]
theorem sc_clash : FnScope N_clash ["rule"] (defScope s_clash) := ⟨rfl, rfl, rfl, by decide +kernel, rfl, by decide +kernel, by decide +kernel⟩
theorem b_clash {K : PySem.W.Frag} {f : Addr} {fd : FuncData} (F : Fun K "clash" "clash" s_clash f fd) : Binds K fd ["rule"] [] := F.binds (ps := ["rule"]) fun _ _ _ _ _ _ us hl => match us, hl with | [_], _ => rfl
abbrev s_is_sure : Stmt := top 26
abbrev N_is_sure : List Str := ["rule"]
theorem sc_is_sure : FnScope N_is_sure ["rule"] (defScope s_is_sure) := ⟨rfl, rfl, rfl, by decide +kernel, rfl, by decide +kernel, by decide +kernel⟩
theorem b_is_sure {K : PySem.W.Frag} {f : Addr} {fd : FuncData} (F : Fun K "is_sure" "is_sure" s_is_sure f fd) : Binds K fd ["rule"] [] := F.binds (ps := ["rule"]) fun _ _ _ _ _ _ us hl => match us, hl with | [_], _ => rfl
abbrev s_lowest : Stmt := top 28
abbrev N_lowest : List Str := ["over", "under", "great", "less"]
theorem sc_lowest : FnScope N_lowest ["over", "under"] (defScope s_lowest) := ⟨rfl, rfl, rfl, by decide +kernel, rfl, by decide +kernel, by decide +kernel⟩
theorem b_lowest {K : PySem.W.Frag} {f : Addr} {fd : FuncData} (F : Fun K "lowest" "lowest" s_lowest f fd) : Binds K fd ["over", "under"] [] := F.binds (ps := ["over", "under"]) fun _ _ _ _ _ _ us hl => match us, hl with | [_, _], _ => rfl
abbrev s_plus : Stmt := top 27
abbrev N_plus : List Str := ["one", "other"]
theorem sc_plus : FnScope N_plus ["one", "other"] (defScope s_plus) := ⟨rfl, rfl, rfl, by decide +kernel, rfl, by decide +kernel, by decide +kernel⟩
theorem b_plus {K : PySem.W.Frag} {f : Addr} {fd : FuncData} (F : Fun K "plus" "plus" s_plus f fd) : Binds K fd ["one", "other"] [] := F.binds (ps := ["one", "other"]) fun _ _ _ _ _ _ us hl => match us, hl with | [_, _], _ => rfl
abbrev s_times_root : Stmt := top 29
abbrev N_times_root : List Str := ["row", "root", "found", "at", "one"]
theorem sc_times_root : FnScope N_times_root ["row", "root"] (defScope s_times_root) := ⟨rfl, rfl, rfl, by decide +kernel, rfl, by decide +kernel, by decide +kernel⟩
theorem b_times_root {K : PySem.W.Frag} {f : Addr} {fd : FuncData} (F : Fun K "times_root" "times_root" s_times_root f fd) : Binds K fd ["row", "root"] [] := F.binds (ps := ["row", "root"]) fun _ _ _ _ _ _ us hl => match us, hl with | [_, _], _ => rfl
abbrev s_through : Stmt := top 30
abbrev N_through : List Str := ["values", "found", "row", "steps", "whole", "at", "place", "one", "now", "later"]
theorem sc_through : FnScope N_through ["values"] (defScope s_through) := ⟨rfl, rfl, rfl, by decide +kernel, rfl, by decide +kernel, by decide +kernel⟩
theorem b_through {K : PySem.W.Frag} {f : Addr} {fd : FuncData} (F : Fun K "through" "through" s_through f fd) : Binds K fd ["values"] [] := F.binds (ps := ["values"]) fun _ _ _ _ _ _ us hl => match us, hl with | [_], _ => rfl
abbrev s_value_at : Stmt := top 31
abbrev N_value_at : List Str := ["row", "number", "found", "one"]
theorem sc_value_at : FnScope N_value_at ["row", "number"] (defScope s_value_at) := ⟨rfl, rfl, rfl, by decide +kernel, rfl, by decide +kernel, by decide +kernel⟩
theorem b_value_at {K : PySem.W.Frag} {f : Addr} {fd : FuncData} (F : Fun K "value_at" "value_at" s_value_at f fd) : Binds K fd ["row", "number"] [] := F.binds (ps := ["row", "number"]) fun _ _ _ _ _ _ us hl => match us, hl with | [_, _], _ => rfl
abbrev s_sums_to : Stmt := top 32
abbrev N_sums_to : List Str := ["rule", "most", "is_first", "found", "heap"]
theorem sc_sums_to : FnScope N_sums_to ["rule", "most", "is_first"] (defScope s_sums_to) := ⟨rfl, rfl, rfl, by decide +kernel, rfl, by decide +kernel, by decide +kernel⟩
theorem b_sums_to {K : PySem.W.Frag} {f : Addr} {fd : FuncData} (F : Fun K "sums_to" "sums_to" s_sums_to f fd) : Binds K fd ["rule", "most", "is_first"] [] := F.binds (ps := ["rule", "most", "is_first"]) fun _ _ _ _ _ _ us hl => match us, hl with | [_, _, _], _ => rfl
abbrev s_line_of : Stmt := top 33
abbrev N_line_of : List Str := ["rule", "is_first"]
theorem sc_line_of : FnScope N_line_of ["rule", "is_first"] (defScope s_line_of) := ⟨rfl, rfl, rfl, by decide +kernel, rfl, by decide +kernel, by decide +kernel⟩
theorem b_line_of {K : PySem.W.Frag} {f : Addr} {fd : FuncData} (F : Fun K "line_of" "line_of" s_line_of f fd) : Binds K fd ["rule", "is_first"] [] := F.binds (ps := ["rule", "is_first"]) fun _ _ _ _ _ _ us hl => match us, hl with | [_, _], _ => rfl
abbrev s_one_by_one : Stmt := top 35
abbrev N_one_by_one : List Str := ["rule", "heap", "is_first"]
theorem sc_one_by_one : FnScope N_one_by_one ["rule", "heap", "is_first"] (defScope s_one_by_one) := ⟨rfl, rfl, rfl, by decide +kernel, rfl, by decide +kernel, by decide +kernel⟩
theorem b_one_by_one {K : PySem.W.Frag} {f : Addr} {fd : FuncData} (F : Fun K "one_by_one" "one_by_one" s_one_by_one f fd) : Binds K fd ["rule", "heap", "is_first"] [] := F.binds (ps := ["rule", "heap", "is_first"]) fun _ _ _ _ _ _ us hl => match us, hl with | [_, _, _], _ => rfl
abbrev s_formula : Stmt := top 34
abbrev N_formula : List Str := ["rule", "row"]
theorem sc_formula : FnScope N_formula ["rule"] (defScope s_formula) := ⟨rfl, rfl, rfl, by decide +kernel, rfl, by decide +kernel, by decide +kernel⟩
theorem b_formula {K : PySem.W.Frag} {f : Addr} {fd : FuncData} (F : Fun K "formula" "formula" s_formula f fd) : Binds K fd ["rule"] [] := F.binds (ps := ["rule"]) fun _ _ _ _ _ _ us hl => match us, hl with | [_], _ => rfl
abbrev s_sure_sum : Stmt := top 36
abbrev N_sure_sum : List Str := ["rule", "heap", "told"]
theorem sc_sure_sum : FnScope N_sure_sum ["rule", "heap"] (defScope s_sure_sum) := ⟨rfl, rfl, rfl, by decide +kernel, rfl, by decide +kernel, by decide +kernel⟩
theorem b_sure_sum {K : PySem.W.Frag} {f : Addr} {fd : FuncData} (F : Fun K "sure_sum" "sure_sum" s_sure_sum f fd) : Binds K fd ["rule", "heap"] [] := F.binds (ps := ["rule", "heap"]) fun _ _ _ _ _ _ us hl => match us, hl with | [_, _], _ => rfl
abbrev s__law_random : Stmt := top 38
abbrev N__law_random : List Str := ["_law_script", "_law_salt", "_law_seed", "_law_cell"]
theorem sc__law_random : FnScope N__law_random ["_law_script", "_law_salt"] (defScope s__law_random) := ⟨rfl, rfl, rfl, by decide +kernel, rfl, by decide +kernel, by decide +kernel⟩
theorem b__law_random {K : PySem.W.Frag} {f : Addr} {fd : FuncData} (F : Fun K "_law_random" "_law_random" s__law_random f fd) : Binds K fd ["_law_script", "_law_salt"] [] := F.binds (ps := ["_law_script", "_law_salt"]) fun _ _ _ _ _ _ us hl => match us, hl with | [_, _], _ => rfl
abbrev s__law_below : Stmt := top 39
abbrev N__law_below : List Str := ["_law_d", "_law_size", "_law_result"]
theorem sc__law_below : FnScope N__law_below ["_law_d", "_law_size"] (defScope s__law_below) := ⟨rfl, rfl, rfl, by decide +kernel, rfl, by decide +kernel, by decide +kernel⟩
theorem b__law_below {K : PySem.W.Frag} {f : Addr} {fd : FuncData} (F : Fun K "_law_below" "_law_below" s__law_below f fd) : Binds K fd ["_law_d", "_law_size"] [] := F.binds (ps := ["_law_d", "_law_size"]) fun _ _ _ _ _ _ us hl => match us, hl with | [_, _], _ => rfl
abbrev s__law_pick : Stmt := top 40
abbrev N__law_pick : List Str := ["_law_d", "_law_items"]
theorem sc__law_pick : FnScope N__law_pick ["_law_d", "_law_items"] (defScope s__law_pick) := ⟨rfl, rfl, rfl, by decide +kernel, rfl, by decide +kernel, by decide +kernel⟩
theorem b__law_pick {K : PySem.W.Frag} {f : Addr} {fd : FuncData} (F : Fun K "_law_pick" "_law_pick" s__law_pick f fd) : Binds K fd ["_law_d", "_law_items"] [] := F.binds (ps := ["_law_d", "_law_items"]) fun _ _ _ _ _ _ us hl => match us, hl with | [_, _], _ => rfl
abbrev s__law_equal : Stmt := top 41
abbrev N__law_equal : List Str := ["_law_actual", "_law_expected", "_law_key", "_law_k"]
theorem sc__law_equal : FnScope N__law_equal ["_law_actual", "_law_expected"] (defScope s__law_equal) := ⟨rfl, rfl, rfl, by decide +kernel, rfl, by decide +kernel, by decide +kernel⟩
theorem b__law_equal {K : PySem.W.Frag} {f : Addr} {fd : FuncData} (F : Fun K "_law_equal" "_law_equal" s__law_equal f fd) : Binds K fd ["_law_actual", "_law_expected"] [] := F.binds (ps := ["_law_actual", "_law_expected"]) fun _ _ _ _ _ _ us hl => match us, hl with | [_, _], _ => rfl
abbrev s__law_choose : Stmt := top 42
abbrev N__law_choose : List Str := ["_law_n", "_law_k", "_law_found", "_law_at"]
theorem sc__law_choose : FnScope N__law_choose ["_law_n", "_law_k"] (defScope s__law_choose) := ⟨rfl, rfl, rfl, by decide +kernel, rfl, by decide +kernel, by decide +kernel⟩
theorem b__law_choose {K : PySem.W.Frag} {f : Addr} {fd : FuncData} (F : Fun K "_law_choose" "_law_choose" s__law_choose f fd) : Binds K fd ["_law_n", "_law_k"] [] := F.binds (ps := ["_law_n", "_law_k"]) fun _ _ _ _ _ _ us hl => match us, hl with | [_, _], _ => rfl
abbrev s__law_power : Stmt := top 43
abbrev N__law_power : List Str := ["_law_base", "_law_times_so", "_law_found", "_law_lap"]
theorem sc__law_power : FnScope N__law_power ["_law_base", "_law_times_so"] (defScope s__law_power) := ⟨rfl, rfl, rfl, by decide +kernel, rfl, by decide +kernel, by decide +kernel⟩
theorem b__law_power {K : PySem.W.Frag} {f : Addr} {fd : FuncData} (F : Fun K "_law_power" "_law_power" s__law_power f fd) : Binds K fd ["_law_base", "_law_times_so"] [] := F.binds (ps := ["_law_base", "_law_times_so"]) fun _ _ _ _ _ _ us hl => match us, hl with | [_, _], _ => rfl
abbrev s_law : Stmt := top 44
abbrev N_law : List Str := ["_law_script", "_law_d", "_law_turn", "_law_k", "_law_number", "_law_terms", "_law_more", "_law_rule", "_law_heap", "_law_due", "_law_i"]
theorem sc_law : FnScope N_law ["_law_script"] (defScope s_law) := ⟨rfl, rfl, rfl, by decide +kernel, rfl, by decide +kernel, by decide +kernel⟩
theorem b_law {K : PySem.W.Frag} {f : Addr} {fd : FuncData} (F : Fun K "law" "law" s_law f fd) : Binds K fd ["_law_script"] [] := F.binds (ps := ["_law_script"]) fun _ _ _ _ _ _ us hl => match us, hl with | [_], _ => rfl
/-! ### what the top has written -/
structure TX (Γ : Gm) (mg : Str → Option Value) : Prop where
  b_abs : mg "abs" = none
  b_all : mg "all" = none
  b_bool : mg "bool" = none
  b_dict : mg "dict" = none
  b_enumerate : mg "enumerate" = none
  b_int : mg "int" = none
  b_isinstance : mg "isinstance" = none
  b_len : mg "len" = none
  b_list : mg "list" = none
  b_min : mg "min" = none
  b_range : mg "range" = none
  b_str : mg "str" = none
  b_sum : mg "sum" = none
  b_tuple : mg "tuple" = none
  b_zip : mg "zip" = none
  c_MOST_TABLE : ∃ t, mg "MOST_TABLE" = some (.int 40 t)
  c_MOST_HEAP : ∃ t, mg "MOST_HEAP" = some (.int 1000000000000000000000000000000 t)
  c_MOST_POINTS : ∃ t, mg "MOST_POINTS" = some (.int 1000000 t)
  c_MOST_TERMS : ∃ t, mg "MOST_TERMS" = some (.int 6 t)
  c_MOST_EXPONENT : ∃ t, mg "MOST_EXPONENT" = some (.int 4 t)
  x_BadHeap : ExcF Γ.K mg "BadHeap" Γ.cBadHeap
  x_BadRule : ExcF Γ.K mg "BadRule" Γ.cBadRule
  x_NoTerms : ExcF Γ.K mg "NoTerms" Γ.cNoTerms
  rule : RuleF Γ
section
variable {P : Program} {w : World} {mg : Str → Option Value} {base : Heap} {Γ : Gm}
theorem ok_is_integer {f : Addr} {fd : FuncData} (F : Fun Γ.K "is_integer" "is_integer" s_is_integer f fd) (T : TX Γ mg) : FnOk P w Γ.K mg base CX0 1 f fd ["value"] (sp_is_integer Γ) := by
  have nd := sc_is_integer.nd
  refine F.ok sc_is_integer (fun vs H Q E h => ?_) (fun cdv A outer s H vs Q E hr h => ⟨t_is_integer Γ, ?_, rd_is_integer Γ  vs H Q E h⟩)
  · repeat (first | (obtain ⟨rfl, _⟩ := h; rfl) | (obtain ⟨_, h⟩ := h))
  · have hu := hr.units
    exact (pss_one (ps_ret (pe_and (pe_callB call_isi (by rfl) T.b_isinstance (by decide +kernel) (pa_cons (pv 0) (pa_cons (pe_bltn (by rfl) T.b_int (by decide +kernel) (v := .ty "int") rfl) pa_nil))) (pe_one (pe_not (pe_callB call_isi (by rfl) T.b_isinstance (by decide +kernel) (pa_cons (pv 0) (pa_cons (pe_bltn (by rfl) T.b_bool (by decide +kernel) (v := .ty "bool") rfl) pa_nil))))))))
theorem ok_is_from {f : Addr} {fd : FuncData} (F : Fun Γ.K "is_from" "is_from" s_is_from f fd) (T : TX Γ mg) (c_is_integer : Cal P w Γ.K mg base CX0 "is_integer" 1 ["value"] (sp_is_integer Γ)) : FnOk P w Γ.K mg base CX0 2 f fd ["value", "low", "high"] (sp_is_from Γ) := by
  have nd := sc_is_from.nd
  refine F.ok sc_is_from (fun vs H Q E h => ?_) (fun cdv A outer s H vs Q E hr h => ⟨t_is_from Γ, ?_, rd_is_from Γ  vs H Q E h⟩)
  · repeat (first | (obtain ⟨rfl, _⟩ := h; rfl) | (obtain ⟨_, h⟩ := h))
  · have hu := hr.units
    exact (pss_one (ps_ret (pe_and (pe_cal c_is_integer (hr.mono (by omega)) (by rfl) pass0 (pa_cons (pv 0) pa_nil)) (pe_one (pe_chain op_leU op_leU (pv 1) (pv 0) (pv 2))))))
theorem ok_are_rows {f : Addr} {fd : FuncData} (F : Fun Γ.K "are_rows" "are_rows" s_are_rows f fd) (T : TX Γ mg) (c_is_from : Cal P w Γ.K mg base CX0 "is_from" 2 ["value", "low", "high"] (sp_is_from Γ)) : FnOk P w Γ.K mg base CX0 3 f fd ["value"] (sp_are_rows Γ) := by
  have nd := sc_are_rows.nd
  refine F.ok sc_are_rows (fun vs H Q E h => ?_) (fun cdv A outer s H vs Q E hr h => ⟨t_are_rows Γ, ?_, rd_are_rows Γ  vs H Q E h⟩)
  · repeat (first | (obtain ⟨rfl, _⟩ := h; rfl) | (obtain ⟨_, h⟩ := h))
  · have hu := hr.units
    exact (pss_cons (ps_if (PW.pt (pw_or (pt_not (pt_val (pe_callB call_isi (by rfl) T.b_isinstance (by decide +kernel) (pa_cons (pv 0) (pa_cons (pe_bltn (by rfl) T.b_tuple (by decide +kernel) (v := .ty "tuple") rfl) pa_nil))))) (pw_or1 (pt_not (pt_chain op_leU op_ltU pe_int (pe_callB call_len (by rfl) T.b_len (by decide +kernel) (pa_cons (pv 0) pa_nil)) (pe_gint T.c_MOST_TABLE (by rfl))))))) (pss_one (ps_ret pe_bl)) pss_nil)
  (pss_cons (ps_for PassesOwn.never rfl (pi_enumS (by rfl) T.b_enumerate (pa_cons (pv 0) pa_nil)) (pg_tup rfl (pgs_cons (pg_name (i := 1) nd rfl (Or.inl rfl)) (pgs_cons (pg_name (i := 2) nd rfl (Or.inl rfl)) pgs_nil))) (pss_cons (ps_if (PW.pt (pw_or (pt_not (pt_val (pe_callB call_isi (by rfl) T.b_isinstance (by decide +kernel) (pa_cons (pv 2) (pa_cons (pe_bltn (by rfl) T.b_tuple (by decide +kernel) (v := .ty "tuple") rfl) pa_nil))))) (pw_or1 (pt_cmpR (op_neU hu) (pe_callB call_len (by rfl) T.b_len (by decide +kernel) (pa_cons (pv 2) pa_nil)) (pe_op op_subU (pe_callB call_len (by rfl) T.b_len (by decide +kernel) (pa_cons (pv 0) pa_nil)) (pv 1)) (nomark _))))) (pss_one (ps_ret pe_bl)) pss_nil)
  (pss_one (ps_if (pt_not (pt_val (pe_callB (cr_all rfl) (by rfl) T.b_all (by decide +kernel) (pa_cons (pe_lc (own := [("number", 3)]) (g := (gName 3)) (tt := tYes) rfl nd (pi_seq (pv 2)) (blkOk_by (N := N_are_rows) (sc := (defScope s_are_rows)) (own := [("number", 3)]) (by decide +kernel)) (fun _ _ _ _ _ => (pg_name (i := 3) nd rfl (Or.inl rfl))) (fun _ _ _ _ _ => pts_nil) (fun _ _ _ _ _ => (pe_cal c_is_from (hr.mono (by omega)) (by rfl) pass0 (pa_cons (pv 3) (pa_cons (pe_op op_subU pe_int (pe_gint T.c_MOST_POINTS (by rfl))) (pa_cons (pe_gint T.c_MOST_POINTS (by rfl)) pa_nil)))))) pa_nil)))) (pss_one (ps_ret pe_bl)) pss_nil))))
  (pss_one (ps_ret pe_bl))))
theorem ok_is_term {f : Addr} {fd : FuncData} (F : Fun Γ.K "is_term" "is_term" s_is_term f fd) (T : TX Γ mg) (c_is_from : Cal P w Γ.K mg base CX0 "is_from" 2 ["value", "low", "high"] (sp_is_from Γ)) : FnOk P w Γ.K mg base CX0 3 f fd ["value"] (sp_is_term Γ) := by
  have nd := sc_is_term.nd
  refine F.ok sc_is_term (fun vs H Q E h => ?_) (fun cdv A outer s H vs Q E hr h => ⟨t_is_term Γ, ?_, rd_is_term Γ  vs H Q E h⟩)
  · repeat (first | (obtain ⟨rfl, _⟩ := h; rfl) | (obtain ⟨_, h⟩ := h))
  · have hu := hr.units
    exact (pss_cons (ps_if (PW.pt (pw_or (pt_not (pt_val (pe_callB call_isi (by rfl) T.b_isinstance (by decide +kernel) (pa_cons (pv 0) (pa_cons (pe_bltn (by rfl) T.b_tuple (by decide +kernel) (v := .ty "tuple") rfl) pa_nil))))) (pw_or (pt_cmpR (op_neU hu) (pe_callB call_len (by rfl) T.b_len (by decide +kernel) (pa_cons (pv 0) pa_nil)) pe_int (nomark _)) (pw_or1 (pt_not (pt_val (pe_cal c_is_from (hr.mono (by omega)) (by rfl) pass0 (pa_cons (pe_ix ix_seq (pv 0) pe_int (fun _ _ => rfl)) (pa_cons (pe_op op_subU pe_int (pe_gint T.c_MOST_POINTS (by rfl))) (pa_cons (pe_gint T.c_MOST_POINTS (by rfl)) pa_nil)))))))))) (pss_one (ps_ret pe_bl)) pss_nil)
  (pss_one (ps_ret (pe_and (pe_cal c_is_from (hr.mono (by omega)) (by rfl) pass0 (pa_cons (pe_ix ix_seq (pv 0) pe_int (fun _ _ => rfl)) (pa_cons pe_int (pa_cons (pe_gint T.c_MOST_EXPONENT (by rfl)) pa_nil)))) (pe_one (pe_cal c_is_from (hr.mono (by omega)) (by rfl) pass0 (pa_cons (pe_ix ix_seq (pv 0) pe_int (fun _ _ => rfl)) (pa_cons pe_int (pa_cons (pe_gint T.c_MOST_EXPONENT (by rfl)) pa_nil)))))))))
theorem ok_are_terms {f : Addr} {fd : FuncData} (F : Fun Γ.K "are_terms" "are_terms" s_are_terms f fd) (T : TX Γ mg) (c_is_term : Cal P w Γ.K mg base CX0 "is_term" 3 ["value"] (sp_is_term Γ)) : FnOk P w Γ.K mg base CX0 4 f fd ["value"] (sp_are_terms Γ) := by
  have nd := sc_are_terms.nd
  refine F.ok sc_are_terms (fun vs H Q E h => ?_) (fun cdv A outer s H vs Q E hr h => ⟨t_are_terms Γ, ?_, rd_are_terms Γ  vs H Q E h⟩)
  · repeat (first | (obtain ⟨rfl, _⟩ := h; rfl) | (obtain ⟨_, h⟩ := h))
  · have hu := hr.units
    exact (pss_one (ps_ret (pe_and (pe_callB call_isi (by rfl) T.b_isinstance (by decide +kernel) (pa_cons (pv 0) (pa_cons (pe_bltn (by rfl) T.b_tuple (by decide +kernel) (v := .ty "tuple") rfl) pa_nil))) (pe_and (pe_cmpR op_leU (pe_callB call_len (by rfl) T.b_len (by decide +kernel) (pa_cons (pv 0) pa_nil)) (pe_gint T.c_MOST_TERMS (by rfl)) (nomark _)) (pe_one (pe_callB (cr_all rfl) (by rfl) T.b_all (by decide +kernel) (pa_cons (pe_lc (own := [("term", 1)]) (g := (gName 1)) (tt := tYes) rfl nd (pi_seq (pv 0)) (blkOk_by (N := N_are_terms) (sc := (defScope s_are_terms)) (own := [("term", 1)]) (by decide +kernel)) (fun _ _ _ _ _ => (pg_name (i := 1) nd rfl (Or.inl rfl))) (fun _ _ _ _ _ => pts_nil) (fun _ _ _ _ _ => (pe_cal c_is_term (hr.mono (by omega)) (by rfl) pass0 (pa_cons (pv 1) pa_nil)))) pa_nil)))))))
theorem ok_RuleU_initU {f : Addr} {fd : FuncData} (F : Fun Γ.K "__init__" "Rule.__init__" s_RuleU_initU f fd) (T : TX Γ mg) (c_are_rows : Cal P w Γ.K mg base CX0 "are_rows" 3 ["value"] (sp_are_rows Γ)) (c_are_terms : Cal P w Γ.K mg base CX0 "are_terms" 4 ["value"] (sp_are_terms Γ)) : FnOk P w Γ.K mg base (L2.CX P w) 5 f fd ["self", "kind", "parts"] (sp_RuleU_initU Γ) := by
  have nd := sc_RuleU_initU.nd
  refine F.okX sc_RuleU_initU (fun vs H Q E h => ?_) (fun cdv A outer s H vs Q E hr h => ⟨t_RuleU_initU Γ E, ?_, rd_RuleU_initU Γ T.rule vs H Q E h⟩)
  · repeat (first | (obtain ⟨rfl, _⟩ := h; rfl) | (obtain ⟨_, h⟩ := h))
  · have hu := hr.units
    exact (pss_cons (ps_if (PW.pt (pw_or (pt_not (pt_val (pe_callB call_isi (by rfl) T.b_isinstance (by decide +kernel) (pa_cons (pv 1) (pa_cons (pe_bltn (by rfl) T.b_str (by decide +kernel) (v := .ty "str") rfl) pa_nil))))) (pw_or1 (pt_cmpR op_notInU (pv 1) (pe_tup (pa_cons pe_str (pa_cons pe_str pa_nil))) (by rfl))))) (pss_one (ps_raise0 rfl (takes_of rfl rfl rfl rfl) T.x_BadRule rfl)) pss_nil)
  (pss_cons (ps_if (pt_not (pt_ifExp (pt_cmpR (op_eqU hu) (pv 1) pe_str (nomark _)) (pt_val (pe_cal c_are_rows (hr.mono (by omega)) (by rfl) pass0 (pa_cons (pv 2) pa_nil))) (pt_val (pe_cal c_are_terms (hr.mono (by omega)) (by rfl) pass0 (pa_cons (pv 2) pa_nil))))) (pss_one (ps_raise0 rfl (takes_of rfl rfl rfl rfl) T.x_BadRule rfl)) pss_nil)
  (pss_cons (ps_fld (pv 0) (pv 1) rfl)
  (pss_one (ps_fld (pv 0) (pv 2) rfl)))))
theorem ok_most_of {f : Addr} {fd : FuncData} (F : Fun Γ.K "most_of" "most_of" s_most_of f fd) (T : TX Γ mg) : FnOk P w Γ.K mg base CX0 1 f fd ["rule"] (sp_most_of Γ) := by
  have nd := sc_most_of.nd
  refine F.ok sc_most_of (fun vs H Q E h => ?_) (fun cdv A outer s H vs Q E hr h => ⟨t_most_of Γ, ?_, rd_most_of Γ T.rule vs H Q E h⟩)
  · repeat (first | (obtain ⟨rfl, _⟩ := h; rfl) | (obtain ⟨_, h⟩ := h))
  · have hu := hr.units
    exact (pss_one (ps_ret (pe_ifExp (pt_cmpR (op_eqU hu) (pe_fld (pv 0) rfl) pe_str (nomark _)) (pe_op op_addU (pe_callB call_len (by rfl) T.b_len (by decide +kernel) (pa_cons (pe_fld (pv 0) rfl) pa_nil)) pe_int) (pe_gint T.c_MOST_HEAP (by rfl)))))
theorem ok_raised {f : Addr} {fd : FuncData} (F : Fun Γ.K "raised" "raised" s_raised f fd) (T : TX Γ mg) : FnOk P w Γ.K mg base CX0 1 f fd ["base", "exponent"] (sp_raised Γ) := by
  have nd := sc_raised.nd
  refine F.ok sc_raised (fun vs H Q E h => ?_) (fun cdv A outer s H vs Q E hr h => ⟨t_raised Γ, ?_, rd_raised Γ  vs H Q E h⟩)
  · repeat (first | (obtain ⟨rfl, _⟩ := h; rfl) | (obtain ⟨_, h⟩ := h))
  · have hu := hr.units
    exact (pss_cons (ps_set (i := 2) nd rfl (Or.inl rfl) pe_int)
  (pss_cons (ps_for PassesOwn.never rfl (pi_range1 rfl T.b_range (pa_cons (pv 1) pa_nil)) (pg_name (i := 3) nd rfl (Or.inl rfl)) (pss_one (ps_set (i := 2) nd rfl (Or.inl rfl) (pe_op op_mulU (pv 2) (pv 0)))))
  (pss_one (ps_ret (pv 2)))))
theorem ok_points_by {f : Addr} {fd : FuncData} (F : Fun Γ.K "points_by" "points_by" s_points_by f fd) (T : TX Γ mg) (c_raised : Cal P w Γ.K mg base CX0 "raised" 1 ["base", "exponent"] (sp_raised Γ)) : FnOk P w Γ.K mg base CX0 2 f fd ["rule", "first", "second"] (sp_points_by Γ) := by
  have nd := sc_points_by.nd
  refine F.ok sc_points_by (fun vs H Q E h => ?_) (fun cdv A outer s H vs Q E hr h => ⟨t_points_by Γ, ?_, rd_points_by Γ T.rule vs H Q E h⟩)
  · repeat (first | (obtain ⟨rfl, _⟩ := h; rfl) | (obtain ⟨_, h⟩ := h))
  · have hu := hr.units
    exact (pss_cons (ps_if (pt_cmpR (op_eqU hu) (pe_fld (pv 0) rfl) pe_str (nomark _)) (pss_one (ps_ret (pe_ix ix_seq (pe_ix ix_seq (pe_fld (pv 0) rfl) (pe_op op_subU (pv 1) pe_int) (fun _ _ => rfl)) (pe_op op_subU (pv 2) pe_int) (fun _ _ => rfl)))) pss_nil)
  (pss_one (ps_ret (pe_callB (cr_sum rfl) (by rfl) T.b_sum (by decide +kernel) (pa_cons (pe_lc (own := [("number", 3), ("one", 4), ("other", 5)]) (g := (gTup Γ.K 3 (gCons (gName 3) (gCons (gName 4) (gCons (gName 5) gNil))))) (tt := tYes) rfl nd (pi_seq (pe_fld (pv 0) rfl)) (blkOk_by (N := N_points_by) (sc := (defScope s_points_by)) (own := [("number", 3), ("one", 4), ("other", 5)]) (by decide +kernel)) (fun _ _ _ _ _ => (pg_tup rfl (pgs_cons (pg_name (i := 3) nd rfl (Or.inl rfl)) (pgs_cons (pg_name (i := 4) nd rfl (Or.inl rfl)) (pgs_cons (pg_name (i := 5) nd rfl (Or.inl rfl)) pgs_nil))))) (fun _ _ _ _ _ => pts_nil) (fun _ _ _ _ _ => (pe_op op_mulU (pe_op op_mulU (pv 3) (pe_cal c_raised (hr.mono (by omega)) (by rfl) pass0 (pa_cons (pv 1) (pa_cons (pv 4) pa_nil)))) (pe_cal c_raised (hr.mono (by omega)) (by rfl) pass0 (pa_cons (pv 2) (pa_cons (pv 5) pa_nil)))))) pa_nil)))))
theorem ok_check_heap {f : Addr} {fd : FuncData} (F : Fun Γ.K "check_heap" "check_heap" s_check_heap f fd) (T : TX Γ mg) (c_is_from : Cal P w Γ.K mg base CX0 "is_from" 2 ["value", "low", "high"] (sp_is_from Γ)) (c_most_of : Cal P w Γ.K mg base CX0 "most_of" 1 ["rule"] (sp_most_of Γ)) : FnOk P w Γ.K mg base (L2.CX P w) 3 f fd ["rule", "heap", "most"] (sp_check_heap Γ) := by
  have nd := sc_check_heap.nd
  refine F.okX sc_check_heap (fun vs H Q E h => ?_) (fun cdv A outer s H vs Q E hr h => ⟨t_check_heap Γ E, ?_, rd_check_heap Γ  vs H Q E h⟩)
  · repeat (first | (obtain ⟨rfl, _⟩ := h; rfl) | (obtain ⟨_, h⟩ := h))
  · have hu := hr.units
    exact (pss_one (ps_if (pt_not (pt_val (pe_cal c_is_from (hr.mono (by omega)) (by rfl) pass0 (pa_cons (pv 1) (pa_cons pe_int (pa_cons (pe_callB (call_min2 rfl) (by rfl) T.b_min (by decide +kernel) (pa_cons (pv 2) (pa_cons (pe_cal c_most_of (hr.mono (by omega)) (by rfl) pass0 (pa_cons (pv 0) pa_nil)) pa_nil))) pa_nil)))))) (pss_one (ps_raise0 rfl (takes_of rfl rfl rfl rfl) T.x_BadHeap rfl)) pss_nil))
theorem ok_triples_of {f : Addr} {fd : FuncData} (F : Fun Γ.K "triples_of" "triples_of" s_triples_of f fd) (T : TX Γ mg) (c_most_of : Cal P w Γ.K mg base CX0 "most_of" 1 ["rule"] (sp_most_of Γ)) : FnOk P w Γ.K mg base CX0 2 f fd ["rule"] (sp_triples_of Γ) := by
  have nd := sc_triples_of.nd
  refine F.ok sc_triples_of (fun vs H Q E h => ?_) (fun cdv A outer s H vs Q E hr h => ⟨t_triples_of Γ, ?_, rd_triples_of Γ T.rule vs H Q E h⟩)
  · repeat (first | (obtain ⟨rfl, _⟩ := h; rfl) | (obtain ⟨_, h⟩ := h))
  · have hu := hr.units
    exact (pss_cons (ps_set (i := 1) nd rfl (Or.inl rfl) (pe_ifExp (pt_cmpR (op_eqU hu) (pe_fld (pv 0) rfl) pe_str (nomark _)) (pe_op op_addU (pe_op op_mulU pe_int (pe_gint T.c_MOST_EXPONENT (by rfl))) pe_int) (pe_cal c_most_of (hr.mono (by omega)) (by rfl) pass0 (pa_cons (pv 0) pa_nil))))
  (pss_cons (ps_set (i := 2) nd rfl (Or.inl rfl) (pe_lst pa_nil))
  (pss_cons (ps_for PassesOwn.never rfl (pi_range2 rfl T.b_range (pa_cons pe_int (pa_cons (pe_op op_addU (pv 1) pe_int) pa_nil))) (pg_name (i := 3) nd rfl (Or.inr rfl)) (pss_one (ps_for PassesOwn.never rfl (pi_range2 rfl T.b_range (pa_cons pe_int (pa_cons (pe_op op_subU (pv 3) pe_int) pa_nil))) (pg_name (i := 4) nd rfl (Or.inr rfl)) (pss_one (ps_expr (pe_bm PySem.F.plainAttrs_list PySem.F.slot_list_extend PySem.F.type_list_extend mt_extend (pv 2) (pa_cons (pe_lc (own := [("second", 5)]) (g := (gName 5)) (tt := tYes) rfl nd (pi_range2 rfl T.b_range (pa_cons pe_int (pa_cons (pe_op op_subU (pv 3) (pv 4)) pa_nil))) (blkOk_by (N := N_triples_of) (sc := (defScope s_triples_of)) (own := [("second", 5)]) (by decide +kernel)) (fun _ _ _ _ _ => (pg_name (i := 5) nd rfl (Or.inl rfl))) (fun _ _ _ _ _ => pts_nil) (fun _ _ _ _ _ => (pe_tup (pa_cons (pv 4) (pa_cons (pv 5) (pa_cons (pe_op op_subU (pe_op op_subU (pv 3) (pv 4)) (pv 5)) pa_nil)))))) pa_nil)))))))
  (pss_one (ps_ret (pv 2))))))
theorem ok_is_even {f : Addr} {fd : FuncData} (F : Fun Γ.K "is_even" "is_even" s_is_even f fd) (T : TX Γ mg) (c_points_by : Cal P w Γ.K mg base CX0 "points_by" 2 ["rule", "first", "second"] (sp_points_by Γ)) : FnOk P w Γ.K mg base CX0 3 f fd ["rule", "first", "second", "third"] (sp_is_even Γ) := by
  have nd := sc_is_even.nd
  refine F.ok sc_is_even (fun vs H Q E h => ?_) (fun cdv A outer s H vs Q E hr h => ⟨t_is_even Γ, ?_, rd_is_even Γ  vs H Q E h⟩)
  · repeat (first | (obtain ⟨rfl, _⟩ := h; rfl) | (obtain ⟨_, h⟩ := h))
  · have hu := hr.units
    exact (pss_cons (ps_set (i := 4) nd rfl (Or.inl rfl) (pe_op op_addU (pe_cal c_points_by (hr.mono (by omega)) (by rfl) pass0 (pa_cons (pv 0) (pa_cons (pv 1) (pa_cons (pv 2) pa_nil)))) (pe_cal c_points_by (hr.mono (by omega)) (by rfl) pass0 (pa_cons (pv 0) (pa_cons (pe_op op_addU (pv 1) (pv 2)) (pa_cons (pv 3) pa_nil))))))
  (pss_one (ps_ret (pe_cmpR (op_eqU hu) (pv 4) (pe_op op_addU (pe_cal c_points_by (hr.mono (by omega)) (by rfl) pass0 (pa_cons (pv 0) (pa_cons (pv 2) (pa_cons (pv 3) pa_nil)))) (pe_cal c_points_by (hr.mono (by omega)) (by rfl) pass0 (pa_cons (pv 0) (pa_cons (pv 1) (pa_cons (pe_op op_addU (pv 2) (pv 3)) pa_nil))))) (nomark _)))))
theorem ok_clash {f : Addr} {fd : FuncData} (F : Fun Γ.K "clash" "clash" s_clash f fd) (T : TX Γ mg) (c_is_even : Cal P w Γ.K mg base CX0 "is_even" 3 ["rule", "first", "second", "third"] (sp_is_even Γ)) (c_triples_of : Cal P w Γ.K mg base CX0 "triples_of" 2 ["rule"] (sp_triples_of Γ)) : FnOk P w Γ.K mg base CX0 4 f fd ["rule"] (sp_clash Γ) := by
  have nd := sc_clash.nd
  refine F.ok sc_clash (fun vs H Q E h => ?_) (fun cdv A outer s H vs Q E hr h => ⟨t_clash Γ, ?_, rd_clash Γ  vs H Q E h⟩)
  · repeat (first | (obtain ⟨rfl, _⟩ := h; rfl) | (obtain ⟨_, h⟩ := h))
  · have hu := hr.units
    exact (pss_cons (ps_for PassesOwn.never rfl (pi_seq (pe_cal c_triples_of (hr.mono (by omega)) (by rfl) pass0 (pa_cons (pv 0) pa_nil))) (pg_tup rfl (pgs_cons (pg_name (i := 1) nd rfl (Or.inl rfl)) (pgs_cons (pg_name (i := 2) nd rfl (Or.inl rfl)) (pgs_cons (pg_name (i := 3) nd rfl (Or.inl rfl)) pgs_nil)))) (pss_one (ps_if (pt_not (pt_val (pe_cal c_is_even (hr.mono (by omega)) (by rfl) pass0 (pa_cons (pv 0) (pa_cons (pv 1) (pa_cons (pv 2) (pa_cons (pv 3) pa_nil))))))) (pss_one (ps_ret (pe_tup (pa_cons (pe_op op_addU (pe_op op_addU (pv 1) (pv 2)) (pv 3)) (pa_cons (pv 1) (pa_cons (pv 2) (pa_cons (pv 3) pa_nil))))))) pss_nil)))
  (pss_one (ps_ret pe_non)))
theorem ok_is_sure {f : Addr} {fd : FuncData} (F : Fun Γ.K "is_sure" "is_sure" s_is_sure f fd) (T : TX Γ mg) (c_clash : Cal P w Γ.K mg base CX0 "clash" 4 ["rule"] (sp_clash Γ)) : FnOk P w Γ.K mg base CX0 5 f fd ["rule"] (sp_is_sure Γ) := by
  have nd := sc_is_sure.nd
  refine F.ok sc_is_sure (fun vs H Q E h => ?_) (fun cdv A outer s H vs Q E hr h => ⟨t_is_sure Γ, ?_, rd_is_sure Γ  vs H Q E h⟩)
  · repeat (first | (obtain ⟨rfl, _⟩ := h; rfl) | (obtain ⟨_, h⟩ := h))
  · have hu := hr.units
    exact (pss_one (ps_ret (pe_cmpR op_isU (pe_cal c_clash (hr.mono (by omega)) (by rfl) pass0 (pa_cons (pv 0) pa_nil)) pe_non (nomark _))))
theorem ok_lowest {f : Addr} {fd : FuncData} (F : Fun Γ.K "lowest" "lowest" s_lowest f fd) (T : TX Γ mg) : FnOk P w Γ.K mg base CX0 1 f fd ["over", "under"] (sp_lowest Γ) := by
  have nd := sc_lowest.nd
  refine F.ok sc_lowest (fun vs H Q E h => ?_) (fun cdv A outer s H vs Q E hr h => ⟨t_lowest Γ, ?_, rd_lowest Γ  vs H Q E h⟩)
  · repeat (first | (obtain ⟨rfl, _⟩ := h; rfl) | (obtain ⟨_, h⟩ := h))
  · have hu := hr.units
    exact (pss_cons (ps_par (i := 2) (j := 3) rfl nd rfl rfl (by decide) rfl rfl (pa_cons (pe_callB call_abs (by rfl) T.b_abs (by decide +kernel) (pa_cons (pv 0) pa_nil)) (pa_cons (pv 1) pa_nil)) (by rfl))
  (pss_cons (ps_while PassesOwn.never (pt_cmpR (op_neU hu) (pv 3) pe_int (nomark _)) (pss_one (ps_par (i := 2) (j := 3) rfl nd rfl rfl (by decide) rfl rfl (pa_cons (pv 3) (pa_cons (pe_op op_modU (pv 2) (pv 3)) pa_nil)) (by rfl))))
  (pss_one (ps_ret (pe_tup (pa_cons (pe_op op_divU (pv 0) (pv 2)) (pa_cons (pe_op op_divU (pv 1) (pv 2)) pa_nil)))))))
theorem ok_plus {f : Addr} {fd : FuncData} (F : Fun Γ.K "plus" "plus" s_plus f fd) (T : TX Γ mg) (c_lowest : Cal P w Γ.K mg base CX0 "lowest" 1 ["over", "under"] (sp_lowest Γ)) : FnOk P w Γ.K mg base CX0 2 f fd ["one", "other"] (sp_plus Γ) := by
  have nd := sc_plus.nd
  refine F.ok sc_plus (fun vs H Q E h => ?_) (fun cdv A outer s H vs Q E hr h => ⟨t_plus Γ, ?_, rd_plus Γ  vs H Q E h⟩)
  · repeat (first | (obtain ⟨rfl, _⟩ := h; rfl) | (obtain ⟨_, h⟩ := h))
  · have hu := hr.units
    exact (pss_one (ps_ret (pe_cal c_lowest (hr.mono (by omega)) (by rfl) pass0 (pa_cons (pe_op op_addU (pe_op op_mulU (pe_ix ix_seq (pv 0) pe_int (fun _ _ => rfl)) (pe_ix ix_seq (pv 1) pe_int (fun _ _ => rfl))) (pe_op op_mulU (pe_ix ix_seq (pv 1) pe_int (fun _ _ => rfl)) (pe_ix ix_seq (pv 0) pe_int (fun _ _ => rfl)))) (pa_cons (pe_op op_mulU (pe_ix ix_seq (pv 0) pe_int (fun _ _ => rfl)) (pe_ix ix_seq (pv 1) pe_int (fun _ _ => rfl))) pa_nil)))))
theorem ok_times_root {f : Addr} {fd : FuncData} (F : Fun Γ.K "times_root" "times_root" s_times_root f fd) (T : TX Γ mg) (c_plus : Cal P w Γ.K mg base CX0 "plus" 2 ["one", "other"] (sp_plus Γ)) : FnOk P w Γ.K mg base CX0 3 f fd ["row", "root"] (sp_times_root Γ) := by
  have nd := sc_times_root.nd
  refine F.ok sc_times_root (fun vs H Q E h => ?_) (fun cdv A outer s H vs Q E hr h => ⟨t_times_root Γ, ?_, rd_times_root Γ  vs H Q E h⟩)
  · repeat (first | (obtain ⟨rfl, _⟩ := h; rfl) | (obtain ⟨_, h⟩ := h))
  · have hu := hr.units
    exact (pss_cons (ps_set (i := 2) nd rfl (Or.inl rfl) (pe_lst (pa_cons (pe_tup (pa_cons pe_int (pa_cons pe_int pa_nil))) (StX.pa_star (pv 0) pa_nil))))
  (pss_cons (ps_for PassesOwn.never rfl (pi_enumS (by rfl) T.b_enumerate (pa_cons (pv 0) pa_nil)) (pg_tup rfl (pgs_cons (pg_name (i := 3) nd rfl (Or.inl rfl)) (pgs_cons (pg_name (i := 4) nd rfl (Or.inl rfl)) pgs_nil))) (pss_one (ps_asg (pe_cal c_plus (hr.mono (by omega)) (by rfl) pass0 (pa_cons (pe_ix ix_seq (pv 2) (pv 3) (fun _ _ => rfl)) (pa_cons (pe_tup (pa_cons (pe_op op_subU pe_int (pe_op op_mulU (pv 1) (pe_ix ix_seq (pv 4) pe_int (fun _ _ => rfl)))) (pa_cons (pe_ix ix_seq (pv 4) pe_int (fun _ _ => rfl)) pa_nil))) pa_nil))) (pg_sub (pv 2) (pv 3) set_list))))
  (pss_one (ps_ret (pv 2)))))
theorem ok_through {f : Addr} {fd : FuncData} (F : Fun Γ.K "through" "through" s_through f fd) (T : TX Γ mg) (c_lowest : Cal P w Γ.K mg base CX0 "lowest" 1 ["over", "under"] (sp_lowest Γ)) (c_plus : Cal P w Γ.K mg base CX0 "plus" 2 ["one", "other"] (sp_plus Γ)) (c_times_root : Cal P w Γ.K mg base CX0 "times_root" 3 ["row", "root"] (sp_times_root Γ)) : FnOk P w Γ.K mg base CX0 4 f fd ["values"] (sp_through Γ) := by
  have nd := sc_through.nd
  refine F.ok sc_through (fun vs H Q E h => ?_) (fun cdv A outer s H vs Q E hr h => ⟨t_through Γ, ?_, rd_through Γ  vs H Q E h⟩)
  · repeat (first | (obtain ⟨rfl, _⟩ := h; rfl) | (obtain ⟨_, h⟩ := h))
  · have hu := hr.units
    exact (pss_cons (ps_par3 (i := 1) (j := 2) (l := 3) rfl nd rfl rfl rfl (by decide) (by decide) (by decide) rfl rfl rfl (pa_cons (pe_op op_mulU (pe_lst (pa_cons (pe_tup (pa_cons pe_int (pa_cons pe_int pa_nil))) pa_nil)) (pe_callB call_len (by rfl) T.b_len (by decide +kernel) (pa_cons (pv 0) pa_nil))) (pa_cons (pe_lst (pa_cons (pe_tup (pa_cons pe_int (pa_cons pe_int pa_nil))) pa_nil)) (pa_cons (pe_callTy call_list_of (by rfl) T.b_list (by decide +kernel) (pa_cons (pv 0) pa_nil)) pa_nil))) (by rfl))
  (pss_cons (ps_set (i := 4) nd rfl (Or.inl rfl) pe_int)
  (pss_cons (ps_for PassesOwn.never rfl (pi_range1 rfl T.b_range (pa_cons (pe_callB call_len (by rfl) T.b_len (by decide +kernel) (pa_cons (pv 0) pa_nil)) pa_nil)) (pg_name (i := 5) nd rfl (Or.inl rfl)) (pss_cons (ps_for PassesOwn.never rfl (pi_enumS (by rfl) T.b_enumerate (pa_cons (pv 2) pa_nil)) (pg_tup rfl (pgs_cons (pg_name (i := 6) nd rfl (Or.inl rfl)) (pgs_cons (pg_name (i := 7) nd rfl (Or.inl rfl)) pgs_nil))) (pss_one (ps_asg (pe_cal c_plus (hr.mono (by omega)) (by rfl) pass0 (pa_cons (pe_ix ix_seq (pv 1) (pv 6) (fun _ _ => rfl)) (pa_cons (pe_cal c_lowest (hr.mono (by omega)) (by rfl) pass0 (pa_cons (pe_op op_mulU (pe_ix ix_seq (pv 7) pe_int (fun _ _ => rfl)) (pe_ix ix_seq (pv 3) pe_int (fun _ _ => rfl))) (pa_cons (pe_op op_mulU (pe_ix ix_seq (pv 7) pe_int (fun _ _ => rfl)) (pv 4)) pa_nil))) pa_nil))) (pg_sub (pv 1) (pv 6) set_list))))
  (pss_cons (ps_set (i := 2) nd rfl (Or.inl rfl) (pe_cal c_times_root (hr.mono (by omega)) (by rfl) pass0 (pa_cons (pv 2) (pa_cons (pe_op op_addU (pv 5) pe_int) pa_nil))))
  (pss_one (ps_par (i := 3) (j := 4) rfl nd rfl rfl (by decide) rfl rfl (pa_cons (pe_lc (own := [("now", 8), ("later", 9)]) (g := (gTup Γ.K 2 (gCons (gName 8) (gCons (gName 9) gNil)))) (tt := tYes) rfl nd (pi_zip (by rfl) T.b_zip (pa_cons (pv 3) (pa_cons (pe_slice sl_U (pv 3) (po_some pe_int) po_none) pa_nil))) (blkOk_by (N := N_through) (sc := (defScope s_through)) (own := [("now", 8), ("later", 9)]) (by decide +kernel)) (fun _ _ _ _ _ => (pg_tup rfl (pgs_cons (pg_name (i := 8) nd rfl (Or.inl rfl)) (pgs_cons (pg_name (i := 9) nd rfl (Or.inl rfl)) pgs_nil)))) (fun _ _ _ _ _ => pts_nil) (fun _ _ _ _ _ => (pe_op op_subU (pv 9) (pv 8)))) (pa_cons (pe_op op_mulU (pv 4) (pe_op op_addU (pv 5) pe_int)) pa_nil)) (by rfl))))))
  (pss_one (ps_ret (pv 1))))))
theorem ok_value_at {f : Addr} {fd : FuncData} (F : Fun Γ.K "value_at" "value_at" s_value_at f fd) (T : TX Γ mg) (c_plus : Cal P w Γ.K mg base CX0 "plus" 2 ["one", "other"] (sp_plus Γ)) : FnOk P w Γ.K mg base CX0 3 f fd ["row", "number"] (sp_value_at Γ) := by
  have nd := sc_value_at.nd
  refine F.ok sc_value_at (fun vs H Q E h => ?_) (fun cdv A outer s H vs Q E hr h => ⟨t_value_at Γ, ?_, rd_value_at Γ  vs H Q E h⟩)
  · repeat (first | (obtain ⟨rfl, _⟩ := h; rfl) | (obtain ⟨_, h⟩ := h))
  · have hu := hr.units
    exact (pss_cons (ps_set (i := 2) nd rfl (Or.inl rfl) (pe_tup (pa_cons pe_int (pa_cons pe_int pa_nil))))
  (pss_cons (ps_for PassesOwn.never rfl (pi_seq (pe_revL (pv 0))) (pg_name (i := 3) nd rfl (Or.inl rfl)) (pss_one (ps_set (i := 2) nd rfl (Or.inl rfl) (pe_cal c_plus (hr.mono (by omega)) (by rfl) pass0 (pa_cons (pe_tup (pa_cons (pe_op op_mulU (pe_ix ix_seq (pv 2) pe_int (fun _ _ => rfl)) (pv 1)) (pa_cons (pe_ix ix_seq (pv 2) pe_int (fun _ _ => rfl)) pa_nil))) (pa_cons (pv 3) pa_nil))))))
  (pss_one (ps_ret (pv 2)))))
theorem ok_sums_to {f : Addr} {fd : FuncData} (F : Fun Γ.K "sums_to" "sums_to" s_sums_to f fd) (T : TX Γ mg) (c_points_by : Cal P w Γ.K mg base CX0 "points_by" 2 ["rule", "first", "second"] (sp_points_by Γ)) : FnOk P w Γ.K mg base CX0 3 f fd ["rule", "most", "is_first"] (sp_sums_to Γ) := by
  have nd := sc_sums_to.nd
  refine F.ok sc_sums_to (fun vs H Q E h => ?_) (fun cdv A outer s H vs Q E hr h => ⟨t_sums_to Γ, ?_, rd_sums_to Γ  vs H Q E h⟩)
  · repeat (first | (obtain ⟨rfl, _⟩ := h; rfl) | (obtain ⟨_, h⟩ := h))
  · have hu := hr.units
    exact (pss_cons (ps_set (i := 3) nd rfl (Or.inl rfl) (pe_lst (pa_cons pe_int pa_nil)))
  (pss_cons (ps_for PassesOwn.never rfl (pi_range2 rfl T.b_range (pa_cons pe_int (pa_cons (pv 1) pa_nil))) (pg_name (i := 4) nd rfl (Or.inl rfl)) (pss_one (ps_expr (pe_bm PySem.F.plainAttrs_list PySem.F.slot_list_append PySem.F.type_list_append mt_append (pv 3) (pa_cons (pe_op op_addU (pe_ix ix_seq (pv 3) (pe_un un_neg pe_int) (fun _ _ => rfl)) (pe_ifExp (pt_val (pv 2)) (pe_cal c_points_by (hr.mono (by omega)) (by rfl) pass0 (pa_cons (pv 0) (pa_cons pe_int (pa_cons (pv 4) pa_nil)))) (pe_cal c_points_by (hr.mono (by omega)) (by rfl) pass0 (pa_cons (pv 0) (pa_cons (pv 4) (pa_cons pe_int pa_nil)))))) pa_nil)))))
  (pss_one (ps_ret (pv 3)))))
theorem ok_line_of {f : Addr} {fd : FuncData} (F : Fun Γ.K "line_of" "line_of" s_line_of f fd) (T : TX Γ mg) (c_sums_to : Cal P w Γ.K mg base CX0 "sums_to" 3 ["rule", "most", "is_first"] (sp_sums_to Γ)) (c_through : Cal P w Γ.K mg base CX0 "through" 4 ["values"] (sp_through Γ)) : FnOk P w Γ.K mg base CX0 5 f fd ["rule", "is_first"] (sp_line_of Γ) := by
  have nd := sc_line_of.nd
  refine F.ok sc_line_of (fun vs H Q E h => ?_) (fun cdv A outer s H vs Q E hr h => ⟨t_line_of Γ, ?_, rd_line_of Γ  vs H Q E h⟩)
  · repeat (first | (obtain ⟨rfl, _⟩ := h; rfl) | (obtain ⟨_, h⟩ := h))
  · have hu := hr.units
    exact (pss_one (ps_ret (pe_cal c_through (hr.mono (by omega)) (by rfl) pass0 (pa_cons (pe_cal c_sums_to (hr.mono (by omega)) (by rfl) pass0 (pa_cons (pv 0) (pa_cons (pe_op op_addU (pe_gint T.c_MOST_EXPONENT (by rfl)) pe_int) (pa_cons (pv 1) pa_nil)))) pa_nil))))
theorem ok_one_by_one {f : Addr} {fd : FuncData} (F : Fun Γ.K "one_by_one" "one_by_one" s_one_by_one f fd) (T : TX Γ mg) (c_line_of : Cal P w Γ.K mg base CX0 "line_of" 5 ["rule", "is_first"] (sp_line_of Γ)) (c_sums_to : Cal P w Γ.K mg base CX0 "sums_to" 3 ["rule", "most", "is_first"] (sp_sums_to Γ)) (c_value_at : Cal P w Γ.K mg base CX0 "value_at" 3 ["row", "number"] (sp_value_at Γ)) : FnOk P w Γ.K mg base CX0 6 f fd ["rule", "heap", "is_first"] (sp_one_by_one Γ) := by
  have nd := sc_one_by_one.nd
  refine F.ok sc_one_by_one (fun vs H Q E h => ?_) (fun cdv A outer s H vs Q E hr h => ⟨t_one_by_one Γ, ?_, rd_one_by_one Γ T.rule vs H Q E h⟩)
  · repeat (first | (obtain ⟨rfl, _⟩ := h; rfl) | (obtain ⟨_, h⟩ := h))
  · have hu := hr.units
    exact (pss_cons (ps_if (pt_cmpR (op_eqU hu) (pe_fld (pv 0) rfl) pe_str (nomark _)) (pss_one (ps_ret (pe_ix ix_seq (pe_cal c_sums_to (hr.mono (by omega)) (by rfl) pass0 (pa_cons (pv 0) (pa_cons (pv 1) (pa_cons (pv 2) pa_nil)))) (pe_un un_neg pe_int) (fun _ _ => rfl)))) pss_nil)
  (pss_one (ps_ret (pe_ix ix_seq (pe_cal c_value_at (hr.mono (by omega)) (by rfl) pass0 (pa_cons (pe_cal c_line_of (hr.mono (by omega)) (by rfl) pass0 (pa_cons (pv 0) (pa_cons (pv 2) pa_nil))) (pa_cons (pv 1) pa_nil))) pe_int (fun _ _ => rfl)))))
theorem ok_formula {f : Addr} {fd : FuncData} (F : Fun Γ.K "formula" "formula" s_formula f fd) (T : TX Γ mg) (c_clash : Cal P w Γ.K mg base CX0 "clash" 4 ["rule"] (sp_clash Γ)) (c_line_of : Cal P w Γ.K mg base CX0 "line_of" 5 ["rule", "is_first"] (sp_line_of Γ)) : FnOk P w Γ.K mg base (L2.CX P w) 6 f fd ["rule"] (sp_formula Γ) := by
  have nd := sc_formula.nd
  refine F.okX sc_formula (fun vs H Q E h => ?_) (fun cdv A outer s H vs Q E hr h => ⟨t_formula Γ E, ?_, rd_formula Γ T.rule vs H Q E h⟩)
  · repeat (first | (obtain ⟨rfl, _⟩ := h; rfl) | (obtain ⟨_, h⟩ := h))
  · have hu := hr.units
    exact (pss_cons (ps_if (pt_cmpR (op_neU hu) (pe_fld (pv 0) rfl) pe_str (nomark _)) (pss_one (ps_raise0 rfl (takes_of rfl rfl rfl rfl) T.x_NoTerms rfl)) pss_nil)
  (pss_cons (ps_if (pt_cmpR op_notIsU (pe_cal c_clash (hr.mono (by omega)) (by rfl) pass0 (pa_cons (pv 0) pa_nil)) pe_non (nomark _)) (pss_one (ps_ret pe_non)) pss_nil)
  (pss_cons (ps_set (i := 1) nd rfl (Or.inl rfl) (pe_cal c_line_of (hr.mono (by omega)) (by rfl) pass0 (pa_cons (pv 0) (pa_cons pe_bl pa_nil))))
  (pss_cons (ps_while (passes_of rfl) (PW.pt (pw_and (pt_cmpR op_gtU (pe_callB call_len (by rfl) T.b_len (by decide +kernel) (pa_cons (pv 1) pa_nil)) pe_int (nomark _)) (pw_and1 (pt_cmpR (op_eqU hu) (pe_ix ix_seq (pv 1) (pe_un un_neg pe_int) (fun _ _ => rfl)) (pe_tup (pa_cons pe_int (pa_cons pe_int pa_nil))) (nomark _))))) (pss_one (ps_set (i := 1) nd rfl (Or.inl rfl) (pe_slice sl_U (pv 1) po_none (po_some (pe_un un_neg pe_int))))))
  (pss_one (ps_ret (pe_callTy call_tuple_of (by rfl) T.b_tuple (by decide +kernel) (pa_cons (pv 1) pa_nil))))))))
theorem ok_sure_sum {f : Addr} {fd : FuncData} (F : Fun Γ.K "sure_sum" "sure_sum" s_sure_sum f fd) (T : TX Γ mg) (c_check_heap : Cal P w Γ.K mg base (L2.CX P w) "check_heap" 3 ["rule", "heap", "most"] (sp_check_heap Γ)) (c_clash : Cal P w Γ.K mg base CX0 "clash" 4 ["rule"] (sp_clash Γ)) (c_one_by_one : Cal P w Γ.K mg base CX0 "one_by_one" 6 ["rule", "heap", "is_first"] (sp_one_by_one Γ)) : FnOk P w Γ.K mg base (L2.CX P w) 7 f fd ["rule", "heap"] (sp_sure_sum Γ) := by
  have nd := sc_sure_sum.nd
  refine F.okX sc_sure_sum (fun vs H Q E h => ?_) (fun cdv A outer s H vs Q E hr h => ⟨t_sure_sum Γ E, ?_, rd_sure_sum Γ  vs H Q E h⟩)
  · repeat (first | (obtain ⟨rfl, _⟩ := h; rfl) | (obtain ⟨_, h⟩ := h))
  · have hu := hr.units
    exact (pss_cons (ps_expr (pe_cal c_check_heap (hr.mono (by omega)) (by rfl) (passes_call (takes_of rfl rfl rfl rfl) (fun _ _ _ _ z => z)) (pa_cons (pv 0) (pa_cons (pv 1) (pa_cons (pe_gint T.c_MOST_HEAP (by rfl)) pa_nil)))))
  (pss_cons (ps_set (i := 2) nd rfl (Or.inl rfl) (pe_cal c_clash (hr.mono (by omega)) (by rfl) pass0 (pa_cons (pv 0) pa_nil)))
  (pss_cons (ps_if (PW.pt (pw_and (pt_cmpR op_notIsU (pv 2) pe_non (nomark _)) (pw_and1 (pt_cmpR op_leU (pe_ix ix_seq (pv 2) pe_int (fun _ _ => rfl)) (pv 1) (nomark _))))) pss_never pss_nil)
  (pss_one (ps_ret (pe_cal c_one_by_one (hr.mono (by omega)) (by rfl) pass0 (pa_cons (pv 0) (pa_cons (pv 1) (pa_cons pe_bl pa_nil)))))))))
theorem ok__law_random {f : Addr} {fd : FuncData} (F : Fun Γ.K "_law_random" "_law_random" s__law_random f fd) (T : TX Γ mg) : FnOk P w Γ.K mg base CX0 1 f fd ["_law_script", "_law_salt"] (sp__law_random Γ) := by
  have nd := sc__law_random.nd
  refine F.ok sc__law_random (fun vs H Q E h => ?_) (fun cdv A outer s H vs Q E hr h => ⟨t__law_random Γ, ?_, rd__law_random Γ  vs H Q E h⟩)
  · repeat (first | (obtain ⟨rfl, _⟩ := h; rfl) | (obtain ⟨_, h⟩ := h))
  · have hu := hr.units
    exact (pss_shut DS (pss_cons (ps_set (i := 2) nd rfl (Or.inl rfl) (pv 1))
  (pss_cons (ps_for PassesOwn.never rfl (pi_seq (pv 0)) (pg_name (i := 3) nd rfl (Or.inl rfl)) (pss_one (ps_set (i := 2) nd rfl (Or.inl rfl) (pe_op op_modU (pe_callTy call_int1 (by rfl) T.b_int (by decide +kernel) (pa_cons (pe_op op_addU (pe_op op_mulU (pv 2) pe_int) (pe_callB call_abs (by rfl) T.b_abs (by decide +kernel) (pa_cons (pv 3) pa_nil))) pa_nil)) pe_int))))
  (pss_one (ps_ret (pe_op op_addU (pe_lst (pa_cons (pv 2) (pa_cons pe_int pa_nil))) (pe_lc (own := [("_law_cell", 3)]) (g := (gName 3)) (tt := (tTest (tOp rGe (tVar 3) (tOp rPowI (tC (.int 10)) (tC (.int 18)))))) rfl nd (pi_seq (pv 0)) (blkOk_by (N := N__law_random) (sc := (defScope s__law_random)) (own := [("_law_cell", 3)]) (by decide +kernel)) (fun _ _ _ _ _ => (pg_name (i := 3) nd rfl (Or.inl rfl))) (fun _ _ _ _ _ => pts_one (pt_cmpR op_geU (pv 3) (pe_op op_powU pe_int pe_int) (nomark _))) (fun _ _ _ _ _ => (pv 3)))))))))
theorem ok__law_below {f : Addr} {fd : FuncData} (F : Fun Γ.K "_law_below" "_law_below" s__law_below f fd) (T : TX Γ mg) : FnOk P w Γ.K mg base CX0 1 f fd ["_law_d", "_law_size"] (sp__law_below Γ) := by
  have nd := sc__law_below.nd
  refine F.ok sc__law_below (fun vs H Q E h => ?_) (fun cdv A outer s H vs Q E hr h => ⟨t__law_below Γ, ?_, rd__law_below Γ  vs H Q E h⟩)
  · repeat (first | (obtain ⟨rfl, _⟩ := h; rfl) | (obtain ⟨_, h⟩ := h))
  · have hu := hr.units
    exact (pss_open DS (pss_cut (ps_if (PW.pt (pw_and (pt_cmpR (op_eqU hu) (pe_ix ix_seq (pv 0) pe_int (fun _ _ => rfl)) pe_int (nomark _)) (pw_and1 (pt_cmpR op_gtU (pe_callB call_len (by rfl) T.b_len (by decide +kernel) (pa_cons (pv 0) pa_nil)) pe_int (nomark _))))) (pss_one (ps_asg (pe_bm PySem.F.plainAttrs_list PySem.F.slot_list_pop PySem.F.type_list_pop mt_popAt (pv 0) (pa_cons pe_int pa_nil)) (pg_sub (pv 0) pe_int set_list))) pss_nil)
  (pss_cons (ps_if (pt_cmpR op_gtU (pe_ix ix_seq (pv 0) pe_int (fun _ _ => rfl)) pe_int (nomark _)) (pss_cons (ps_set (i := 2) nd rfl (Or.inl rfl) (pe_op op_modU (pe_callTy call_int1 (by rfl) T.b_int (by decide +kernel) (pa_cons (pe_ix ix_seq (pv 0) pe_int (fun _ _ => rfl)) pa_nil)) (pv 1)))
  (pss_cons (ps_asg (pe_op op_divU (pe_ix ix_seq (pv 0) pe_int (fun _ _ => rfl)) (pv 1)) (pg_sub (pv 0) pe_int set_list))
  (pss_one (ps_ret (pv 2))))) pss_nil)
  (pss_cons (ps_asg (pe_op op_modU (pe_callTy call_int1 (by rfl) T.b_int (by decide +kernel) (pa_cons (pe_op op_addU (pe_op op_mulU (pe_ix ix_seq (pv 0) pe_int (fun _ _ => rfl)) pe_int) pe_int) pa_nil)) pe_int) (pg_sub (pv 0) pe_int set_list))
  (pss_one (ps_ret (pe_op op_modU (pe_callTy call_int1 (by rfl) T.b_int (by decide +kernel) (pa_cons (pe_op op_divU (pe_ix ix_seq (pv 0) pe_int (fun _ _ => rfl)) pe_int) pa_nil)) (pv 1))))))))
theorem ok__law_pick {f : Addr} {fd : FuncData} (F : Fun Γ.K "_law_pick" "_law_pick" s__law_pick f fd) (T : TX Γ mg) (c__law_below : Cal P w Γ.K mg base CX0 "_law_below" 1 ["_law_d", "_law_size"] (sp__law_below Γ)) : FnOk P w Γ.K mg base CX0 2 f fd ["_law_d", "_law_items"] (sp__law_pick Γ) := by
  have nd := sc__law_pick.nd
  refine F.ok sc__law_pick (fun vs H Q E h => ?_) (fun cdv A outer s H vs Q E hr h => ⟨t__law_pick Γ, ?_, rd__law_pick Γ  vs H Q E h⟩)
  · repeat (first | (obtain ⟨rfl, _⟩ := h; rfl) | (obtain ⟨_, h⟩ := h))
  · have hu := hr.units
    exact (pss_one (ps_ret (pe_ix ix_seq (pv 1) (pe_cal c__law_below (hr.mono (by omega)) (by rfl) pass0 (pa_cons (pv 0) (pa_cons (pe_callB call_len (by rfl) T.b_len (by decide +kernel) (pa_cons (pv 1) pa_nil)) pa_nil))) (fun _ _ => rfl))))
theorem ok__law_equal {f : Addr} {fd : FuncData} (F : Fun Γ.K "_law_equal" "_law_equal" s__law_equal f fd) (T : TX Γ mg) (hm : mg "_law_equal" = some (.ref f)) : ∀ n : Nat, FnOk P w Γ.K mg base CX0 (1 + n) f fd ["_law_actual", "_law_expected"] (spn__law_equal Γ n)
  | 0 => by
    have nd := sc__law_equal.nd
    refine F.ok (k := 0) sc__law_equal (fun vs H Q E h => ?_) (fun cdv A outer s H vs Q E hr h => (rd0__law_equal Γ  vs H Q E h).elim)
    repeat (first | (obtain ⟨rfl, _⟩ := h; rfl) | (obtain ⟨_, h⟩ := h))
  | n + 1 => by
    have nd := sc__law_equal.nd
    have c__law_equal : Cal P w Γ.K mg base CX0 "_law_equal" (1 + n) ["_law_actual", "_law_expected"] (spn__law_equal Γ n) := ⟨f, fd, ok__law_equal F T hm  n, hm, F.kp, b__law_equal F⟩
    refine F.ok (k := 1 + n) sc__law_equal (fun vs H Q E h => ?_) (fun cdv A outer s H vs Q E hr h => ⟨t__law_equal Γ n, ?_, rd__law_equal Γ  n vs H Q E h⟩)
    · repeat (first | (obtain ⟨rfl, _⟩ := h; rfl) | (obtain ⟨_, h⟩ := h))
    · have hu := hr.units
      exact (pss_cons (ps_if (pt_cmpR op_isU (pv 1) pe_non (nomark _)) (pss_one (ps_ret (pe_cmpR op_isU (pv 0) pe_non (nomark _)))) pss_nil)
  (pss_cons (ps_if (pt_val (pe_callB call_isi (by rfl) T.b_isinstance (by decide +kernel) (pa_cons (pv 1) (pa_cons (pe_bltn (by rfl) T.b_bool (by decide +kernel) (v := .ty "bool") rfl) pa_nil)))) (pss_one (ps_ret (pe_and (pe_callB call_isi (by rfl) T.b_isinstance (by decide +kernel) (pa_cons (pv 0) (pa_cons (pe_bltn (by rfl) T.b_bool (by decide +kernel) (v := .ty "bool") rfl) pa_nil))) (pe_one (pe_cmpR (op_eqU hu) (pv 0) (pv 1) (nomark _)))))) pss_nil)
  (pss_cons (ps_if (pt_val (pe_callB call_isi (by rfl) T.b_isinstance (by decide +kernel) (pa_cons (pv 1) (pa_cons (pe_bltn (by rfl) T.b_int (by decide +kernel) (v := .ty "int") rfl) pa_nil)))) (pss_one (ps_ret (pe_and (pe_callB call_isi (by rfl) T.b_isinstance (by decide +kernel) (pa_cons (pv 0) (pa_cons (pe_bltn (by rfl) T.b_int (by decide +kernel) (v := .ty "int") rfl) pa_nil))) (pe_and (pe_not (pe_callB call_isi (by rfl) T.b_isinstance (by decide +kernel) (pa_cons (pv 0) (pa_cons (pe_bltn (by rfl) T.b_bool (by decide +kernel) (v := .ty "bool") rfl) pa_nil)))) (pe_one (pe_cmpR (op_eqU hu) (pv 0) (pv 1) (nomark _))))))) pss_nil)
  (pss_cons (ps_if (pt_val (pe_callB call_isi (by rfl) T.b_isinstance (by decide +kernel) (pa_cons (pv 1) (pa_cons (pe_bltn (by rfl) T.b_str (by decide +kernel) (v := .ty "str") rfl) pa_nil)))) (pss_one (ps_ret (pe_and (pe_callB call_isi (by rfl) T.b_isinstance (by decide +kernel) (pa_cons (pv 0) (pa_cons (pe_bltn (by rfl) T.b_str (by decide +kernel) (v := .ty "str") rfl) pa_nil))) (pe_one (pe_cmpR (op_eqU hu) (pv 0) (pv 1) (nomark _)))))) pss_nil)
  (pss_cons (ps_if (pt_val (pe_callB call_isi (by rfl) T.b_isinstance (by decide +kernel) (pa_cons (pv 1) (pa_cons (pe_bltn (by rfl) T.b_dict (by decide +kernel) (v := .ty "dict") rfl) pa_nil)))) pss_never pss_nil)
  (pss_cons (ps_if (pt_cmpR (op_neU hu) (pe_callB call_isi (by rfl) T.b_isinstance (by decide +kernel) (pa_cons (pv 1) (pa_cons (pe_bltn (by rfl) T.b_tuple (by decide +kernel) (v := .ty "tuple") rfl) pa_nil))) (pe_callB call_isi (by rfl) T.b_isinstance (by decide +kernel) (pa_cons (pv 0) (pa_cons (pe_bltn (by rfl) T.b_tuple (by decide +kernel) (v := .ty "tuple") rfl) pa_nil))) (nomark _)) (pss_one (ps_ret pe_bl)) pss_nil)
  (pss_cons (ps_if (pt_cmpR (op_neU hu) (pe_callB call_isi (by rfl) T.b_isinstance (by decide +kernel) (pa_cons (pv 1) (pa_cons (pe_bltn (by rfl) T.b_list (by decide +kernel) (v := .ty "list") rfl) pa_nil))) (pe_callB call_isi (by rfl) T.b_isinstance (by decide +kernel) (pa_cons (pv 0) (pa_cons (pe_bltn (by rfl) T.b_list (by decide +kernel) (v := .ty "list") rfl) pa_nil))) (nomark _)) (pss_one (ps_ret pe_bl)) pss_nil)
  (pss_cons (ps_if (pt_cmpR (op_neU hu) (pe_callB call_len (by rfl) T.b_len (by decide +kernel) (pa_cons (pv 0) pa_nil)) (pe_callB call_len (by rfl) T.b_len (by decide +kernel) (pa_cons (pv 1) pa_nil)) (nomark _)) (pss_one (ps_ret pe_bl)) pss_nil)
  (pss_one (ps_ret (pe_callB (cr_all rfl) (by rfl) T.b_all (by decide +kernel) (pa_cons (pe_lc (own := [("_law_k", 3)]) (g := (gName 3)) (tt := tYes) rfl nd (pi_range1 rfl T.b_range (pa_cons (pe_callB call_len (by rfl) T.b_len (by decide +kernel) (pa_cons (pv 1) pa_nil)) pa_nil)) (blkOk_by (N := N__law_equal) (sc := (defScope s__law_equal)) (own := [("_law_k", 3)]) (by decide +kernel)) (fun _ _ _ _ _ => (pg_name (i := 3) nd rfl (Or.inl rfl))) (fun _ _ _ _ _ => pts_nil) (fun _ _ _ _ _ => (pe_cal c__law_equal (hr.mono (by omega)) (by rfl) pass0 (pa_cons (pe_ix ix_seq (pv 0) (pv 3) (fun _ _ => rfl)) (pa_cons (pe_ix ix_seq (pv 1) (pv 3) (fun _ _ => rfl)) pa_nil))))) pa_nil))))))))))))
theorem ok__law_choose {f : Addr} {fd : FuncData} (F : Fun Γ.K "_law_choose" "_law_choose" s__law_choose f fd) (T : TX Γ mg) : FnOk P w Γ.K mg base CX0 1 f fd ["_law_n", "_law_k"] (sp__law_choose Γ) := by
  have nd := sc__law_choose.nd
  refine F.ok sc__law_choose (fun vs H Q E h => ?_) (fun cdv A outer s H vs Q E hr h => ⟨t__law_choose Γ, ?_, rd__law_choose Γ  vs H Q E h⟩)
  · repeat (first | (obtain ⟨rfl, _⟩ := h; rfl) | (obtain ⟨_, h⟩ := h))
  · have hu := hr.units
    exact (pss_cons (ps_set (i := 2) nd rfl (Or.inl rfl) pe_int)
  (pss_cons (ps_for PassesOwn.never rfl (pi_range1 rfl T.b_range (pa_cons (pv 1) pa_nil)) (pg_name (i := 3) nd rfl (Or.inl rfl)) (pss_one (ps_set (i := 2) nd rfl (Or.inl rfl) (pe_op op_divU (pe_op op_mulU (pv 2) (pe_op op_subU (pv 0) (pv 3))) (pe_op op_addU (pv 3) pe_int)))))
  (pss_one (ps_ret (pv 2)))))
theorem ok__law_power {f : Addr} {fd : FuncData} (F : Fun Γ.K "_law_power" "_law_power" s__law_power f fd) (T : TX Γ mg) : FnOk P w Γ.K mg base CX0 1 f fd ["_law_base", "_law_times_so"] (sp__law_power Γ) := by
  have nd := sc__law_power.nd
  refine F.ok sc__law_power (fun vs H Q E h => ?_) (fun cdv A outer s H vs Q E hr h => ⟨t__law_power Γ, ?_, rd__law_power Γ  vs H Q E h⟩)
  · repeat (first | (obtain ⟨rfl, _⟩ := h; rfl) | (obtain ⟨_, h⟩ := h))
  · have hu := hr.units
    exact (pss_cons (ps_set (i := 2) nd rfl (Or.inl rfl) pe_int)
  (pss_cons (ps_for PassesOwn.never rfl (pi_range1 rfl T.b_range (pa_cons (pv 1) pa_nil)) (pg_name (i := 3) nd rfl (Or.inl rfl)) (pss_one (ps_set (i := 2) nd rfl (Or.inl rfl) (pe_op op_mulU (pv 2) (pv 0)))))
  (pss_one (ps_ret (pv 2)))))
theorem ok_law {f : Addr} {fd : FuncData} (F : Fun Γ.K "law" "law" s_law f fd) (T : TX Γ mg) (c_RuleU_initU : CalC P w Γ.K mg base (L2.CX P w) Γ.cRule "Rule" 5 ["self", "kind", "parts"] (sp_RuleU_initU Γ)) (c__law_below : Cal P w Γ.K mg base CX0 "_law_below" 1 ["_law_d", "_law_size"] (sp__law_below Γ)) (c__law_choose : Cal P w Γ.K mg base CX0 "_law_choose" 1 ["_law_n", "_law_k"] (sp__law_choose Γ)) (c__law_equal : Cal P w Γ.K mg base CX0 "_law_equal" 46 ["_law_actual", "_law_expected"] (sp__law_equal Γ)) (c__law_pick : Cal P w Γ.K mg base CX0 "_law_pick" 2 ["_law_d", "_law_items"] (sp__law_pick Γ)) (c__law_power : Cal P w Γ.K mg base CX0 "_law_power" 1 ["_law_base", "_law_times_so"] (sp__law_power Γ)) (c__law_random : Cal P w Γ.K mg base CX0 "_law_random" 1 ["_law_script", "_law_salt"] (sp__law_random Γ)) (c_formula : Cal P w Γ.K mg base (L2.CX P w) "formula" 6 ["rule"] (sp_formula Γ)) (c_is_sure : Cal P w Γ.K mg base CX0 "is_sure" 5 ["rule"] (sp_is_sure Γ)) (c_sure_sum : Cal P w Γ.K mg base (L2.CX P w) "sure_sum" 7 ["rule", "heap"] (sp_sure_sum Γ)) : FnOk P w Γ.K mg base CX0 47 f fd ["_law_script"] (spLaw Γ.K) := by
  have nd := sc_law.nd
  refine F.ok sc_law (fun vs H Q E h => ?_) (fun cdv A outer s H vs Q E hr h => ⟨t_law_k07 Γ, ?_, rd_law_k07 Γ  vs H Q E h⟩)
  · repeat (first | (obtain ⟨rfl, _⟩ := h; rfl) | (obtain ⟨_, h⟩ := h))
  · have hu := hr.units
    exact (pss_cons (ps_set (i := 1) nd rfl (Or.inl rfl) (pe_cal c__law_random (hr.mono (by omega)) (by rfl) pass0 (pa_cons (pv 0) (pa_cons pe_int pa_nil))))
  (pss_cons (ps_for PassesOwn.never rfl (pi_range1 rfl T.b_range (pa_cons pe_int pa_nil)) (pg_name (i := 2) nd rfl (Or.inl rfl)) (pss_cons (ps_asg (pe_tup (pa_cons (pe_op op_addU pe_int (pe_cal c__law_below (hr.mono (by omega)) (by rfl) pass0 (pa_cons (pv 1) (pa_cons pe_int pa_nil)))) (pa_cons (pe_cal c__law_pick (hr.mono (by omega)) (by rfl) pass0 (pa_cons (pv 1) (pa_cons (pe_lst (pa_cons pe_int (pa_cons (pe_un un_neg pe_int) (pa_cons pe_int (pa_cons (pe_op op_addU pe_int (pe_cal c__law_below (hr.mono (by omega)) (by rfl) pass0 (pa_cons (pv 1) (pa_cons pe_int pa_nil)))) pa_nil))))) pa_nil))) pa_nil))) (pg_tup rfl (pgs_cons (pg_name (i := 3) nd rfl (Or.inr rfl)) (pgs_cons (pg_name (i := 4) nd rfl (Or.inr rfl)) pgs_nil))))
  (pss_cons (ps_setLc (i := 5) (own := [("_law_i", 10)]) (g := (gName 10)) (tt := tYes) rfl nd rfl rfl (sw_true rfl rfl rfl (by decide +kernel)) (pi_range2 rfl T.b_range (pa_cons pe_int (pa_cons (pv 3) pa_nil))) (blkOk_by (N := N_law) (sc := (defScope s_law)) (own := [("_law_i", 10)]) (by decide +kernel)) (fun _ _ _ _ _ => (pg_name (i := 10) nd rfl (Or.inl rfl))) (fun _ _ _ _ _ => pts_nil) (fun _ _ _ _ _ => (pe_tup (pa_cons (pe_op op_mulU (pv 4) (pe_cal c__law_choose (hr.mono (by omega)) (by rfl) pass0 (pa_cons (pv 3) (pa_cons (pv 10) pa_nil)))) (pa_cons (pv 10) (pa_cons (pe_op op_subU (pv 3) (pv 10)) pa_nil))))))
  (pss_cons (ps_set (i := 6) nd rfl (Or.inl rfl) (pe_op op_subU (pe_cal c__law_below (hr.mono (by omega)) (by rfl) pass0 (pa_cons (pv 1) (pa_cons pe_int pa_nil))) pe_int))
  (pss_cons (ps_set (i := 7) nd rfl (Or.inl rfl) (pe_mak c_RuleU_initU (hr.mono (by omega)) (by rfl) passL (pa_cons pe_str (pa_cons (pe_callTy call_tuple_of (by rfl) T.b_tuple (by decide +kernel) (pa_cons (pe_op op_addU (pv 5) (pe_lst (pa_cons (pe_tup (pa_cons (pv 6) (pa_cons pe_int (pa_cons pe_int pa_nil)))) pa_nil))) pa_nil)) pa_nil))))
  (pss_cons (ps_set (i := 8) nd rfl (Or.inl rfl) (pe_cal c__law_pick (hr.mono (by omega)) (by rfl) pass0 (pa_cons (pv 1) (pa_cons (pe_lst (pa_cons (pe_op op_addU pe_int (pe_cal c__law_below (hr.mono (by omega)) (by rfl) pass0 (pa_cons (pv 1) (pa_cons (pe_op op_powU pe_int pe_int) pa_nil)))) (pa_cons (pe_op op_powU pe_int pe_int) (pa_cons (pe_op op_addU (pe_op op_powU pe_int pe_int) (pe_cal c__law_below (hr.mono (by omega)) (by rfl) pass0 (pa_cons (pv 1) (pa_cons (pe_op op_powU pe_int pe_int) pa_nil)))) pa_nil)))) pa_nil))))
  (pss_cons (ps_set (i := 9) nd rfl (Or.inl rfl) (pe_op op_addU (pe_op op_mulU (pv 4) (pe_op op_subU (pe_cal c__law_power (hr.mono (by omega)) (by rfl) pass0 (pa_cons (pv 8) (pa_cons (pv 3) pa_nil))) (pv 8))) (pe_op op_mulU (pv 6) (pe_op op_subU (pv 8) pe_int))))
  (pss_cons (ps_if (PW.pt (pw_or (pt_not (pt_val (pe_cal c_is_sure (hr.mono (by omega)) (by rfl) pass0 (pa_cons (pv 7) pa_nil)))) (pw_or1 (pt_not (pt_val (pe_cal c__law_equal (hr.mono (by omega)) (by rfl) pass0 (pa_cons (pe_cal c_sure_sum (hr.mono (by omega)) (by rfl) passL (pa_cons (pv 7) (pa_cons (pv 8) pa_nil))) (pa_cons (pv 9) pa_nil)))))))) (pss_one (ps_ret pe_bl)) pss_nil)
  (pss_cons (ps_set (i := 9) nd rfl (Or.inl rfl) (pe_op op_addU (pe_op op_addU (pe_lst (pa_cons (pe_tup (pa_cons (pe_op op_subU pe_int (pv 6)) (pa_cons pe_int pa_nil))) (pa_cons (pe_tup (pa_cons (pe_op op_subU (pv 6) (pv 4)) (pa_cons pe_int pa_nil))) pa_nil))) (pe_op op_mulU (pe_lst (pa_cons (pe_tup (pa_cons pe_int (pa_cons pe_int pa_nil))) pa_nil)) (pe_op op_subU (pv 3) pe_int))) (pe_lst (pa_cons (pe_tup (pa_cons (pv 4) (pa_cons pe_int pa_nil))) pa_nil))))
  (pss_one (ps_if (pt_not (pt_val (pe_cal c__law_equal (hr.mono (by omega)) (by rfl) pass0 (pa_cons (pe_cal c_formula (hr.mono (by omega)) (by rfl) passL (pa_cons (pv 7) pa_nil)) (pa_cons (pe_callTy call_tuple_of (by rfl) T.b_tuple (by decide +kernel) (pa_cons (pv 9) pa_nil)) pa_nil))))) (pss_one (ps_ret pe_bl)) pss_nil)))))))))))
  (pss_one (ps_ret (pe_and (pe_cal c__law_equal (hr.mono (by omega)) (by rfl) pass0 (pa_cons (pe_cal c_formula (hr.mono (by omega)) (by rfl) passL (pa_cons (pe_mak c_RuleU_initU (hr.mono (by omega)) (by rfl) passL (pa_cons pe_str (pa_cons (pe_tup pa_nil) pa_nil))) pa_nil)) (pa_cons (pe_tup pa_nil) pa_nil))) (pe_one (pe_cal c__law_equal (hr.mono (by omega)) (by rfl) pass0 (pa_cons (pe_cal c_sure_sum (hr.mono (by omega)) (by rfl) passL (pa_cons (pe_mak c_RuleU_initU (hr.mono (by omega)) (by rfl) passL (pa_cons pe_str (pa_cons (pe_tup pa_nil) pa_nil))) (pa_cons (pe_op op_powU pe_int pe_int) pa_nil))) (pa_cons pe_int pa_nil)))))))))
end
theorem all {l : PySem.W.OpenLaw} {w : World} {K : PySem.W.Frag} {h : Heap} {mg : Str → Option Value} {fa : Addr} (X : K.In h) (G : h.Ns mainGlobals mg) (hfa : mg "law" = some (.ref fa))
    {cBadHeap cBadRule cNoTerms cRule f_RuleU_initU : Addr}
    {t_MOST_TABLE t_MOST_HEAP t_MOST_POINTS t_MOST_TERMS t_MOST_EXPONENT : Tok}
    (D_is_integer : DefAt K mg "is_integer" "is_integer" s_is_integer)
    (D_is_from : DefAt K mg "is_from" "is_from" s_is_from)
    (D_are_rows : DefAt K mg "are_rows" "are_rows" s_are_rows)
    (D_is_term : DefAt K mg "is_term" "is_term" s_is_term)
    (D_are_terms : DefAt K mg "are_terms" "are_terms" s_are_terms)
    (D_most_of : DefAt K mg "most_of" "most_of" s_most_of)
    (D_raised : DefAt K mg "raised" "raised" s_raised)
    (D_points_by : DefAt K mg "points_by" "points_by" s_points_by)
    (D_check_heap : DefAt K mg "check_heap" "check_heap" s_check_heap)
    (D_triples_of : DefAt K mg "triples_of" "triples_of" s_triples_of)
    (D_is_even : DefAt K mg "is_even" "is_even" s_is_even)
    (D_clash : DefAt K mg "clash" "clash" s_clash)
    (D_is_sure : DefAt K mg "is_sure" "is_sure" s_is_sure)
    (D_lowest : DefAt K mg "lowest" "lowest" s_lowest)
    (D_plus : DefAt K mg "plus" "plus" s_plus)
    (D_times_root : DefAt K mg "times_root" "times_root" s_times_root)
    (D_through : DefAt K mg "through" "through" s_through)
    (D_value_at : DefAt K mg "value_at" "value_at" s_value_at)
    (D_sums_to : DefAt K mg "sums_to" "sums_to" s_sums_to)
    (D_line_of : DefAt K mg "line_of" "line_of" s_line_of)
    (D_one_by_one : DefAt K mg "one_by_one" "one_by_one" s_one_by_one)
    (D_formula : DefAt K mg "formula" "formula" s_formula)
    (D_sure_sum : DefAt K mg "sure_sum" "sure_sum" s_sure_sum)
    (D__law_random : DefAt K mg "_law_random" "_law_random" s__law_random)
    (D__law_below : DefAt K mg "_law_below" "_law_below" s__law_below)
    (D__law_pick : DefAt K mg "_law_pick" "_law_pick" s__law_pick)
    (D__law_equal : DefAt K mg "_law_equal" "_law_equal" s__law_equal)
    (D__law_choose : DefAt K mg "_law_choose" "_law_choose" s__law_choose)
    (D__law_power : DefAt K mg "_law_power" "_law_power" s__law_power)
    (D_law : DefAt K mg "law" "law" s_law)
    (b_abs : PySem.W.nsIn K mainGlobals "abs" = some none)
    (b_all : PySem.W.nsIn K mainGlobals "all" = some none)
    (b_bool : PySem.W.nsIn K mainGlobals "bool" = some none)
    (b_dict : PySem.W.nsIn K mainGlobals "dict" = some none)
    (b_enumerate : PySem.W.nsIn K mainGlobals "enumerate" = some none)
    (b_int : PySem.W.nsIn K mainGlobals "int" = some none)
    (b_isinstance : PySem.W.nsIn K mainGlobals "isinstance" = some none)
    (b_len : PySem.W.nsIn K mainGlobals "len" = some none)
    (b_list : PySem.W.nsIn K mainGlobals "list" = some none)
    (b_min : PySem.W.nsIn K mainGlobals "min" = some none)
    (b_range : PySem.W.nsIn K mainGlobals "range" = some none)
    (b_str : PySem.W.nsIn K mainGlobals "str" = some none)
    (b_sum : PySem.W.nsIn K mainGlobals "sum" = some none)
    (b_tuple : PySem.W.nsIn K mainGlobals "tuple" = some none)
    (b_zip : PySem.W.nsIn K mainGlobals "zip" = some none)
    (g_MOST_TABLE : PySem.W.nsIn K mainGlobals "MOST_TABLE" = some (some (.int 40 t_MOST_TABLE)))
    (g_MOST_HEAP : PySem.W.nsIn K mainGlobals "MOST_HEAP" = some (some (.int 1000000000000000000000000000000 t_MOST_HEAP)))
    (g_MOST_POINTS : PySem.W.nsIn K mainGlobals "MOST_POINTS" = some (some (.int 1000000 t_MOST_POINTS)))
    (g_MOST_TERMS : PySem.W.nsIn K mainGlobals "MOST_TERMS" = some (some (.int 6 t_MOST_TERMS)))
    (g_MOST_EXPONENT : PySem.W.nsIn K mainGlobals "MOST_EXPONENT" = some (some (.int 4 t_MOST_EXPONENT)))
    (a_BadHeap : PySem.W.nsIn K mainGlobals "BadHeap" = some (some (.ref cBadHeap)))
    (a_BadRule : PySem.W.nsIn K mainGlobals "BadRule" = some (some (.ref cBadRule)))
    (a_NoTerms : PySem.W.nsIn K mainGlobals "NoTerms" = some (some (.ref cNoTerms)))
    (a_Rule : PySem.W.nsIn K mainGlobals "Rule" = some (some (.ref cRule)))
    (pg_Rule : PySem.W.plainGet K cRule Str.empty = true)
    (hd_Rule : PySem.W.hasDictIn K cRule = true)
    (po_Rule : PySem.W.plainOver K cRule = true)
    (sa_Rule : PySem.W.findIn K (.ref cRule) "__setattr__" = some (some (.builtin "object.__setattr__")))
    (nF_Rule : PySem.W.findIn K (.ref cRule) "form" = some none)
    (nB_Rule : PySem.W.findIn K (.ref cRule) "body" = some none)
    (f_RuleU_initU_at : PySem.W.findIn K (.ref cRule) "__init__" = some (some (.ref f_RuleU_initU)))
    (i_RuleU_initU : PySem.W.isFn K (.ref f_RuleU_initU) = true)
    (F_RuleU_initU : FunAt K "__init__" "Rule.__init__" s_RuleU_initU f_RuleU_initU)
    (mk_RuleU_initU : PySem.W.makesIn K cRule = true)
    (kc_RuleU_initU : PySem.W.keepIn K (.ref cRule) = true)
    (xx_BadHeap : PySem.W.excIn K cBadHeap [.type "ValueError", .type "Exception", .type "BaseException", .type "object"] "ValueError.__new__" = true)
    (xk_BadHeap : PySem.W.keepIn K (.ref cBadHeap) = true)
    (xb_BadHeap : PySem.W.subIn K (.ref cBadHeap) (.type "BaseException") = some true)
    (xt_BadHeap : PySem.W.typeIn K (.ref cBadHeap) = some (.type "type"))
    (xx_BadRule : PySem.W.excIn K cBadRule [.type "ValueError", .type "Exception", .type "BaseException", .type "object"] "ValueError.__new__" = true)
    (xk_BadRule : PySem.W.keepIn K (.ref cBadRule) = true)
    (xb_BadRule : PySem.W.subIn K (.ref cBadRule) (.type "BaseException") = some true)
    (xt_BadRule : PySem.W.typeIn K (.ref cBadRule) = some (.type "type"))
    (xx_NoTerms : PySem.W.excIn K cNoTerms [.type "ValueError", .type "Exception", .type "BaseException", .type "object"] "ValueError.__new__" = true)
    (xk_NoTerms : PySem.W.keepIn K (.ref cNoTerms) = true)
    (xb_NoTerms : PySem.W.subIn K (.ref cNoTerms) (.type "BaseException") = some true)
    (xt_NoTerms : PySem.W.typeIn K (.ref cNoTerms) = some (.type "type"))
    : ∃ fd : FuncData, (∀ (s : Shared) (v : Value), BindsTo s fd ⟨[v], []⟩ [("_law_script", v)]) ∧ ∀ base : Heap, K.In base → base.Ns mainGlobals mg → FnOk l.prog w K mg base CX0 47 fa fd ["_law_script"] (spLaw K) := by
  obtain ⟨Γ, hΓ⟩ : ∃ Γ : Gm, Γ = { K := K, cRule := cRule, cGame := fa, cSplitError := fa, cBadRule := cBadRule, cBadHeap := cBadHeap, cBadSplit := fa, cNoTerms := cNoTerms, cNoTable := fa, cNotSure := fa, cBadWay := fa, cBadStyle := fa, cBadSums := fa, cBadNumber := fa, cTooGreat := fa, cBadRow := fa, cBadPlace := fa, cBadText := fa, aSTYLES := fa } := ⟨_, rfl⟩
  have hK : K = Γ.K := by rw [hΓ]
  have h_cBadHeap : cBadHeap = Γ.cBadHeap := by rw [hΓ]
  have h_cBadRule : cBadRule = Γ.cBadRule := by rw [hΓ]
  have h_cNoTerms : cNoTerms = Γ.cNoTerms := by rw [hΓ]
  have h_cRule : cRule = Γ.cRule := by rw [hΓ]
  clear hΓ
  subst h_cBadHeap h_cBadRule h_cNoTerms h_cRule hK
  have cls_Rule : Cls Γ.K Γ.cRule := ⟨pg_Rule, hd_Rule, po_Rule, sa_Rule⟩
  have T : TX Γ mg := {
    b_abs := PySem.W.mg_none_of X G b_abs
    b_all := PySem.W.mg_none_of X G b_all
    b_bool := PySem.W.mg_none_of X G b_bool
    b_dict := PySem.W.mg_none_of X G b_dict
    b_enumerate := PySem.W.mg_none_of X G b_enumerate
    b_int := PySem.W.mg_none_of X G b_int
    b_isinstance := PySem.W.mg_none_of X G b_isinstance
    b_len := PySem.W.mg_none_of X G b_len
    b_list := PySem.W.mg_none_of X G b_list
    b_min := PySem.W.mg_none_of X G b_min
    b_range := PySem.W.mg_none_of X G b_range
    b_str := PySem.W.mg_none_of X G b_str
    b_sum := PySem.W.mg_none_of X G b_sum
    b_tuple := PySem.W.mg_none_of X G b_tuple
    b_zip := PySem.W.mg_none_of X G b_zip
    c_MOST_TABLE := ⟨_, PySem.W.mg_of X G g_MOST_TABLE⟩
    c_MOST_HEAP := ⟨_, PySem.W.mg_of X G g_MOST_HEAP⟩
    c_MOST_POINTS := ⟨_, PySem.W.mg_of X G g_MOST_POINTS⟩
    c_MOST_TERMS := ⟨_, PySem.W.mg_of X G g_MOST_TERMS⟩
    c_MOST_EXPONENT := ⟨_, PySem.W.mg_of X G g_MOST_EXPONENT⟩
    x_BadHeap := ⟨⟨_, xx_BadHeap, _, _, PySem.F.excBase_ValueError⟩, PySem.W.mg_of X G a_BadHeap, xk_BadHeap, xb_BadHeap, xt_BadHeap⟩
    x_BadRule := ⟨⟨_, xx_BadRule, _, _, PySem.F.excBase_ValueError⟩, PySem.W.mg_of X G a_BadRule, xk_BadRule, xb_BadRule, xt_BadRule⟩
    x_NoTerms := ⟨⟨_, xx_NoTerms, _, _, PySem.F.excBase_ValueError⟩, PySem.W.mg_of X G a_NoTerms, xk_NoTerms, xb_NoTerms, xt_NoTerms⟩
    rule := ⟨cls_Rule, nF_Rule, nB_Rule⟩
  }
  obtain ⟨fl, fdl, ml, Fl⟩ := D_law
  cases hfa.symm.trans ml
  obtain ⟨f_is_integer, fd_is_integer, m_is_integer, F_is_integer⟩ := D_is_integer
  obtain ⟨f_is_from, fd_is_from, m_is_from, F_is_from⟩ := D_is_from
  obtain ⟨f_are_rows, fd_are_rows, m_are_rows, F_are_rows⟩ := D_are_rows
  obtain ⟨f_is_term, fd_is_term, m_is_term, F_is_term⟩ := D_is_term
  obtain ⟨f_are_terms, fd_are_terms, m_are_terms, F_are_terms⟩ := D_are_terms
  obtain ⟨f_most_of, fd_most_of, m_most_of, F_most_of⟩ := D_most_of
  obtain ⟨f_raised, fd_raised, m_raised, F_raised⟩ := D_raised
  obtain ⟨f_points_by, fd_points_by, m_points_by, F_points_by⟩ := D_points_by
  obtain ⟨f_check_heap, fd_check_heap, m_check_heap, F_check_heap⟩ := D_check_heap
  obtain ⟨f_triples_of, fd_triples_of, m_triples_of, F_triples_of⟩ := D_triples_of
  obtain ⟨f_is_even, fd_is_even, m_is_even, F_is_even⟩ := D_is_even
  obtain ⟨f_clash, fd_clash, m_clash, F_clash⟩ := D_clash
  obtain ⟨f_is_sure, fd_is_sure, m_is_sure, F_is_sure⟩ := D_is_sure
  obtain ⟨f_lowest, fd_lowest, m_lowest, F_lowest⟩ := D_lowest
  obtain ⟨f_plus, fd_plus, m_plus, F_plus⟩ := D_plus
  obtain ⟨f_times_root, fd_times_root, m_times_root, F_times_root⟩ := D_times_root
  obtain ⟨f_through, fd_through, m_through, F_through⟩ := D_through
  obtain ⟨f_value_at, fd_value_at, m_value_at, F_value_at⟩ := D_value_at
  obtain ⟨f_sums_to, fd_sums_to, m_sums_to, F_sums_to⟩ := D_sums_to
  obtain ⟨f_line_of, fd_line_of, m_line_of, F_line_of⟩ := D_line_of
  obtain ⟨f_one_by_one, fd_one_by_one, m_one_by_one, F_one_by_one⟩ := D_one_by_one
  obtain ⟨f_formula, fd_formula, m_formula, F_formula⟩ := D_formula
  obtain ⟨f_sure_sum, fd_sure_sum, m_sure_sum, F_sure_sum⟩ := D_sure_sum
  obtain ⟨f__law_random, fd__law_random, m__law_random, F__law_random⟩ := D__law_random
  obtain ⟨f__law_below, fd__law_below, m__law_below, F__law_below⟩ := D__law_below
  obtain ⟨f__law_pick, fd__law_pick, m__law_pick, F__law_pick⟩ := D__law_pick
  obtain ⟨f__law_equal, fd__law_equal, m__law_equal, F__law_equal⟩ := D__law_equal
  obtain ⟨f__law_choose, fd__law_choose, m__law_choose, F__law_choose⟩ := D__law_choose
  obtain ⟨f__law_power, fd__law_power, m__law_power, F__law_power⟩ := D__law_power
  obtain ⟨fd_RuleU_initU, F_RuleU_initU⟩ := F_RuleU_initU
  refine ⟨fdl, fun s v => ?_, fun base kin kns => ?_⟩
  · obtain ⟨_, _, _, _, _, _, _, _, _, rfl, _, _⟩ := Fl.ex
    exact .of_eq rfl
  have c_is_integer : Cal l.prog w Γ.K mg base CX0 "is_integer" 1 ["value"] (sp_is_integer Γ) := ⟨f_is_integer, fd_is_integer, ok_is_integer F_is_integer T , m_is_integer, F_is_integer.kp, b_is_integer F_is_integer⟩
  have c_is_from : Cal l.prog w Γ.K mg base CX0 "is_from" 2 ["value", "low", "high"] (sp_is_from Γ) := ⟨f_is_from, fd_is_from, ok_is_from F_is_from T c_is_integer, m_is_from, F_is_from.kp, b_is_from F_is_from⟩
  have c_are_rows : Cal l.prog w Γ.K mg base CX0 "are_rows" 3 ["value"] (sp_are_rows Γ) := ⟨f_are_rows, fd_are_rows, ok_are_rows F_are_rows T c_is_from, m_are_rows, F_are_rows.kp, b_are_rows F_are_rows⟩
  have c_is_term : Cal l.prog w Γ.K mg base CX0 "is_term" 3 ["value"] (sp_is_term Γ) := ⟨f_is_term, fd_is_term, ok_is_term F_is_term T c_is_from, m_is_term, F_is_term.kp, b_is_term F_is_term⟩
  have c_are_terms : Cal l.prog w Γ.K mg base CX0 "are_terms" 4 ["value"] (sp_are_terms Γ) := ⟨f_are_terms, fd_are_terms, ok_are_terms F_are_terms T c_is_term, m_are_terms, F_are_terms.kp, b_are_terms F_are_terms⟩
  have c_RuleU_initU : CalC l.prog w Γ.K mg base (L2.CX l.prog w) Γ.cRule "Rule" 5 ["self", "kind", "parts"] (sp_RuleU_initU Γ) := ⟨PySem.W.mg_of X G a_Rule, f_RuleU_initU, fd_RuleU_initU, ok_RuleU_initU F_RuleU_initU T c_are_rows c_are_terms, ⟨mk_RuleU_initU, f_RuleU_initU_at, i_RuleU_initU, kc_RuleU_initU⟩, b_RuleU_initU F_RuleU_initU⟩
  have c_most_of : Cal l.prog w Γ.K mg base CX0 "most_of" 1 ["rule"] (sp_most_of Γ) := ⟨f_most_of, fd_most_of, ok_most_of F_most_of T , m_most_of, F_most_of.kp, b_most_of F_most_of⟩
  have c_raised : Cal l.prog w Γ.K mg base CX0 "raised" 1 ["base", "exponent"] (sp_raised Γ) := ⟨f_raised, fd_raised, ok_raised F_raised T , m_raised, F_raised.kp, b_raised F_raised⟩
  have c_points_by : Cal l.prog w Γ.K mg base CX0 "points_by" 2 ["rule", "first", "second"] (sp_points_by Γ) := ⟨f_points_by, fd_points_by, ok_points_by F_points_by T c_raised, m_points_by, F_points_by.kp, b_points_by F_points_by⟩
  have c_check_heap : Cal l.prog w Γ.K mg base (L2.CX l.prog w) "check_heap" 3 ["rule", "heap", "most"] (sp_check_heap Γ) := ⟨f_check_heap, fd_check_heap, ok_check_heap F_check_heap T c_is_from c_most_of, m_check_heap, F_check_heap.kp, b_check_heap F_check_heap⟩
  have c_triples_of : Cal l.prog w Γ.K mg base CX0 "triples_of" 2 ["rule"] (sp_triples_of Γ) := ⟨f_triples_of, fd_triples_of, ok_triples_of F_triples_of T c_most_of, m_triples_of, F_triples_of.kp, b_triples_of F_triples_of⟩
  have c_is_even : Cal l.prog w Γ.K mg base CX0 "is_even" 3 ["rule", "first", "second", "third"] (sp_is_even Γ) := ⟨f_is_even, fd_is_even, ok_is_even F_is_even T c_points_by, m_is_even, F_is_even.kp, b_is_even F_is_even⟩
  have c_clash : Cal l.prog w Γ.K mg base CX0 "clash" 4 ["rule"] (sp_clash Γ) := ⟨f_clash, fd_clash, ok_clash F_clash T c_is_even c_triples_of, m_clash, F_clash.kp, b_clash F_clash⟩
  have c_is_sure : Cal l.prog w Γ.K mg base CX0 "is_sure" 5 ["rule"] (sp_is_sure Γ) := ⟨f_is_sure, fd_is_sure, ok_is_sure F_is_sure T c_clash, m_is_sure, F_is_sure.kp, b_is_sure F_is_sure⟩
  have c_lowest : Cal l.prog w Γ.K mg base CX0 "lowest" 1 ["over", "under"] (sp_lowest Γ) := ⟨f_lowest, fd_lowest, ok_lowest F_lowest T , m_lowest, F_lowest.kp, b_lowest F_lowest⟩
  have c_plus : Cal l.prog w Γ.K mg base CX0 "plus" 2 ["one", "other"] (sp_plus Γ) := ⟨f_plus, fd_plus, ok_plus F_plus T c_lowest, m_plus, F_plus.kp, b_plus F_plus⟩
  have c_times_root : Cal l.prog w Γ.K mg base CX0 "times_root" 3 ["row", "root"] (sp_times_root Γ) := ⟨f_times_root, fd_times_root, ok_times_root F_times_root T c_plus, m_times_root, F_times_root.kp, b_times_root F_times_root⟩
  have c_through : Cal l.prog w Γ.K mg base CX0 "through" 4 ["values"] (sp_through Γ) := ⟨f_through, fd_through, ok_through F_through T c_lowest c_plus c_times_root, m_through, F_through.kp, b_through F_through⟩
  have c_value_at : Cal l.prog w Γ.K mg base CX0 "value_at" 3 ["row", "number"] (sp_value_at Γ) := ⟨f_value_at, fd_value_at, ok_value_at F_value_at T c_plus, m_value_at, F_value_at.kp, b_value_at F_value_at⟩
  have c_sums_to : Cal l.prog w Γ.K mg base CX0 "sums_to" 3 ["rule", "most", "is_first"] (sp_sums_to Γ) := ⟨f_sums_to, fd_sums_to, ok_sums_to F_sums_to T c_points_by, m_sums_to, F_sums_to.kp, b_sums_to F_sums_to⟩
  have c_line_of : Cal l.prog w Γ.K mg base CX0 "line_of" 5 ["rule", "is_first"] (sp_line_of Γ) := ⟨f_line_of, fd_line_of, ok_line_of F_line_of T c_sums_to c_through, m_line_of, F_line_of.kp, b_line_of F_line_of⟩
  have c_one_by_one : Cal l.prog w Γ.K mg base CX0 "one_by_one" 6 ["rule", "heap", "is_first"] (sp_one_by_one Γ) := ⟨f_one_by_one, fd_one_by_one, ok_one_by_one F_one_by_one T c_line_of c_sums_to c_value_at, m_one_by_one, F_one_by_one.kp, b_one_by_one F_one_by_one⟩
  have c_formula : Cal l.prog w Γ.K mg base (L2.CX l.prog w) "formula" 6 ["rule"] (sp_formula Γ) := ⟨f_formula, fd_formula, ok_formula F_formula T c_clash c_line_of, m_formula, F_formula.kp, b_formula F_formula⟩
  have c_sure_sum : Cal l.prog w Γ.K mg base (L2.CX l.prog w) "sure_sum" 7 ["rule", "heap"] (sp_sure_sum Γ) := ⟨f_sure_sum, fd_sure_sum, ok_sure_sum F_sure_sum T c_check_heap c_clash c_one_by_one, m_sure_sum, F_sure_sum.kp, b_sure_sum F_sure_sum⟩
  have c__law_random : Cal l.prog w Γ.K mg base CX0 "_law_random" 1 ["_law_script", "_law_salt"] (sp__law_random Γ) := ⟨f__law_random, fd__law_random, ok__law_random F__law_random T , m__law_random, F__law_random.kp, b__law_random F__law_random⟩
  have c__law_below : Cal l.prog w Γ.K mg base CX0 "_law_below" 1 ["_law_d", "_law_size"] (sp__law_below Γ) := ⟨f__law_below, fd__law_below, ok__law_below F__law_below T , m__law_below, F__law_below.kp, b__law_below F__law_below⟩
  have c__law_pick : Cal l.prog w Γ.K mg base CX0 "_law_pick" 2 ["_law_d", "_law_items"] (sp__law_pick Γ) := ⟨f__law_pick, fd__law_pick, ok__law_pick F__law_pick T c__law_below, m__law_pick, F__law_pick.kp, b__law_pick F__law_pick⟩
  have c__law_equal : Cal l.prog w Γ.K mg base CX0 "_law_equal" 46 ["_law_actual", "_law_expected"] (sp__law_equal Γ) := ⟨f__law_equal, fd__law_equal, ok__law_equal F__law_equal T m__law_equal  45, m__law_equal, F__law_equal.kp, b__law_equal F__law_equal⟩
  have c__law_choose : Cal l.prog w Γ.K mg base CX0 "_law_choose" 1 ["_law_n", "_law_k"] (sp__law_choose Γ) := ⟨f__law_choose, fd__law_choose, ok__law_choose F__law_choose T , m__law_choose, F__law_choose.kp, b__law_choose F__law_choose⟩
  have c__law_power : Cal l.prog w Γ.K mg base CX0 "_law_power" 1 ["_law_base", "_law_times_so"] (sp__law_power Γ) := ⟨f__law_power, fd__law_power, ok__law_power F__law_power T , m__law_power, F__law_power.kp, b__law_power F__law_power⟩
  exact ok_law Fl T c_RuleU_initU c__law_below c__law_choose c__law_equal c__law_pick c__law_power c__law_random c_formula c_is_sure c_sure_sum
theorem walk {l : PySem.W.OpenLaw} {q : Program} {loose : List Str} {XP : (Str → Option Value) → Heap → Prop} {YP : World → Heap → Prop} {d : DefRec} {K : Params → PySem.W.Frag} (hn : l.most = some 63) (hdf : d.params.defaults = [])
    (hY : ∀ (w : World) (h : Heap), YP w h → (K w.params).In h)
    (F : ∀ (w : World) (mg : Str → Option Value) (fa : Addr) (h : Heap), (K w.params).In h → h.Ns mainGlobals mg → mg d.name = some (.ref fa) →
      ∃ fd : FuncData, (∀ (s : Shared) (u : Value), BindsTo s fd ⟨[u], []⟩ [("_law_script", u)]) ∧ ∀ base : Heap, (K w.params).In base → base.Ns mainGlobals mg → FnOk l.prog w (K w.params) mg base CX0 47 fa fd ["_law_script"] (spLaw (K w.params))) :
    PySem.W.WalkO q loose XP YP l.row.toRowW d [] (fun f vs => PySem.call f vs) :=
  L2.walk_of (n := 63) (k := 47) (x := "_law_script") (CX := fun _ => CX0) (sp := fun w => spLaw (K w.params)) hn (by decide) hdf ⟨rfl, by decide, by decide⟩ hY F (fun _ _ a ns hl _ hS => ⟨a, ns, rfl, hS, hl, fun _ => rfl⟩) fun _ _ _ _ _ z => z

end Spt
open PySem PySem.W PyProof.Rows
set_option maxRecDepth 100000 in
set_option maxHeartbeats 0 in
theorem PySem.Challenge.cw_splitpoints_k07_great_sure_sums_holds : PySem.Challenge.rw_splitpoints_k07_great_sure_sums.Holds := by
  w_on; o_law; k_head; (case hw => w_witness2)
  k_fill
  refine Spt.walk (l := PySem.Challenge.rw_splitpoints_k07_great_sure_sums) rfl rfl (fun w h Y => PySem.W.kIn_of Y) ?F
  case F =>
    intro w mg fa h KX G hmg
    refine' Spt.all KX G hmg ?D_is_integer ?D_is_from ?D_are_rows ?D_is_term ?D_are_terms ?D_most_of ?D_raised ?D_points_by ?D_check_heap ?D_triples_of ?D_is_even ?D_clash ?D_is_sure ?D_lowest ?D_plus ?D_times_root ?D_through ?D_value_at ?D_sums_to ?D_line_of ?D_one_by_one ?D_formula ?D_sure_sum ?D__law_random ?D__law_below ?D__law_pick ?D__law_equal ?D__law_choose ?D__law_power ?D_law ?b_abs ?b_all ?b_bool ?b_dict ?b_enumerate ?b_int ?b_isinstance ?b_len ?b_list ?b_min ?b_range ?b_str ?b_sum ?b_tuple ?b_zip ?g_MOST_TABLE ?g_MOST_HEAP ?g_MOST_POINTS ?g_MOST_TERMS ?g_MOST_EXPONENT ?a_BadHeap ?a_BadRule ?a_NoTerms ?a_Rule ?pg_Rule ?hd_Rule ?po_Rule ?sa_Rule ?nF_Rule ?nB_Rule ?f_RuleU_initU_at ?i_RuleU_initU ?F_RuleU_initU ?mk_RuleU_initU ?kc_RuleU_initU ?xx_BadHeap ?xk_BadHeap ?xb_BadHeap ?xt_BadHeap ?xx_BadRule ?xk_BadRule ?xb_BadRule ?xt_BadRule ?xx_NoTerms ?xk_NoTerms ?xb_NoTerms ?xt_NoTerms
    (case a_BadHeap => k_is)
    (case a_BadRule => k_is)
    (case a_NoTerms => k_is)
    (case a_Rule => k_is)
    (case g_MOST_TABLE => k_is)
    (case g_MOST_HEAP => k_is)
    (case g_MOST_POINTS => k_is)
    (case g_MOST_TERMS => k_is)
    (case g_MOST_EXPONENT => k_is)
    (case f_RuleU_initU_at => k_is)
    (case D_is_integer => (refine' Spt.def_mk KX G ?a ?l ?c ?k; (case a => k_is); (case l => k_is); (case c => k_is); (case k => k_is)))
    (case D_is_from => (refine' Spt.def_mk KX G ?a ?l ?c ?k; (case a => k_is); (case l => k_is); (case c => k_is); (case k => k_is)))
    (case D_are_rows => (refine' Spt.def_mk KX G ?a ?l ?c ?k; (case a => k_is); (case l => k_is); (case c => k_is); (case k => k_is)))
    (case D_is_term => (refine' Spt.def_mk KX G ?a ?l ?c ?k; (case a => k_is); (case l => k_is); (case c => k_is); (case k => k_is)))
    (case D_are_terms => (refine' Spt.def_mk KX G ?a ?l ?c ?k; (case a => k_is); (case l => k_is); (case c => k_is); (case k => k_is)))
    (case D_most_of => (refine' Spt.def_mk KX G ?a ?l ?c ?k; (case a => k_is); (case l => k_is); (case c => k_is); (case k => k_is)))
    (case D_raised => (refine' Spt.def_mk KX G ?a ?l ?c ?k; (case a => k_is); (case l => k_is); (case c => k_is); (case k => k_is)))
    (case D_points_by => (refine' Spt.def_mk KX G ?a ?l ?c ?k; (case a => k_is); (case l => k_is); (case c => k_is); (case k => k_is)))
    (case D_check_heap => (refine' Spt.def_mk KX G ?a ?l ?c ?k; (case a => k_is); (case l => k_is); (case c => k_is); (case k => k_is)))
    (case D_triples_of => (refine' Spt.def_mk KX G ?a ?l ?c ?k; (case a => k_is); (case l => k_is); (case c => k_is); (case k => k_is)))
    (case D_is_even => (refine' Spt.def_mk KX G ?a ?l ?c ?k; (case a => k_is); (case l => k_is); (case c => k_is); (case k => k_is)))
    (case D_clash => (refine' Spt.def_mk KX G ?a ?l ?c ?k; (case a => k_is); (case l => k_is); (case c => k_is); (case k => k_is)))
    (case D_is_sure => (refine' Spt.def_mk KX G ?a ?l ?c ?k; (case a => k_is); (case l => k_is); (case c => k_is); (case k => k_is)))
    (case D_lowest => (refine' Spt.def_mk KX G ?a ?l ?c ?k; (case a => k_is); (case l => k_is); (case c => k_is); (case k => k_is)))
    (case D_plus => (refine' Spt.def_mk KX G ?a ?l ?c ?k; (case a => k_is); (case l => k_is); (case c => k_is); (case k => k_is)))
    (case D_times_root => (refine' Spt.def_mk KX G ?a ?l ?c ?k; (case a => k_is); (case l => k_is); (case c => k_is); (case k => k_is)))
    (case D_through => (refine' Spt.def_mk KX G ?a ?l ?c ?k; (case a => k_is); (case l => k_is); (case c => k_is); (case k => k_is)))
    (case D_value_at => (refine' Spt.def_mk KX G ?a ?l ?c ?k; (case a => k_is); (case l => k_is); (case c => k_is); (case k => k_is)))
    (case D_sums_to => (refine' Spt.def_mk KX G ?a ?l ?c ?k; (case a => k_is); (case l => k_is); (case c => k_is); (case k => k_is)))
    (case D_line_of => (refine' Spt.def_mk KX G ?a ?l ?c ?k; (case a => k_is); (case l => k_is); (case c => k_is); (case k => k_is)))
    (case D_one_by_one => (refine' Spt.def_mk KX G ?a ?l ?c ?k; (case a => k_is); (case l => k_is); (case c => k_is); (case k => k_is)))
    (case D_formula => (refine' Spt.def_mk KX G ?a ?l ?c ?k; (case a => k_is); (case l => k_is); (case c => k_is); (case k => k_is)))
    (case D_sure_sum => (refine' Spt.def_mk KX G ?a ?l ?c ?k; (case a => k_is); (case l => k_is); (case c => k_is); (case k => k_is)))
    (case D__law_random => (refine' Spt.def_mk KX G ?a ?l ?c ?k; (case a => k_is); (case l => k_is); (case c => k_is); (case k => k_is)))
    (case D__law_below => (refine' Spt.def_mk KX G ?a ?l ?c ?k; (case a => k_is); (case l => k_is); (case c => k_is); (case k => k_is)))
    (case D__law_pick => (refine' Spt.def_mk KX G ?a ?l ?c ?k; (case a => k_is); (case l => k_is); (case c => k_is); (case k => k_is)))
    (case D__law_equal => (refine' Spt.def_mk KX G ?a ?l ?c ?k; (case a => k_is); (case l => k_is); (case c => k_is); (case k => k_is)))
    (case D__law_choose => (refine' Spt.def_mk KX G ?a ?l ?c ?k; (case a => k_is); (case l => k_is); (case c => k_is); (case k => k_is)))
    (case D__law_power => (refine' Spt.def_mk KX G ?a ?l ?c ?k; (case a => k_is); (case l => k_is); (case c => k_is); (case k => k_is)))
    (case D_law => (refine' Spt.def_mk KX G ?a ?l ?c ?k; (case a => k_is); (case l => k_is); (case c => k_is); (case k => k_is)))
    (case b_abs => k_is)
    (case b_all => k_is)
    (case b_bool => k_is)
    (case b_dict => k_is)
    (case b_enumerate => k_is)
    (case b_int => k_is)
    (case b_isinstance => k_is)
    (case b_len => k_is)
    (case b_list => k_is)
    (case b_min => k_is)
    (case b_range => k_is)
    (case b_str => k_is)
    (case b_sum => k_is)
    (case b_tuple => k_is)
    (case b_zip => k_is)
    (case pg_Rule => k_is)
    (case hd_Rule => k_is)
    (case po_Rule => k_is)
    (case sa_Rule => k_is)
    (case nF_Rule => k_is)
    (case nB_Rule => k_is)
    (case i_RuleU_initU => k_is)
    (case F_RuleU_initU => (refine' Spt.funat_mk ?l ?c ?k; (case l => k_is); (case c => k_is); (case k => k_is)))
    (case mk_RuleU_initU => k_is)
    (case kc_RuleU_initU => k_is)
    (case xx_BadHeap => k_exc)
    (case xk_BadHeap => k_is)
    (case xb_BadHeap => k_is)
    (case xt_BadHeap => k_is)
    (case xx_BadRule => k_exc)
    (case xk_BadRule => k_is)
    (case xb_BadRule => k_is)
    (case xt_BadRule => k_is)
    (case xx_NoTerms => k_exc)
    (case xk_NoTerms => k_is)
    (case xb_NoTerms => k_is)
    (case xt_NoTerms => k_is)
