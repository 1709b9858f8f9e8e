import PyProof.Rows.All
import Wide.All
import OpenK.AllK
import Wide.FinOn
import HandS.ForMost
import HandS.Exc
import HandS.TryOnly
import HandS.TryMany
import HandS.ExcOwn
import HandS.WordsExc
import HandS.Wide
import HandS.IsInst
import HandS.Property
import HandS.Small
import HandS.Star
import HandS.Style
import HandS.TupAny
import HandS.TupMul
import KE.GoesEnum
import HandS.ExcInit
import HandS.ExcField
import KE.DataMinMax
import HandS.Text
import HandS.FStr
import HandS.Walk
import KE.IntTextLaws
import PyProof.ListStr
import PyProof.StrBlock2
import HandS.Conv
import KE.IntTextText
import PySem.Challenge.RW_splitpoints_k23_whole_texts_refused
set_option pp.maxSteps 300
set_option Elab.async false
set_option linter.all false
set_option maxRecDepth 100000
set_option maxHeartbeats 8000000
namespace Spt
open PySem PySem.Spec L2
open PyProof.Rows hiding St

/-! ### universal operators -/
section
variable {X : Cx}
def rAddS : R2 := fun x y H Q => ∃ i j, x = .str i ∧ y = .str j ∧ i.length + j.length ≤ sizeLine ∧ Q (.str (i ++ j)) H
def rAddI : R2 := rI0 fun i j => .int (i + j)
def rSubI : R2 := rI0 fun i j => .int (i - j)
def rAddU (K : PySem.W.Frag) : R2 := fun x y H Q => rAddI x y H Q ∨ rCat x y H Q ∨ rCatA K x y H Q ∨ rAddS x y H Q
theorem op_addU : OpR X (binaryOp .Add) (rAddU X.K) := by
  intro pins s σ H x y v u Q I rx ry h
  rcases h with h | h | h | h
  · exact op_add pins s σ H x y v u Q I rx ry h
  · exact op_cat pins s σ H x y v u Q I rx ry h
  · exact op_catA pins s σ H x y v u Q I rx ry h
  · exact op_add_str pins s σ H x y v u Q I rx ry h
theorem op_subU : OpR X (binaryOp .Sub) rSubI := op_sub
def rMulI : R2 := rI CMulW fun i j => .int (i * j)
def rMulU (K : PySem.W.Frag) : R2 := fun x y H Q => rMulI x y H Q ∨ rRep x y H Q ∨ rRepT K x y H Q
theorem op_mulU : OpR X (binaryOp .Mult) (rMulU X.K) := by
  intro pins s σ H x y v u Q I rx ry h
  rcases h with h | h | h
  · exact op_mulW pins s σ H x y v u Q I rx ry h
  · exact op_rep pins s σ H x y v u Q I rx ry h
  · exact op_repT pins s σ H x y v u Q I rx ry h
def rDivI : R2 := rI CDivW fun i j => .int (i / j)
theorem op_divU : OpR X (binaryOp .FloorDiv) rDivI := op_fdivW
def rModI : R2 := rI (fun _ j => 0 < j) fun i j => .int (i % j)
theorem op_modU : OpR X (binaryOp .Mod) rModI := op_mod
def rPowI : R2 := rI CPow fun i j => .int (i ^ j.toNat)
theorem op_powU : OpR X (binaryOp .Pow) rPowI := op_pow
def rLt : R2 := rI0 fun i j => .bl (decide (i < j))
def rLe : R2 := rI0 fun i j => .bl (decide (i ≤ j))
def rGt : R2 := rI0 fun i j => .bl (decide (j < i))
def rGe : R2 := rI0 fun i j => .bl (decide (j ≤ i))
theorem op_ltU : OpR X (compareOp .Lt) rLt := op_lt
theorem op_leU : OpR X (compareOp .LtE) rLe := op_le
theorem op_gtU : OpR X (compareOp .Gt) rGt := op_gt
theorem op_geU : OpR X (compareOp .GtE) rGe := op_ge
def rEqU (K : PySem.W.Frag) : R2 := fun x y H Q => rEq x y H Q ∨ rEqD K x y H Q
def rNeU (K : PySem.W.Frag) : R2 := fun x y H Q => rNe x y H Q ∨ rNeD K x y H Q
theorem op_eqU (hu : X.A.units + 64 < cLine) : OpR X (compareOp .Eq) (rEqU X.K) := by
  intro pins s σ H x y v u Q I rx ry h
  rcases h with h | h
  · exact op_eq pins s σ H x y v u Q I rx ry h
  · exact op_eqD hu pins s σ H x y v u Q I rx ry h
theorem op_neU (hu : X.A.units + 64 < cLine) : OpR X (compareOp .NotEq) (rNeU X.K) := by
  intro pins s σ H x y v u Q I rx ry h
  rcases h with h | h
  · exact op_ne pins s σ H x y v u Q I rx ry h
  · exact op_neD hu pins s σ H x y v u Q I rx ry h
def rIsN : R2 := fun x y H Q => y = .non ∧ Q (.bl (decide (x = .non))) H
def rNotN : R2 := fun x y H Q => y = .non ∧ Q (.bl (!decide (x = .non))) H
def rIsU : R2 := fun x y H Q => rIsN x y H Q ∨ rIsB x y H Q
def rNotIsU : R2 := fun x y H Q => rNotN x y H Q ∨ rNotB x y H Q
theorem op_isU : OpR X (compareOp .Is) rIsU := by
  intro pins s σ H x y v u Q I rx ry h
  rcases h with h | h
  · exact op_isN pins s σ H x y v u Q I rx ry h
  · exact op_isBl pins s σ H x y v u Q I rx ry h
theorem op_notIsU : OpR X (compareOp .IsNot) rNotIsU := by
  intro pins s σ H x y v u Q I rx ry h
  rcases h with h | h
  · exact op_notN pins s σ H x y v u Q I rx ry h
  · exact op_notBl pins s σ H x y v u Q I rx ry h
def rInS : R2 := fun x y H Q => ∃ i j, x = .str i ∧ y = .str j ∧ Q (.bl (!(Builtin.Str.occurrences j i 0 j.length 1).isEmpty)) H
def rNotInS : R2 := fun x y H Q => ∃ i j, x = .str i ∧ y = .str j ∧ Q (.bl (!(!(Builtin.Str.occurrences j i 0 j.length 1).isEmpty))) H
def rInU (K : PySem.W.Frag) : R2 := fun x y H Q => rIn K false x y H Q ∨ rInS x y H Q
def rNotInU (K : PySem.W.Frag) : R2 := fun x y H Q => rIn K true x y H Q ∨ rNotInS x y H Q
theorem op_inU : OpR X (compareOp .In) (rInU X.K) := by
  intro pins s σ H x y v u Q I rx ry h
  rcases h with h | h
  · exact op_in_seq pins s σ H x y v u Q I rx ry h
  · exact op_in_str pins s σ H x y v u Q I rx ry h
theorem op_notInU : OpR X (compareOp .NotIn) (rNotInU X.K) := by
  intro pins s σ H x y v u Q I rx ry h
  rcases h with h | h
  · exact op_notIn_seq pins s σ H x y v u Q I rx ry h
  · exact op_notin_str pins s σ H x y v u Q I rx ry h
/-- slices of lists, tuples, texts -/
abbrev RSl := V → Option Int → Option Int → Hp → VK → Prop
def rSlU (K : PySem.W.Frag) : RSl := fun x lo hi H Q => rSlL K x lo hi H Q ∨ rSlA K x lo hi H Q ∨ rSlS x lo hi H Q
theorem sl_U : SlR X (rSlU X.K) := by
  intro pins s σ H x v vl vu lo hi sl Q I rx hs pl pu h
  rcases h with h | h | h
  · exact sl_list pins s σ H x v vl vu lo hi sl Q I rx hs pl pu h
  · exact sl_tupA pins s σ H x v vl vu lo hi sl Q I rx hs pl pu h
  · exact sl_str pins s σ H x v vl vu lo hi sl Q I rx hs pl pu h
/-- what a for walks: a list or a tuple -/
def kSeq (K : PySem.W.Frag) (x : V) (H : Hp) (R : It → Hp → Prop) : Prop := (∃ a, x = .ref a ∧ (∃ xs, SqL K H a xs) ∧ R (Itl K a) H) ∨ (∃ a, x = .ref a ∧ (∃ xs, SqT K H a xs) ∧ R (Itt K a) H)
def iSeq (K : PySem.W.Frag) (tl : TE) : TI := fun σ H R => tl σ H fun x H1 => kSeq K x H1 R
theorem pi_seq {tg l : Expr} {tl : TE} (hl : PE X l tl) : PI X tg l (iSeq X.K tl) := by
  refine ⟨fun pins s σ H R I h => ?_⟩
  refine thn (hl.run pins s σ H _ I h) fun v s1 ⟨x, H1, I1, r1, q1⟩ => ?_
  rcases q1 with ⟨a, e, ⟨xs, hq⟩, q⟩ | ⟨a, e, ⟨xs, hq⟩, q⟩
  · subst e
    cases r1
    obtain ⟨its, rv, p, hz⟩ := I1.list hq
    refine wpAny_pyIter_list p.isList ?_
    refine ⟨s1.heap.objs.size, [s1.heap.objs.size], _, _, H1, rfl, I1.kept (t' := s1.toks) fun b o e => Heap.get?_push_of_some _ e, turn_list a _, ⟨_, Heap.get?_push_size _ rfl, rfl, rfl⟩, fun b hb => ?_, q⟩
    have e : b = s1.heap.objs.size := by simpa using hb
    subst e
    exact I1.fpOk (Nat.le_refl _) (I1.hok.fresh (Nat.le_refl _))
  · subst e
    cases r1
    obtain ⟨its, rv, p, hz⟩ := I1.tuple hq
    refine wpAny_pyIter_tuple (show s1.heap.IsTuple a its.toArray from p) ?_
    refine ⟨s1.heap.objs.size, [s1.heap.objs.size], _, _, H1, rfl, I1.kept (t' := s1.toks) fun b o e => Heap.get?_push_of_some _ e, turn_tuple a _, ⟨_, Heap.get?_push_size _ rfl, rfl, rfl⟩, fun b hb => ?_, q⟩
    have e : b = s1.heap.objs.size := by simpa using hb
    subst e
    exact I1.fpOk (Nat.le_refl _) (I1.hok.fresh (Nat.le_refl _))
end

/-! ### calls -/
structure Cal (P : Program) (w : World) (K : PySem.W.Frag) (mg : Str → Option Value) (base : Heap) (CX : CXT) (x : Str) (k : Nat) (ps : List Str) (sp : Sp) : Prop where
  ex : ∃ (f : Addr) (fd : FuncData), FnOk P w K mg base CX k f fd ps sp ∧ mg x = some (.ref f) ∧ PySem.W.keepIn K (.ref f) = true ∧ Binds K fd ps []
def tCal (sp : Sp) (E : XK) (t : TA) : TE := fun σ H Q => t σ H fun vs H1 => sp vs H1 Q E
def tCalS (sp : Sp) (E : St → XK) (t : TA) : TE := fun σ H Q => t σ H fun vs H1 => sp vs H1 Q (E σ)
section
variable {X : Cx} {CX : CXT} {k : Nat} {ps : List Str} {sp : Sp} {E : XK} {x : Str} {p pos : Pos} {e : Expr} {es : List Expr} {t : TA}
theorem tCal_eq (t : TA) : tCall sp [] E t = tCal sp E t := by
  funext σ H Q
  unfold tCall tCal
  simp only [List.append_nil]
theorem pe_cal (c : Cal X.prog X.w X.K X.mg X.base CX x k ps sp) (hr : Room k X.A) (hg : Gl X x) (hx : Passes CX X E) (ha : PA X (e :: es) t) (hdb : (x == ("__debug__" : Str)) = false := by decide)
    (he : starEach (e :: es) X.env = (false, eval e X.env) :: starEach es X.env := by rfl) (hpl : (backTo pos (starEach es X.env)).any (·.1) = false := by rfl) :
    PE X (.Call (.Name x p) (e :: es) [] pos) (tCal sp E t) := by
  obtain ⟨f, fd, F, hm, hk, hb⟩ := c.ex
  have h := pe_call (p := p) (pos := pos) F hr hg hm hk hb .nil hx ha hdb he hpl
  rw [tCal_eq] at h
  exact h
theorem pe_cal0 (c : Cal X.prog X.w X.K X.mg X.base CX x k ps sp) (hr : Room k X.A) (hg : Gl X x) (hx : Passes CX X E) (hdb : (x == ("__debug__" : Str)) = false := by decide) :
    PE X (.Call (.Name x p) [] [] pos) (tCal sp E tNil) := by
  obtain ⟨f, fd, F, hm, hk, hb⟩ := c.ex
  have h := pe_call0 (p := p) (pos := pos) F hr hg hm hk hb .nil hx hdb
  rw [tCal_eq] at h
  exact h
theorem pe_calS {E : St → XK} (c : Cal X.prog X.w X.K X.mg X.base CX x k ps sp) (hr : Room k X.A) (hg : Gl X x) (hx : ∀ σ, PassesAt CX X σ (E σ)) (ha : PA X (e :: es) t) (hdb : (x == ("__debug__" : Str)) = false := by decide)
    (he : starEach (e :: es) X.env = (false, eval e X.env) :: starEach es X.env := by rfl) (hpl : (backTo pos (starEach es X.env)).any (·.1) = false := by rfl) :
    PE X (.Call (.Name x p) (e :: es) [] pos) (tCalS sp E t) := by
  obtain ⟨f, fd, F, hm, hk, hb⟩ := c.ex
  exact pe_callS (p := p) (pos := pos) F hr hg hm hk hb hx ha hdb he hpl
end

/-! ### methods, makers -/
structure CalM (P : Program) (w : World) (K : PySem.W.Frag) (mg : Str → Option Value) (base : Heap) (CX : CXT) (C : Addr) (m : Str) (k : Nat) (ps : List Str) (sp : Sp) : Prop where
  cls : Cls K C
  ex : ∃ (f : Addr) (fd : FuncData), FnOk P w K mg base CX k f fd ps sp ∧ Meth K C m f ∧ Binds K fd ps []
structure CalC (P : Program) (w : World) (K : PySem.W.Frag) (mg : Str → Option Value) (base : Heap) (CX : CXT) (C : Addr) (x : Str) (k : Nat) (ps : List Str) (sp : Sp) : Prop where
  m : mg x = some (.ref C)
  ex : ∃ (f : Addr) (fd : FuncData), FnOk P w K mg base CX k f fd ps sp ∧ Mk K C f ∧ Binds K fd ps []
def tMet (C : Addr) (m : Str) (sp : Sp) (E : XK) (ta : TE) (t : TA) : TE := fun σ H Q => ta σ H fun x H1 => ∃ a dx fs, x = .ref a ∧ H1 a = some (.ins C dx fs) ∧ fs.lookup m = none ∧
  t σ H1 fun vs H2 => sp (x :: vs) H2 Q E
def tMetS (C : Addr) (m : Str) (sp : Sp) (E : St → XK) (ta : TE) (t : TA) : TE := fun σ H Q => ta σ H fun x H1 => ∃ a dx fs, x = .ref a ∧ H1 a = some (.ins C dx fs) ∧ fs.lookup m = none ∧
  t σ H1 fun vs H2 => sp (x :: vs) H2 Q (E σ)
def tMak (C : Addr) (sp : Sp) (E : XK) (t : TA) : TE := fun σ H Q => t σ H fun vs H1 => ∀ x dx, H1 x = none → H1 dx = none → dx ≠ x →
  sp (.ref x :: vs) (upd (upd H1 dx (.own x)) x (.ins C dx [])) (fun v H2 => v = .non ∧ Q (.ref x) H2) E
def tMakS (C : Addr) (sp : Sp) (E : St → XK) (t : TA) : TE := fun σ H Q => t σ H fun vs H1 => ∀ x dx, H1 x = none → H1 dx = none → dx ≠ x →
  sp (.ref x :: vs) (upd (upd H1 dx (.own x)) x (.ins C dx [])) (fun v H2 => v = .non ∧ Q (.ref x) H2) (E σ)
section
variable {X : Cx} {CX : CXT} {k : Nat} {C : Addr} {ps : List Str} {sp : Sp} {E : XK} {x m : Str} {p pos apos : Pos} {o e : Expr} {es : List Expr} {ta : TE} {t : TA}
theorem tMet_eq (ta : TE) (t : TA) : tMeth C m sp [] E ta t = tMet C m sp E ta t := by
  funext σ H Q
  unfold tMeth tMet
  simp only [List.append_nil]
theorem tMak_eq (t : TA) : tMake C sp [] E t = tMak C sp E t := by
  funext σ H Q
  unfold tMake tMak
  simp only [List.append_nil]
theorem pe_met {pl : Sem Bool} (he : PE X o ta) (c : CalM X.prog X.w X.K X.mg X.base CX C m k ps sp) (hr : Room k X.A) (hx : Passes CX X E) (ha : PA X (e :: es) t)
    (hst : starEach (e :: es) X.env = (false, eval e X.env) :: starEach es X.env := by rfl) (hpl : (backTo pos (starEach es X.env)).any (·.1) = false := by rfl)
    (ht : eval (.Call (.Attribute o m apos) (e :: es) [] pos) X.env = (do
      let ov ← eval o X.env
      standAt apos.atName
      let (f, first) ← holding [ov] (getMethod ov m pl)
      callWith pos f first (backTo pos (starEach (e :: es) X.env)) (backToKw pos (keywordEach [] X.env))) := by rfl) :
    PE X (.Call (.Attribute o m apos) (e :: es) [] pos) (tMet C m sp E ta t) := by
  obtain ⟨f, fd, F, hm, hb⟩ := c.ex
  have h := pe_meth he c.cls hm F hr hb .nil hx ha hst hpl ht
  rw [tMet_eq] at h
  exact h
theorem pe_met0 {pl : Sem Bool} (he : PE X o ta) (c : CalM X.prog X.w X.K X.mg X.base CX C m k ps sp) (hr : Room k X.A) (hx : Passes CX X E)
    (ht : eval (.Call (.Attribute o m apos) [] [] pos) X.env = (do
      let ov ← eval o X.env
      standAt apos.atName
      let (f, first) ← holding [ov] (getMethod ov m pl)
      callWith pos f first (backTo pos (starEach [] X.env)) (backToKw pos (keywordEach [] X.env))) := by rfl) :
    PE X (.Call (.Attribute o m apos) [] [] pos) (tMet C m sp E ta tNil) := by
  obtain ⟨f, fd, F, hm, hb⟩ := c.ex
  have h := pe_meth0 he c.cls hm F hr hb .nil hx ht
  rw [tMet_eq] at h
  exact h
theorem pe_metS {E : St → XK} {pl : Sem Bool} (he : PE X o ta) (c : CalM X.prog X.w X.K X.mg X.base CX C m k ps sp) (hr : Room k X.A) (hx : ∀ σ, PassesAt CX X σ (E σ)) (ha : PA X (e :: es) t)
    (hst : starEach (e :: es) X.env = (false, eval e X.env) :: starEach es X.env := by rfl) (hpl : (backTo pos (starEach es X.env)).any (·.1) = false := by rfl)
    (ht : eval (.Call (.Attribute o m apos) (e :: es) [] pos) X.env = (do
      let ov ← eval o X.env
      standAt apos.atName
      let (f, first) ← holding [ov] (getMethod ov m pl)
      callWith pos f first (backTo pos (starEach (e :: es) X.env)) (backToKw pos (keywordEach [] X.env))) := by rfl) :
    PE X (.Call (.Attribute o m apos) (e :: es) [] pos) (tMetS C m sp E ta t) := by
  obtain ⟨f, fd, F, hm, hb⟩ := c.ex
  refine ⟨fun pins s σ H Q I h => ?_⟩
  refine PySem.W.methodCall_KW (pl := pl) (thn (he.run pins s σ H _ I h) fun u s1 ⟨x, H1, I1, rx, a, dx, fs, ex, ea, l, q⟩ => ?_) ht
  subst ex
  obtain rfl : u = Value.ref a := rx
  refine getmeth_ok I1 ea c.cls hm l ?_
  refine PySem.W.callWith_K (first := [.ref a]) (h₀ := X.base) I.ok.mod.kin hm.kp (thn (ha.run pos pins s1 σ H1 _ I1 q) fun us s2 ⟨vs, H2, I2, r, q2⟩ => ⟨I2.kIn, ?_⟩) hst hpl
  exact run_fnS (us := .ref a :: us) (vs := .ref a :: vs) F hr hb (hx σ) I2 (.cons rfl r) q2
theorem pe_mak (c : CalC X.prog X.w X.K X.mg X.base CX C x k ps sp) (hr : Room (k + 1) X.A) (hg : Gl X x) (hx : Passes CX X E)
    (ha : PA X (e :: es) t) (hdb : (x == ("__debug__" : Str)) = false := by decide) (he : starEach (e :: es) X.env = (false, eval e X.env) :: starEach es X.env := by rfl) (hpl : (backTo pos (starEach es X.env)).any (·.1) = false := by rfl) :
    PE X (.Call (.Name x p) (e :: es) [] pos) (tMak C sp E t) := by
  obtain ⟨f, fd, F, M, hb⟩ := c.ex
  have h := pe_make (p := p) (pos := pos) M F hr hg c.m hb .nil hx ha hdb he hpl
  rw [tMak_eq] at h
  exact h
/-- run_make at the slots σ -/
theorem run_makeS {E : XK} {f : Addr} {fd : FuncData} {pins : List (Addr × Obj)} {σ : St} {H : Hp} {s : Shared} {Q : VK} {us : List Value} {vs : List V} (M : Mk X.K C f) (F : FnOk X.prog X.w X.K X.mg X.base CX k f fd ps sp) (hr : Room (k + 1) X.A) (hb : Binds X.K fd ps [])
    (hx : ∀ (pins : List (Addr × Obj)) (H : Hp) (s : Shared) (e : Value) (s' : Shared), Inv X pins σ H s → CX X.stack H s E e s' → X.xe e s') (I : Inv X pins σ H s) (r : Vals vs us)
    (h : ∀ x dx, H x = none → H dx = none → dx ≠ x → sp (.ref x :: vs) (upd (upd H dx (.own x)) x (.ins C dx [])) (fun v H2 => v = .non ∧ Q (.ref x) H2) E) :
    wpAny (model X.prog X.w) X.A (call (.ref C) us) (EP X pins σ Q) X.xe s := by
  have hq := h (s.heap.objs.size + 1) s.heap.objs.size (I.hok.fresh (Nat.le_succ _)) (I.hok.fresh (Nat.le_refl _)) (Nat.ne_of_lt (Nat.lt_succ_self _))
  have I2 := Inv.made (C := C) I
  have r2 : Vals (V.ref (s.heap.objs.size + 1) :: vs) (Value.ref (s.heap.objs.size + 1) :: us) := .cons rfl r
  have hl : (Value.ref (s.heap.objs.size + 1) :: us ++ ([] : List Value)).length = ps.length := by
    have e := r2.length
    rw [F.len _ _ _ _ hq] at e
    simpa using e.symm
  have hbb := hb _ (Value.ref (s.heap.objs.size + 1) :: us) I2.kIn hl
  rw [List.append_nil] at hbb
  refine wpAny_call (make_map (f := f) I.kIn M.makes M.init (beq_iff_eq.mp M.fn) (codeAny_mono (F.run _ X.stack _ _ ⟨Value.ref (s.heap.objs.size + 1) :: us, []⟩ (Value.ref (s.heap.objs.size + 1) :: us) _ _ E (hr.make C us [])
    (I2.env0.make C us []) hbb r2 hq) fun r s' hq' => ?_))
  cases r with
  | error e => exact hx pins _ _ e s' I2 hq'
  | ok fl =>
    cases fl with
    | ret u =>
      obtain ⟨v, H', I3, rv, ev, q3⟩ := I2.after hq'
      subst ev
      exact ⟨rv, ⟨V.ref (s.heap.objs.size + 1), H', I3, rfl, q3⟩⟩
    | next => exact False.elim hq'
    | brk => exact False.elim hq'
    | cont => exact False.elim hq'
theorem pe_makS {E : St → XK} (c : CalC X.prog X.w X.K X.mg X.base CX C x k ps sp) (hr : Room (k + 1) X.A) (hg : Gl X x) (hx : ∀ σ, PassesAt CX X σ (E σ))
    (ha : PA X (e :: es) t) (hdb : (x == ("__debug__" : Str)) = false := by decide) (he : starEach (e :: es) X.env = (false, eval e X.env) :: starEach es X.env := by rfl) (hpl : (backTo pos (starEach es X.env)).any (·.1) = false := by rfl) :
    PE X (.Call (.Name x p) (e :: es) [] pos) (tMakS C sp E t) := by
  obtain ⟨f, fd, F, M, hb⟩ := c.ex
  refine ⟨fun pins s σ H Q I h => ?_⟩
  refine wpAny_Call_Name_kw (ld_glob I hg c.m ?_ hdb)
  refine PySem.W.callWith_K (h₀ := X.base) I.ok.mod.kin M.kp (thn (ha.run pos pins s σ H _ I h) fun us s1 ⟨vs, H1, I1, r, q⟩ => ⟨I1.kIn, ?_⟩) he hpl
  exact run_makeS M F hr hb (hx σ) I1 r q
end

/-! ### a statement, then the rest, with a word between them -/
def tCut (t u : TS) : TS := fun D σ H => ∃ Mid : St → Hp → Prop, t { D with nx := Mid } σ H ∧ ∀ σ' H', Mid σ' H' → u D σ' H'
theorem pss_cut {X : Cx} {st : Stmt} {rest : List Stmt} {t u : TS} (h1 : PS X st t) (h2 : PSs X rest u) : PSs X (st :: rest) (tCut t u) := by
  refine ⟨fun pins s σ H D I h => ?_⟩
  obtain ⟨Mid, hm, hu⟩ := h
  refine wpAny_execs_cons (thn (h1.run pins s σ H { D with nx := Mid } I hm) fun f s1 q => ?_)
  cases f with
  | next =>
    obtain ⟨σ', H', I', q⟩ := q
    exact h2.run pins s1 σ' H' D I' (hu σ' H' q)
  | ret v => exact q
  | brk => exact q
  | cont => exact q
def tIfT (t u v : TT) : TT := fun σ H Q => t σ H fun c H1 => if c = true then u σ H1 Q else v σ H1 Q
theorem pt_ifExp {X : Cx} {c a b : Expr} {pos : Pos} {t u v : TT} (hc : PT X c t) (ha : PT X a u) (hb : PT X b v) : PT X (.IfExp c a b pos) (tIfT t u v) := by
  refine ⟨fun pins s σ H Q I h => ?_⟩
  refine PyProof.Rows.isTrue_IfExp (thn (hc.run pins s σ H _ I h) fun d s1 ⟨H1, I1, q1⟩ => ?_)
  cases d with
  | true => exact ha.run pins s1 σ H1 Q I1 q1
  | false => exact hb.run pins s1 σ H1 Q I1 q1
/-! ### a property that hands back an attribute -/
structure CalP (P : Program) (w : World) (K : PySem.W.Frag) (mg : Str → Option Value) (base : Heap) (C : Addr) (f fld : Str) (k : Nat) : Prop where
  cls : Cls K C
  ex : ∃ (p g : Addr) (fd : FuncData), PropOf K C f p g ∧ FnOk P w K mg base CX0 k g fd ["self"] (getSp C fld) ∧ Binds K fd ["self"] []
def kPrp (C : Addr) (fld : Str) (x : V) (H : Hp) (Q : VK) : Prop := ∃ a dx fs v, x = .ref a ∧ H a = some (.ins C dx fs) ∧ fs.lookup fld = some v ∧ Q v H
def tPrp (C : Addr) (fld : Str) (ta : TE) : TE := fun σ H Q => ta σ H fun x H1 => kPrp C fld x H1 Q
theorem pe_prp {X : Cx} {C : Addr} {f fld : Str} {k : Nat} {e : Expr} {ta : TE} {pos : Pos} (c : CalP X.prog X.w X.K X.mg X.base C f fld k) (hr : Room (k + 1) X.A) (he : PE X e ta)
    (hab : attributeBase e f X.env (eval e X.env) = eval e X.env) : PE X (.Attribute e f pos) (tPrp C fld ta) := by
  obtain ⟨p, g, fd, hp, F, hb⟩ := c.ex
  have h := pe_prop (pos := pos) (E := E0) he c.cls hp F hr hb .nil pass0 hab
  have e : tProp C (getSp C fld) [] E0 ta = tPrp C fld ta := by
    funext σ H Q
    show ta σ H _ = ta σ H _
    congr 1
    funext x H1
    refine propext ⟨fun ⟨a, dx, fs, ex, ea, a', dx', fs', v, e1, e2, l, q⟩ => ?_, fun ⟨a, dx, fs, v, ex, ea, l, q⟩ => ⟨a, dx, fs, ex, ea, a, dx, fs, v, rfl, ea, l, q⟩⟩
    cases e1
    exact ⟨a, dx', fs', v, ex, e2, l, q⟩
  rw [e] at h
  exact h

/-! ### raise X() of an own class without __init__ -/
structure ExcF (K : PySem.W.Frag) (mg : Str → Option Value) (x : Str) (C : Addr) : Prop where
  ex : ∃ bm, PySem.W.excIn K C bm "ValueError.__new__" = true ∧ (∃ B I, ExcBaseFacts B "ValueError.__new__" I bm)
  g : mg x = some (.ref C)
  k : PySem.W.keepIn K (.ref C) = true
  b : PySem.W.subIn K (.ref C) (.type "BaseException") = some true
  t : PySem.W.typeIn K (.ref C) = some (.type "type")
section
variable {X : Cx} {C : Addr} {x : Str} {p pos : Pos}
theorem pmk_own0 (F : ExcF X.K X.mg x C) (hg : Gl X x) (hdb : (x == ("__debug__" : Str)) = false := by decide) : PMk X (.Call (.Name x p) [] [] pos) (fun _ H Q => Q (.ref C) none H) := by
  obtain ⟨bm, q, B, I0, FB⟩ := F.ex
  intro pins s σ H Q I h
  refine wpAny_Call_Name_kw (ld_glob I hg F.g ?_ hdb)
  refine PySem.W.callWith_K0 I.kIn F.k ?_
  show wpAny _ _ (call (.ref C) []) _ _ _
  obtain ⟨bm, N, nm, qn, bs, hdct, sn, sub, ab, col, dd, k0, k1, k2, k3, k5, mN, hC, hN, hni, T⟩ := exc_obj I.kIn q
  refine wpAny_call_exc_subT FB T hC hN hni (fun h' e hm => ?_) (by show 0 ≤ sizeLine; exact Nat.zero_le _)
  exact mk_of I hm (raises_own F.b F.t) h (I.hok.gone hm.new)
/-- raise X() where W is wished of what is raised -/
def tRaise (C : Addr) (W : WX) : TS := fun _ σ H => W (.ref C) none σ H
theorem ps_raise0 {W : WX} {pos2 : Pos} (hc : X.calm = true) (tk : Takes X W) (F : ExcF X.K X.mg x C) (hg : Gl X x) (hdb : (x == ("__debug__" : Str)) = false := by decide) :
    PS X (.Raise (some (.Call (.Name x p) [] [] pos)) none pos2) (tRaise C W) := ps_raise hc tk (pmk_own0 F hg hdb)
end
def WE' (W : WX) : St → XK := fun σ cls d H => W cls d σ H
theorem passAt' {X : Cx} {W : WX} (tk : Takes X W) (σ : St) : PassesAt (L2.CX X.prog X.w) X σ (WE' W σ) := passAt tk σ

/-! ### a list of ints that is known by a word alone -/
def Plain : HO → Prop
  | .lst _ => True
  | .ext _ => True
  | _ => False
theorem inv_swap {X : Cx} {pins : List (Addr × Obj)} {σ : St} {H : Hp} {s : Shared} {d : Addr} {o o' : HO} (I : Inv X pins σ H s) (hd : H d = some o) (hp : Plain o) (new : ObjOk X.prog X.w (upd H d o') s.heap d o') :
    Inv X pins σ (upd H d o') s := by
  have ne : ∀ b u, H b = some u → ¬ Plain u → b ≠ d := fun b u e n z => by
    subst z
    rw [hd] at e
    cases e
    exact n hp
  have nn : ∀ b, H b = none → upd H d o' b = none := fun b e => by
    rw [upd_ne (fun z => by subst z; rw [hd] at e; cases e)]
    exact e
  refine ⟨I.ok, I.os, I.bare, ⟨fun b u e n hb hx => I.base.keep b u e n hb hx, fun b u e n hb hx => I.base.slot b u e n hb hx, fun b u e n hx => nn b (I.base.free b u e n hx), I.base.there, fun b xs e => ?_, fun b u v e => ?_, fun b ps e => ?_⟩, I.loc, I.cell, nn _ I.free, fun x c e => nn _ (I.freeC x c e), fun p hp' => ?_, fun b u q => ?_, I.len⟩
  · have e1 := I.base.tups b xs e
    rw [upd_ne (ne b _ e1 (fun z => z))]
    exact e1
  · have e1 := I.base.frzs b u v e
    rw [upd_ne (ne b _ e1 (fun z => z))]
    exact e1
  · obtain ⟨more, e1⟩ := I.base.tbls b ps e
    refine ⟨more, ?_⟩
    rw [upd_ne (ne b _ e1 (fun z => z))]
    exact e1
  · obtain ⟨h1, h2, h3⟩ := I.pin p hp'
    exact ⟨h1, nn _ h2, h3⟩
  · by_cases hb : b = d
    · subst hb
      rw [upd_same] at q
      cases q
      exact new
    · rw [upd_ne hb] at q
      refine (I.hok b u q).stay (fun c v _ r => r) (fun c r => ?_) (fun c xs r => ?_)
      · rw [upd_ne (ne c _ r (fun z => z))]
        exact r
      · rw [upd_ne (ne c _ r (fun z => z))]
        exact r
/-- an opaque list of ints -/
def opq (Pr : List Int → Prop) (d : Addr) : HO := .ext fun h => ∃ (ns : List Int) (its : List Value) (n : Nat), Pr ns ∧ Vals (ns.map V.int) its ∧ ns.length ≤ sizeLine ∧ h.get? d = some { cls := .type "list", data := .seq its.toArray n }
theorem inv_open {X : Cx} {pins : List (Addr × Obj)} {σ : St} {H : Hp} {s : Shared} {d : Addr} {Pr : List Int → Prop} (I : Inv X pins σ H s) (hd : H d = some (opq Pr d)) :
    ∃ ns, Pr ns ∧ Inv X pins σ (upd H d (.lst (ns.map V.int))) s := by
  obtain ⟨⟨ns, its, n, hp, hv, hl, hg⟩, _, _⟩ := I.hok d _ hd
  exact ⟨ns, hp, inv_swap I hd True.intro ⟨by rw [List.length_map]; exact hl, its, n, hv, hg⟩⟩
theorem inv_shut {X : Cx} {pins : List (Addr × Obj)} {σ : St} {H : Hp} {s : Shared} {d : Addr} {Pr : List Int → Prop} {ns : List Int} (I : Inv X pins σ H s) (hd : H d = some (.lst (ns.map V.int))) (hp : Pr ns) :
    Inv X pins σ (upd H d (opq Pr d)) s := by
  obtain ⟨hl, its, n, hv, hg⟩ := I.hok d _ hd
  rw [List.length_map] at hl
  exact inv_swap I hd True.intro ⟨⟨ns, its, n, hp, hv, hl, hg⟩, ⟨_, hg⟩, fun h1 h2 ⟨ns, its, n, a, b, c, e⟩ k => ⟨ns, its, n, a, b, c, k _ e⟩⟩
def shutE (Pr : List Int → Prop) (d : Addr) (D : Ends) : Ends where
  nx := fun σ H => ∃ ns, Pr ns ∧ H d = some (.lst (ns.map V.int)) ∧ D.nx σ (upd H d (opq Pr d))
  rt := fun v H => ∃ ns, Pr ns ∧ H d = some (.lst (ns.map V.int)) ∧ D.rt v (upd H d (opq Pr d))
  bk := fun σ H => ∃ ns, Pr ns ∧ H d = some (.lst (ns.map V.int)) ∧ D.bk σ (upd H d (opq Pr d))
  ct := fun σ H => ∃ ns, Pr ns ∧ H d = some (.lst (ns.map V.int)) ∧ D.ct σ (upd H d (opq Pr d))
theorem sp_shut {X : Cx} {pins : List (Addr × Obj)} {D : Ends} {f : Flow} {s' : Shared} {d : Addr} {Pr : List Int → Prop} (h : SP X pins (shutE Pr d D) f s') : SP X pins D f s' := by
  cases f with
  | next =>
    obtain ⟨σ', H', I, ns, hp, hd, q⟩ := h
    exact ⟨σ', _, inv_shut I hd hp, q⟩
  | brk =>
    obtain ⟨σ', H', I, ns, hp, hd, q⟩ := h
    exact ⟨σ', _, inv_shut I hd hp, q⟩
  | cont =>
    obtain ⟨σ', H', I, ns, hp, hd, q⟩ := h
    exact ⟨σ', _, inv_shut I hd hp, q⟩
  | ret u =>
    obtain ⟨v, σ', H', I, r, ns, hp, hd, q⟩ := h
    exact ⟨v, σ', _, inv_shut I hd hp, r, q⟩
/-- a block within which an opaque list is a plain one -/
def tOpen (Pr : List Int → Prop) (t : TS) : TS := fun D σ H => ∃ d, H d = some (opq Pr d) ∧ ∀ ns, Pr ns → t (shutE Pr d D) σ (upd H d (.lst (ns.map V.int)))
theorem pss_open {X : Cx} {b : List Stmt} {t : TS} (Pr : List Int → Prop) (h : PSs X b t) : PSs X b (tOpen Pr t) := by
  refine ⟨fun pins s σ H D I q => ?_⟩
  obtain ⟨d, hd, k⟩ := q
  obtain ⟨ns, hp, J⟩ := inv_open I hd
  exact thn (h.run pins s σ _ _ J (k ns hp)) fun f s' z => sp_shut z
/-- a block that hands back a list of ints, which is opaque from then on -/
def tShut (Pr : List Int → Prop) (t : TS) : TS := fun D σ H => t { nx := D.nx, bk := D.bk, ct := D.ct, rt := fun v H' => ∃ d ns, v = .ref d ∧ H' d = some (.lst (ns.map V.int)) ∧ Pr ns ∧ D.rt v (upd H' d (opq Pr d)) } σ H
theorem pss_shut {X : Cx} {b : List Stmt} {t : TS} (Pr : List Int → Prop) (h : PSs X b t) : PSs X b (tShut Pr t) := by
  refine ⟨fun pins s σ H D I q => thn (h.run pins s σ H _ I q) fun f s' z => ?_⟩
  cases f with
  | next => exact z
  | brk => exact z
  | cont => exact z
  | ret u =>
    obtain ⟨v, σ', H', I, r, d, ns, rfl, hd, hp, q⟩ := z
    exact ⟨.ref d, σ', _, inv_shut I hd hp, r, q⟩

/-! ### enumerate of a tuple -/
theorem meets_enumerate_newT (l : Addr) (items : Array Value) (n : Nat) (dct : Option Addr) (sl : Array (Option Value)) :
    Meets (Builtin.«enumerate.__new__» ⟨[.type "enumerate", .ref l], []⟩) (fun _ R s => s.heap.get? l = some { cls := .type "tuple", dict := dct, data := .seq items n, slots := sl } ∧
      R (.ok (.ret (.ref (s.heap.push { cls := .type "tuple_iterator", data := .fields #[.ref l, .int 0 0] }).objs.size)))
        { s with heap := (s.heap.push { cls := .type "tuple_iterator", data := .fields #[.ref l, .int 0 0] }).push { cls := .type "enumerate", data := .fields #[.none, .bool false, .ref s.heap.objs.size, rawInt 0, .none, .none] } }) :=
  .of_wp fun prog w A R s h => by
    obtain ⟨hp, g, d, tk, os⟩ := s; obtain ⟨hl, h⟩ := h
    have hsub := sub_enumerate
    have hL : Heap.IsTuple (Shared.heap ⟨hp, g, d, tk, os⟩) l items := ⟨_, hl, rfl, n, rfl⟩
    wp_walk using AutoSeq1.wpAny_loadPart' hl
    refine wpAny_stack_any fun st => wpAny_pure ?_
    split
    · rename_i c _ _ _ _ _
      cases (c == Value.type "enumerate")
      · wp_walk using AutoSeq1.wpAny_loadPart' hl, wpAny_pyIter_tuple hL
        exact ⟨_, rfl, h⟩
      · wp_walk using AutoSeq1.wpAny_loadPart' hl, wpAny_pyIter_tuple hL
        exact ⟨_, rfl, h⟩
    · wp_walk using AutoSeq1.wpAny_loadPart' hl, wpAny_pyIter_tuple hL
      exact ⟨_, rfl, h⟩
theorem call_enumerate_tuple {prog : Program} {w : World} {A : Around} {E : Value → Shared → Prop} {s : Shared} {l : Addr} {items : Array Value} {Q : Value → Shared → Prop} (hL : s.heap.IsTuple l items)
    (h : ∀ h', IsEnum h' (s.heap.objs.size + 1) s.heap.objs.size 0 .none → h'.IsTupleIter s.heap.objs.size l 0 → h'.objs.size = s.heap.objs.size + 2 →
      (∀ b o, s.heap.get? b = some o → h'.get? b = some o) → Q (.ref (s.heap.objs.size + 1)) { s with heap := h' }) :
    wpAny (model prog w) A (call (.type "enumerate") [.ref l]) Q E s := by
  obtain ⟨⟨c, dct, dt, sl⟩, hl, hc, n, hd⟩ := hL
  replace hc : c = .type "tuple" := hc
  replace hd : dt = .seq items n := hd
  subst hc hd
  refine callType_new F.called_enumerate (by decide) (F.typeCall_enumerate_1 _) (F.newCall_enumerate_1 _) (fun obj => F.args_object_init_2 obj _) F.entry_enumerate_new
    (meets_enumerate_newT l items n dct sl) ⟨hl, ?_⟩
  have hz : (s.heap.push { cls := .type "tuple_iterator", data := .fields #[.ref l, .int 0 0] }).objs.size = s.heap.objs.size + 1 := Heap.size_push ..
  show _ ∧ _
  rw [hz]
  have he : IsEnum ((s.heap.push { cls := .type "tuple_iterator", data := .fields #[.ref l, .int 0 0] }).push
      { cls := .type "enumerate", data := .fields #[.none, .bool false, .ref s.heap.objs.size, rawInt 0, .none, .none] }) (s.heap.objs.size + 1) s.heap.objs.size 0 .none := by
    have := Heap.get?_push_size (s.heap.push { cls := .type "tuple_iterator", data := .fields #[.ref l, .int 0 0] })
      (o := { cls := .type "enumerate", data := .fields #[.none, .bool false, .ref s.heap.objs.size, rawInt 0, .none, .none] }) rfl
    rw [hz] at this; exact this
  refine ⟨⟨_, he, rfl⟩, h _ he ⟨_, Heap.get?_push_of_some _ (Heap.get?_push_size _ rfl), rfl, rfl⟩ (by rw [Heap.size_push, hz]) fun b o x => Heap.get?_push_of_some _ (Heap.get?_push_of_some _ x)⟩
theorem wpAny_pyNext_enum_endT {prog : Program} {w : World} {A : Around} {E : Value → Shared → Prop} {s : Shared} {e it l : Addr} {i : Nat} {items : Array Value} {old : Value} {Q : Option Value → Shared → Prop} (hh : A.handled = none)
    (he : IsEnum s.heap e it i old) (hit : s.heap.IsTupleIter it l i) (hl : s.heap.IsTuple l items) (hx : items[i]? = none)
    (hQ : ∀ h', Heap.ExtBut it s.heap h' → Q none { s with heap := h' }) : wpAny (model prog w) A (pyNext (.ref e)) Q E s := by
  have hT : s.TypeIs (.ref e) "enumerate" := ⟨_, he, rfl⟩
  unfold pyNext
  refine wpAny_bind (wpAny_attempt (wpAny_callSpecial?_slot (name := Str.ofString "__next__") hT F.slot_enumerate_next
    (wpAny_call_entry F.slot_enumerate_next hT F.entry_enumerate_next ?_ (F.args_enumerate_next_1 _))))
  show wpAny _ _ (field (.ref e) 2 >>= _) _ _ _
  refine wpAny_bind (wpAny_field he rfl (x := .ref it) rfl ?_)
  refine wpAny_bind (wpAny_nextOf_tuple_end hh hit hl hx fun h' x he' hx' => ?_)
  obtain ⟨o, ho, hc⟩ := hx'
  refine wpAny_bind (wpAny_isInstance (T := "StopIteration") (b := true) ⟨o, ho, hc⟩ isSubtype_stop ?_)
  exact wpAny_pure (hQ _ he')
/-- the tuple at a, each item in a new pair -/
def Itet (K : PySem.W.Frag) (a : Addr) : It :=
  ⟨fun i H => ∃ (xs : List V) (x : V), SqT K H a xs ∧ xs[i]? = some x, fun i H v H' => ∃ T x, v = .ref T ∧ H T = none ∧ H' = upd H T (.tup [.int (i : Nat), x]) ∧ ∀ xs, SqT K H a xs → xs[i]? = some x, fun i H => ∃ xs : List V, SqT K H a xs ∧ xs.length ≤ i⟩
theorem turn_enumT {P : Program} {w : World} {K : PySem.W.Frag} {elts : List Expr} {kk : Nat} {tpos : Pos} (a e it : Addr) :
    Turn P w K (.Tuple elts kk tpos) (Itet K a) [e, it] e (fun i h => (∃ old, IsEnum h e it ((i : Nat) : Int) old) ∧ h.IsTupleIter it a i ∧ e ≠ it) where
  mem := by simp
  obj := fun i h st b hb => by
    obtain ⟨⟨old, he⟩, ⟨o, ho, hc, hd⟩, _⟩ := st
    have e' : b = e ∨ b = it := by simpa using hb
    rcases e' with z | z
    · rw [z]; exact ⟨_, he, fun v q => nomatch q⟩
    · rw [z]; exact ⟨o, ho, fun v q => by rw [hd] at q; cases q⟩
  keep := fun i h h' st k => let ⟨⟨old, he⟩, hi, hne⟩ := st; ⟨⟨old, k e (by simp) _ he⟩, hi.at fun o q => k it (by simp) o q, hne⟩
  item := by
    intro X hP hw hK hc i pins s σ H E I hf st hg
    subst hP hw hK
    obtain ⟨⟨old, he⟩, hit, hne⟩ := st
    obtain ⟨xs, x, hq, hx⟩ := hg
    obtain ⟨its, rv, p, hz⟩ := I.tuple hq
    have pt : s.heap.IsTuple a its.toArray := p
    obtain ⟨u, hu, ru⟩ := rv.get hx
    have hel : e < s.heap.objs.size := Heap.lt_size he
    have hil : it < s.heap.objs.size := by obtain ⟨_, q, _⟩ := hit; exact Heap.lt_size q
    have nai : a ≠ it := fun z => by
      obtain ⟨o1, q1, c1, _⟩ := hit
      obtain ⟨o2, q2, c2, _⟩ := pt
      rw [z, q1] at q2
      cases q2
      rw [c1] at c2
      exact absurd c2 (by decide)
    have nea : e ≠ a := fun z => by
      obtain ⟨o2, q2, c2, _⟩ := pt
      have he' : s.heap.get? e = _ := he
      rw [z, q2] at he'
      have e3 := congrArg Obj.cls (Option.some.inj he')
      rw [c2] at e3
      exact absurd (show Value.type "tuple" = Value.type "enumerate" from e3) (by decide)
    have D := Draws.tuple (prog := X.prog) (w := X.w) (A := X.A.in1) (I.ok.hd hc) it a nai its.toArray
    have hui : i < its.length := (List.getElem?_eq_some_iff.mp hu).1
    refine wpAny_pyNext_enum_itemD D he ⟨hit, pt⟩ (by simpa using hui) hne (by simp [hne, nea]) fun x' h' tk hP' ho hst' hT hsz hk => ?_
    have ex : x' = u := by
      have z : its.toArray[i]? = some x' := hP'
      rw [List.getElem?_toArray, hu] at z
      exact (Option.some.inj z).symm
    subst ex
    refine ⟨_, rfl, wpAny_letOwnedTupleGo_enum (s := { s with heap := h', toks := tk + 1 }) ho fun h'' he' sb => ?_⟩
    have hT2 : h''.get? s.heap.objs.size = some { cls := .type "tuple", data := .seq #[.int i tk, x'] } := (sb.2 _ (Nat.ne_of_gt hel)).trans hT
    have new : ObjOk X.prog X.w (upd H s.heap.objs.size (.tup [.int (i : Nat), x])) h'' s.heap.objs.size (.tup [.int (i : Nat), x]) :=
      ⟨by show 2 ≤ sizeLine; decide, [.int i tk, x'], .cons ⟨_, rfl⟩ (.cons ru .nil), ⟨_, hT2, rfl, _, rfl⟩⟩
    have I1 : Inv X pins σ (upd H s.heap.objs.size (.tup [.int (i : Nat), x])) { s with heap := h'', toks := tk + 1 } :=
      I.turnedNew (ch := [e, it]) (fun b ob hb q => (sb.2 b (fun z => hb (by simp [z]))).trans (hk b ob (fun z => hb (by simp [z])) (fun z => hb (by simp [z])) q)) hf (Nat.le_refl _) new
    refine ⟨.ref s.heap.objs.size, _, I1, rfl, ⟨_, x, rfl, I.hok.fresh (Nat.le_refl _), rfl, fun ys hy => by rw [I.tuple_inj hy hq]; exact hx⟩, ⟨⟨x', ?_⟩, hst'.1.at fun o q => (sb.2 it (Ne.symm hne)).trans q, hne⟩, fun b hb => ?_⟩
    · have e1 : ((i + 1 : Nat) : Int) = (i : Int) + 1 := by omega
      rw [e1]; exact he'
    · have hb' : b < s.heap.objs.size := by
        have e' : b = e ∨ b = it := by simpa using hb
        rcases e' with z | z
        · rw [z]; exact hel
        · rw [z]; exact hil
      rw [upd_ne (Nat.ne_of_lt hb')]
      exact (hf b hb).1
  done := by
    intro X hP hw hK hc i pins s σ H E I hf st hg
    subst hP hw hK
    obtain ⟨⟨old, he⟩, hit, hne⟩ := st
    obtain ⟨xs, hq, hx⟩ := hg
    obtain ⟨its, rv, p, hz⟩ := I.tuple hq
    have pt : s.heap.IsTuple a its.toArray := p
    have nai : a ≠ it := fun z => by
      obtain ⟨o1, q1, c1, _⟩ := hit
      obtain ⟨o2, q2, c2, _⟩ := pt
      rw [z, q1] at q2
      cases q2
      rw [c1] at c2
      exact absurd c2 (by decide)
    obtain ⟨f0, f1, f2, f3, f4, f5⟩ := hf it (by simp)
    have hl := rv.length
    refine wpAny_pyNext_enum_endT (I.ok.hd hc) he hit pt (by simp; omega) fun h' eb => ⟨rfl, I.turned (t' := s.toks) (fun b o hb q => eb b o hb q) f0 f1 f3 f4 f5⟩
  self := fun A i s Q E st h => let ⟨⟨_, he⟩, _⟩ := st; wpAny_pyIter_enum he h
/-- enumerate of a list or a tuple -/
def kEnum (K : PySem.W.Frag) (vs : List V) (H : Hp) (R : It → Hp → Prop) : Prop := (∃ a xs, vs = [.ref a] ∧ SqL K H a xs ∧ R (Ite K a) H) ∨ (∃ a xs, vs = [.ref a] ∧ SqT K H a xs ∧ R (Itet K a) H)
def iEnumS (K : PySem.W.Frag) (ta : TA) : TI := fun σ H R => ta σ H fun vs H1 => kEnum K vs H1 R
theorem pi_enumS {X : Cx} {e : Expr} {ta : TA} {p pos tpos : Pos} {elts : List Expr} {kk : Nat} (hg : Gl X "enumerate") (hm : X.mg "enumerate" = none) (ha : PA X [e] ta) (hs : starEach [e] X.env = [(false, eval e X.env)] := by rfl) :
    PI X (.Tuple elts kk tpos) (.Call (.Name "enumerate" p) [e] [] pos) (iEnumS X.K ta) := by
  refine ⟨fun pins s σ H R I h => ?_⟩
  refine Call_ (ld_blt I hg hm boot_enumerate (PyProof.Rows.callWith_type1 (thn (ha.run pos pins s σ H _ I h) fun us s1 ⟨vs, H1, I1, r1, q1⟩ => ?_) hs rfl))
  rcases q1 with ⟨a, xs, ex, hq, q⟩ | ⟨a, xs, ex, hq, q⟩
  · subst ex
    cases r1 with
    | cons r rr =>
      cases rr
      cases r
      obtain ⟨its, rv, p', hz⟩ := I1.list hq
      refine call_enumerate_list p'.isList fun h' he hit hsz hk => wpAny_pyIter_enum he ?_
      have I2 : Inv X pins σ H1 { s1 with heap := h' } := I1.kept (t' := s1.toks) hk
      refine ⟨s1.heap.objs.size + 1, [s1.heap.objs.size + 1, s1.heap.objs.size], _, _, H1, rfl, I2, turn_enum a (s1.heap.objs.size + 1) s1.heap.objs.size, ⟨⟨.none, he⟩, hit, Nat.succ_ne_self _⟩, fun b hb => ?_, q⟩
      have e' : b = s1.heap.objs.size + 1 ∨ b = s1.heap.objs.size := by simpa using hb
      have hle : s1.heap.objs.size ≤ b := by
        rcases e' with z | z
        · rw [z]; exact Nat.le_add_right _ _
        · rw [z]; exact Nat.le_refl _
      exact I1.fpOk hle (I1.hok.fresh hle)
  · subst ex
    cases r1 with
    | cons r rr =>
      cases rr
      cases r
      obtain ⟨its, rv, p', hz⟩ := I1.tuple hq
      refine call_enumerate_tuple (show s1.heap.IsTuple a its.toArray from p') fun h' he hit hsz hk => wpAny_pyIter_enum he ?_
      have I2 : Inv X pins σ H1 { s1 with heap := h' } := I1.kept (t' := s1.toks) hk
      refine ⟨s1.heap.objs.size + 1, [s1.heap.objs.size + 1, s1.heap.objs.size], _, _, H1, rfl, I2, turn_enumT a (s1.heap.objs.size + 1) s1.heap.objs.size, ⟨⟨.none, he⟩, hit, Nat.succ_ne_self _⟩, fun b hb => ?_, q⟩
      have e' : b = s1.heap.objs.size + 1 ∨ b = s1.heap.objs.size := by simpa using hb
      have hle : s1.heap.objs.size ≤ b := by
        rcases e' with z | z
        · rw [z]; exact Nat.le_add_right _ _
        · rw [z]; exact Nat.le_refl _
      exact I1.fpOk hle (I1.hok.fresh hle)
/-- for i, x in enumerate(t): t a tuple that stands -/
theorem for_enumT {K : PySem.W.Frag} {a : Addr} {xs : List V} {g : TG} {tb : TS} {D : Ends} {σ : St} {H : Hp} (Pv : Nat → St → Hp → Prop) (h0 : Pv 0 σ H) (hl : ∀ i σ H, i ≤ xs.length → Pv i σ H → SqT K H a xs)
    (hs : ∀ i x σ H T, xs[i]? = some x → Pv i σ H → H T = none → g (.ref T) σ (upd H T (.tup [.int (i : Nat), x])) fun σ2 H2 => tb { D with nx := Pv (i + 1), ct := Pv (i + 1), bk := D.nx } σ2 H2) (hd : ∀ σ H, Pv xs.length σ H → D.nx σ H) :
    ∃ W : Nat → Nat → St → Hp → Prop, (∃ m, W 0 m σ H) ∧ ∀ i m σ H, W i m σ H →
      ((Itet K a).stop i H ∧ D.nx σ H) ∨ ((Itet K a).go i H ∧ ∃ N : St → Hp → Prop, (∀ σ' H', N σ' H' → ∃ m', m' < m ∧ W (i + 1) m' σ' H') ∧ ∀ x H', (Itet K a).yld i H x H' → g x σ H' fun σ2 H2 => tb { D with nx := N, ct := N, bk := D.nx } σ2 H2) := by
  refine ⟨fun i m σ H => m = xs.length - i ∧ i ≤ xs.length ∧ Pv i σ H, ⟨xs.length, by simp, Nat.zero_le _, h0⟩, ?_⟩
  rintro i m σ H ⟨rfl, hi, p⟩
  have q := hl i σ H hi p
  by_cases h : i < xs.length
  · refine .inr ⟨⟨xs, xs[i], q, List.getElem?_eq_getElem h⟩, Pv (i + 1), fun σ' H' z => ⟨xs.length - (i + 1), by omega, rfl, h, z⟩, ?_⟩
    rintro x H' ⟨T, y, rfl, hT, rfl, hy⟩
    exact hs i y σ H T (hy xs q) p hT
  · have e : i = xs.length := by omega
    subst e
    exact .inl ⟨⟨xs, q, Nat.le_refl _⟩, hd σ H p⟩

/-! ### the written part by names -/
structure Gm where
  K : PySem.W.Frag
  cRule : Addr
  cGame : Addr
  cSplitError : Addr
  cBadRule : Addr
  cBadHeap : Addr
  cBadSplit : Addr
  cNoTerms : Addr
  cNoTable : Addr
  cNotSure : Addr
  cBadWay : Addr
  cBadStyle : Addr
  cBadSums : Addr
  cBadNumber : Addr
  cTooGreat : Addr
  cBadRow : Addr
  cBadPlace : Addr
  cBadText : Addr
  aSTYLES : Addr
/-! ### built-ins by name -/
def rLen (K : PySem.W.Frag) : List V → Hp → VK → Prop := fun xs H Q => ∃ x n, xs = [x] ∧ LenV K x H n ∧ Q (.int n) H
def rAbs : List V → Hp → VK → Prop := fun xs H Q => ∃ i, xs = [.int i] ∧ Q (.int (if i < 0 then -i else i)) H
def rMin2 : List V → Hp → VK → Prop := fun xs H Q => ∃ i j, xs = [.int i, .int j] ∧ Q (.int (if j < i then j else i)) H
def rMax2 : List V → Hp → VK → Prop := fun xs H Q => ∃ i j, xs = [.int i, .int j] ∧ Q (.int (if j > i then j else i)) H
def rInt1 : List V → Hp → VK → Prop := fun xs H Q => (∃ i, xs = [.int i] ∧ Q (.int i) H) ∨ ∃ k, xs = [.bl k] ∧ Q (.int (if k then 1 else 0)) H
def rStr1 : List V → Hp → VK → Prop := fun xs H Q => ∃ i, xs = [.int i] ∧ i.natAbs.log2 < 1920 ∧ Q (.str (toString i)) H
def rTupOf (K : PySem.W.Frag) : List V → Hp → VK → Prop := fun xs H Q => ∃ p ys, xs = [.ref p] ∧ ((SqL K H p ys ∧ ∀ l, H l = none → Q (.ref l) (upd H l (.tup ys))) ∨ (SqT K H p ys ∧ Q (.ref p) H))
def rListOf (K : PySem.W.Frag) : List V → Hp → VK → Prop := fun xs H Q => ∃ p ys, xs = [.ref p] ∧ (SqL K H p ys ∨ SqT K H p ys) ∧ ∀ l, H l = none → Q (.ref l) (upd H l (.lst ys))
theorem pe_gint {X : Cx} {x : Str} {n : Int} {pos : Pos} (h : ∃ t, X.mg x = some (.int n t)) (hg : Gl X x) (hd : (x == ("__debug__" : Str)) = false := by decide) : PE X (.Name x pos) (tC (.int n)) := by
  obtain ⟨t, e⟩ := h
  exact pe_glob hg e ⟨t, rfl⟩ hd
theorem pe_gstr {X : Cx} {x s : Str} {pos : Pos} (h : ∃ t, X.mg x = some (.str s t)) (hg : Gl X x) (hd : (x == ("__debug__" : Str)) = false := by decide) : PE X (.Name x pos) (tC (.str s)) := by
  obtain ⟨t, e⟩ := h
  exact pe_glob hg e ⟨t, rfl⟩ hd
def tTry1 (K : PySem.W.Frag) (c : Value) (tb : WX → TS) (ts : Addr → Value → Option Addr → TS) : TS := fun D σ H => tb (wOnly K c ts (fun _ _ _ _ => False) D) D σ H
def tTryN (K : PySem.W.Frag) (tb : WX → TS) (l : List (Value × (Addr → Value → Option Addr → TS))) : TS := fun D σ H => tb (wMany K (fun _ _ _ _ => False) D l) D σ H
def startN (n : Nat) (vs : List V) : St := vs.map some ++ List.replicate (n - vs.length) none

theorem log2_le {n k : Nat} (h : n ≤ 2 ^ k) : n.log2 ≤ k := by
  by_cases z : n = 0
  · subst z; simp
  · have : n.log2 < k + 1 := (Nat.log2_lt z).mpr (by rw [Nat.pow_succ]; have := Nat.two_pow_pos k; omega)
    omega
theorem pow_nat {b : Int} {k m : Nat} (h : b.natAbs ≤ 2 ^ m) : (b ^ k).natAbs ≤ 2 ^ (m * k) := by
  rw [Int.natAbs_pow, Nat.pow_mul]
  exact Nat.pow_le_pow_left h k
theorem mul_nat {a b : Int} {m n : Nat} (ha : a.natAbs ≤ 2 ^ m) (hb : b.natAbs ≤ 2 ^ n) : (a * b).natAbs ≤ 2 ^ (m + n) := by
  rw [Int.natAbs_mul, Nat.pow_add]
  exact Nat.mul_le_mul ha hb
theorem cmul_of {a b : Int} {m n : Nat} (ha : a.natAbs ≤ 2 ^ m) (hb : b.natAbs ≤ 2 ^ n) (h : m + n < 1000000 := by omega) : CMulW a b := by
  have h1 := log2_le ha
  have h2 := log2_le hb
  unfold CMulW
  omega
/-! ### the heap grows -/
theorem _root_.L2.Same.new {H : Hp} {p : Addr} {o : HO} (h : H p = none) : Same H (upd H p o) := fun a u e => by
  rw [upd_ne (ne_of_none e h)]
  exact e
theorem _root_.L2.Same.mut {H H' : Hp} {p : Addr} {o : HO} (e : Same H H') (h : H p = none) : Same H (upd H' p o) := fun a u ha => by
  rw [upd_ne (ne_of_none ha h)]
  exact e a u ha
theorem _root_.L2.Same.seqT {K : PySem.W.Frag} {H H' : Hp} {a : Addr} {xs : List V} (e : Same H H') (h : SqT K H a xs) : SqT K H' a xs := by
  rcases h with (h | ⟨o, h⟩) | h
  · exact .inl (.inl (e _ _ h))
  · exact .inl (.inr ⟨o, e _ _ h⟩)
  · exact .inr h
theorem SqL.of {K : PySem.W.Frag} {H : Hp} {a : Addr} {xs : List V} (h : H a = some (.lst xs)) : SqL K H a xs := .inl (.inl h)
theorem SqT.of {K : PySem.W.Frag} {H : Hp} {a : Addr} {xs : List V} (h : H a = some (.tup xs)) : SqT K H a xs := .inl (.inl h)
/-- a new object at p, all else as before -/
theorem alloc {H : Hp} {o : HO} {R : Addr → Hp → Prop} (k : ∀ p H', H p = none → Same H H' → H' p = some o → R p H') : ∀ p, H p = none → R p (upd H p o) := fun p hp => k p _ hp (Same.new hp) upd_same

/-! ### one step of a reading -/
theorem w_iteT {A B : Prop} (h : A) : if true = true then A else B := by rw [if_pos rfl]; exact h
theorem w_iteF {A B : Prop} (h : B) : if false = true then A else B := by rw [if_neg Bool.false_ne_true]; exact h
theorem w_iteNT {A B : Prop} (h : B) : if (!true) = true then A else B := by rw [if_neg (by decide)]; exact h
theorem w_iteNF {A B : Prop} (h : A) : if (!false) = true then A else B := by rw [if_pos (by decide)]; exact h
theorem w_ite {b : Bool} {A B : Prop} (h1 : b = true → A) (h2 : b = false → B) : if b = true then A else B := by
  cases b with
  | true => exact w_iteT (h1 rfl)
  | false => exact w_iteF (h2 rfl)
section
variable {K : PySem.W.Frag} {σ : St} {H : Hp} {Q : VK} {QB : Bool → Hp → Prop} {QA : List V → Hp → Prop} {QO : Option Int → Hp → Prop} {nx bk ct : St → Hp → Prop} {rt : VK} {t u : TS} {c d : TT} {ta tb te to : TE} {r r' : R2} {tr : TA} {x y v : V} {g : TG} {gs : TGs}
theorem w_seq (h : t ⟨u ⟨nx, rt, bk, ct⟩, rt, bk, ct⟩ σ H) : tSeq t u ⟨nx, rt, bk, ct⟩ σ H := h
theorem w_thru (h : t ⟨u ⟨nx, rt, bk, ct⟩, rt, bk, ct⟩ σ H) : tCut t u ⟨nx, rt, bk, ct⟩ σ H := ⟨_, h, fun _ _ z => z⟩
theorem w_cut (Mid : St → Hp → Prop) (h : t ⟨Mid, rt, bk, ct⟩ σ H) (h2 : ∀ σ' H', Mid σ' H' → u ⟨nx, rt, bk, ct⟩ σ' H') : tCut t u ⟨nx, rt, bk, ct⟩ σ H := ⟨Mid, h, h2⟩
theorem w_prp {C : Addr} {fld : Str} (h : ta σ H fun x H1 => kPrp C fld x H1 Q) : tPrp C fld ta σ H Q := h
def kMak (C : Addr) (sp : Sp) (E : XK) (vs : List V) (H : Hp) (Q : VK) : Prop := ∀ x dx, H x = none → H dx = none → dx ≠ x → sp (.ref x :: vs) (upd (upd H dx (.own x)) x (.ins C dx [])) (fun v H2 => v = .non ∧ Q (.ref x) H2) E
theorem w_mak {C : Addr} {sp : Sp} {E : XK} (h : tr σ H fun vs H1 => kMak C sp E vs H1 Q) : tMak C sp E tr σ H Q := h
def kMakS (C : Addr) (sp : Sp) (E : XK) (vs : List V) (H : Hp) (Q : VK) : Prop := ∀ x dx, H x = none → H dx = none → dx ≠ x → sp (.ref x :: vs) (upd (upd H dx (.own x)) x (.ins C dx [])) (fun v H2 => v = .non ∧ Q (.ref x) H2) E
theorem w_makS {C : Addr} {sp : Sp} {E : St → XK} (h : tr σ H fun vs H1 => kMak C sp (E σ) vs H1 Q) : tMakS C sp E tr σ H Q := h
theorem w_next (h : nx σ H) : tNext ⟨nx, rt, bk, ct⟩ σ H := h
theorem w_brk (h : bk σ H) : tBreak ⟨nx, rt, bk, ct⟩ σ H := h
theorem w_cont (h : ct σ H) : tCont ⟨nx, rt, bk, ct⟩ σ H := h
theorem w_ret (h : te σ H rt) : tRet te ⟨nx, rt, bk, ct⟩ σ H := h
theorem w_retN (h : rt .non H) : tRetN ⟨nx, rt, bk, ct⟩ σ H := h
theorem w_asg (h : te σ H fun x H1 => g x σ H1 nx) : tAsg te g ⟨nx, rt, bk, ct⟩ σ H := h
theorem w_drop (h : te σ H fun _ H1 => nx σ H1) : tDrop te ⟨nx, rt, bk, ct⟩ σ H := h
theorem w_ifS (h : c σ H fun b H1 => if b = true then t ⟨nx, rt, bk, ct⟩ σ H1 else u ⟨nx, rt, bk, ct⟩ σ H1) : tIfS c t u ⟨nx, rt, bk, ct⟩ σ H := h
theorem w_gName {i : Nat} {k : St → Hp → Prop} (h : k (σ.set i (some v)) H) : gName i v σ H k := h
theorem w_gNil {k : St → Hp → Prop} (h : k σ H) : gNil [] σ H k := ⟨rfl, h⟩
theorem w_gCons {vs : List V} {k : St → Hp → Prop} (h : g v σ H fun σ' H' => gs vs σ' H' k) : gCons g gs (v :: vs) σ H k := ⟨v, vs, rfl, h⟩
theorem w_gTup {n : Nat} {a : Addr} {xs : List V} {k : St → Hp → Prop} (hs : SqT K H a xs) (hl : xs.length = n) (h : gs xs σ H k) : gTup K n gs (.ref a) σ H k := ⟨a, xs, rfl, hs, hl, h⟩
theorem w_gSub {ti : TE} {s : TSet} {k : St → Hp → Prop} (h : to σ H fun o H1 => ti σ H1 fun i H2 => s o i v H2 fun H3 => k σ H3) : gSub to ti s v σ H k := h
theorem w_setL {p : Addr} {xs : List V} {i : Int} {j : Nat} {k : Hp → Prop} (hp : H p = some (.lst xs)) (hi : ixN xs.length i = some j) (h : k (upd H p (.lst (xs.set j v)))) : rSetL (.ref p) (.int i) v H k := ⟨p, xs, i, j, rfl, rfl, hp, hi, h⟩
theorem w_par {i j : Nat} (h : tr σ H fun vs H1 => ∃ v w, vs = [v, w] ∧ nx ((σ.set i (some v)).set j (some w)) H1) : tPar i j tr ⟨nx, rt, bk, ct⟩ σ H := h
theorem w_par3 {i j l : Nat} (h : tr σ H fun vs H1 => ∃ u v w, vs = [u, v, w] ∧ nx (((σ.set i (some u)).set j (some v)).set l (some w)) H1) : tPar3 i j l tr ⟨nx, rt, bk, ct⟩ σ H := h
theorem w_two {v w : V} {k : V → V → Prop} (h : k v w) : ∃ a b, [v, w] = [a, b] ∧ k a b := ⟨v, w, rfl, h⟩
theorem w_three {u v w : V} {k : V → V → V → Prop} (h : k u v w) : ∃ a b c, [u, v, w] = [a, b, c] ∧ k a b c := ⟨u, v, w, rfl, h⟩
theorem w_aug {i : Nat} {f : Int → Int → Int} {m : Int} (hx : σ[i]? = some (some (.int m))) (h : te σ H fun y H1 => ipI f (.int m) y H1 fun z H2 => nx (σ.set i (some z)) H2) : tAug i te (ipI f) ⟨nx, rt, bk, ct⟩ σ H := ⟨_, hx, h⟩
theorem w_ipI {f : Int → Int → Int} {i j : Int} (h : Q (.int (f i j)) H) : ipI f (.int i) (.int j) H Q := ⟨i, j, rfl, rfl, h⟩
/-- what a for asks once its iterator has come -/
def forK (J : It) (g : TG) (t : TS) (nx : St → Hp → Prop) (rt : VK) (σ : St) (H : Hp) : Prop := ∃ W : Nat → Nat → St → Hp → Prop, (∃ m, W 0 m σ H) ∧ ∀ i m σ H, W i m σ H →
    (J.stop i H ∧ nx σ H) ∨ (J.go i H ∧ ∃ N : St → Hp → Prop, (∀ σ' H', N σ' H' → ∃ m', m' < m ∧ W (i + 1) m' σ' H') ∧ ∀ x H', J.yld i H x H' → g x σ H' fun σ2 H2 => t ⟨N, rt, nx, N⟩ σ2 H2)
theorem w_for {wi : TI} (h : wi σ H fun J H1 => forK J g t nx rt σ H1) : tFor wi g t ⟨nx, rt, bk, ct⟩ σ H := h
theorem k_range {lo : Int} {n : Nat} (Pv : Nat → St → Hp → Prop) (h0 : Pv 0 σ H) (hs : ∀ i σ H, i < n → Pv i σ H → g (.int (lo + i)) σ H fun σ2 H2 => t ⟨Pv (i + 1), rt, nx, Pv (i + 1)⟩ σ2 H2) (hd : ∀ σ H, Pv n σ H → nx σ H) : forK (Itr lo n) g t nx rt σ H :=
  for_range (D := ⟨nx, rt, fun _ _ => False, fun _ _ => False⟩) Pv h0 hs hd
theorem k_list {a : Addr} {xs : List V} (Pv : Nat → St → Hp → Prop) (h0 : Pv 0 σ H) (hl : ∀ i σ H, i ≤ xs.length → Pv i σ H → SqL K H a xs) (hs : ∀ i x σ H, xs[i]? = some x → Pv i σ H → g x σ H fun σ2 H2 => t ⟨Pv (i + 1), rt, nx, Pv (i + 1)⟩ σ2 H2) (hd : ∀ σ H, Pv xs.length σ H → nx σ H) : forK (Itl K a) g t nx rt σ H :=
  for_list (D := ⟨nx, rt, fun _ _ => False, fun _ _ => False⟩) Pv h0 hl hs hd
theorem k_tup {a : Addr} {xs : List V} (Pv : Nat → St → Hp → Prop) (h0 : Pv 0 σ H) (hl : ∀ i σ H, i ≤ xs.length → Pv i σ H → SqT K H a xs) (hs : ∀ i x σ H, xs[i]? = some x → Pv i σ H → g x σ H fun σ2 H2 => t ⟨Pv (i + 1), rt, nx, Pv (i + 1)⟩ σ2 H2) (hd : ∀ σ H, Pv xs.length σ H → nx σ H) : forK (Itt K a) g t nx rt σ H :=
  for_tup (D := ⟨nx, rt, fun _ _ => False, fun _ _ => False⟩) Pv h0 hl hs hd
theorem k_enumT {a : Addr} {xs : List V} (Pv : Nat → St → Hp → Prop) (h0 : Pv 0 σ H) (hl : ∀ i σ H, i ≤ xs.length → Pv i σ H → SqT K H a xs) (hs : ∀ i x σ H T, xs[i]? = some x → Pv i σ H → H T = none → g (.ref T) σ (upd H T (.tup [.int (i : Nat), x])) fun σ2 H2 => t ⟨Pv (i + 1), rt, nx, Pv (i + 1)⟩ σ2 H2) (hd : ∀ σ H, Pv xs.length σ H → nx σ H) : forK (Itet K a) g t nx rt σ H :=
  for_enumT (D := ⟨nx, rt, fun _ _ => False, fun _ _ => False⟩) Pv h0 hl hs hd
/-- what a list comprehension asks once its iterator has come -/
def lcK (J : It) (g : TG) (tt : TT) (te : TE) (vs : List Nat) (σ : St) (H1 : Hp) (Q : VK) : Prop := ∀ D, H1 D = none → ∃ W : Nat → Nat → Hp → Prop, (∃ m, W 0 m (upd H1 D (.lst []))) ∧ ∀ i m H, W i m H →
  (J.stop i H ∧ Q (.ref D) H) ∨ (J.go i H ∧ ∃ Nx : Hp → Prop, (∀ H', Nx H' → ∃ m', m' < m ∧ W (i + 1) m' H') ∧ ∀ x H', J.yld i H x H' → g x (wipe σ vs) H' fun σ2 H2 => wipe σ2 vs = wipe σ vs ∧ tt σ2 H2 fun b H3 =>
    if b = true then te σ2 H3 fun y H4 => ∃ acc, H4 D = some (.lst acc) ∧ acc.length < sizeLine ∧ Nx (upd H4 D (.lst (acc ++ [y]))) else Nx H3)
theorem w_lc {wi : TI} {vs : List Nat} (h : wi σ H fun J H1 => lcK J g c te vs σ H1 Q) : tLc wi g c te vs σ H Q := h
/-- one turn's end in a comprehension over the heap H0: the list so far, all else as it stood -/
def lcAt (H0 : Hp) (D : Addr) (P : List V → Hp → Prop) (H : Hp) : Prop := ∃ acc, H0 D = none ∧ Same H0 H ∧ H D = some (.lst acc) ∧ P acc H
/-- what a turn of a comprehension is to give: a value y with P of the list one longer -/
def lcTurn (H0 : Hp) (D : Addr) (P : List V → Hp → Prop) (y : V) (H4 : Hp) : Prop := ∃ acc, H4 D = some (.lst acc) ∧ acc.length < sizeLine ∧ lcAt H0 D P (upd H4 D (.lst (acc ++ [y])))
theorem lcTurn.mk {H0 : Hp} {D : Addr} {acc : List V} {P : List V → Hp → Prop} {y : V} {H4 : Hp} (hD : H0 D = none) (e : Same H0 H4) (ha : H4 D = some (.lst acc)) (hz : acc.length ≤ 100000) (hp : P (acc ++ [y]) (upd H4 D (.lst (acc ++ [y])))) : lcTurn H0 D P y H4 :=
  ⟨acc, ha, Nat.lt_of_le_of_lt hz (by decide), _, hD, Same.mut e hD, upd_same, hp⟩
theorem k_lcRange {lo : Int} {n : Nat} {vs : List Nat} (P : Nat → List V → Hp → Prop) (h0 : ∀ H', Same H H' → P 0 [] H')
    (hs : ∀ i D acc H', i < n → H D = none → Same H H' → H' D = some (.lst acc) → P i acc H' → g (.int (lo + i)) (wipe σ vs) H' fun σ2 H2 => wipe σ2 vs = wipe σ vs ∧ te σ2 H2 (lcTurn H D (P (i + 1))))
    (hd : ∀ D acc H', H D = none → Same H H' → H' D = some (.lst acc) → P n acc H' → Q (.ref D) H') : lcK (Itr lo n) g tYes te vs σ H Q := fun D hD =>
  lc_range (lo := lo) (n := n) (fun i H' => lcAt H D (P i) H') ⟨[], hD, Same.new hD, upd_same, h0 _ (Same.new hD)⟩ (fun i H' hi ⟨acc, _, e, ha, p⟩ => hs i D acc H' hi hD e ha p) fun H' ⟨acc, _, e, ha, p⟩ => hd D acc H' hD e ha p
theorem k_lcList {a : Addr} {xs : List V} {vs : List Nat} (P : Nat → List V → Hp → Prop) (hx : SqL K H a xs) (h0 : ∀ H', Same H H' → P 0 [] H')
    (hs : ∀ i x D acc H', xs[i]? = some x → H D = none → Same H H' → H' D = some (.lst acc) → P i acc H' → g x (wipe σ vs) H' fun σ2 H2 => wipe σ2 vs = wipe σ vs ∧ te σ2 H2 (lcTurn H D (P (i + 1))))
    (hd : ∀ D acc H', H D = none → Same H H' → H' D = some (.lst acc) → P xs.length acc H' → Q (.ref D) H') : lcK (Itl K a) g tYes te vs σ H Q := fun D hD =>
  lc_list (xs := xs) (fun i H' => lcAt H D (P i) H') ⟨[], hD, Same.new hD, upd_same, h0 _ (Same.new hD)⟩ (fun i H' _ ⟨_, _, e, _⟩ => e.seq hx) (fun i x H' hi ⟨acc, _, e, ha, p⟩ => hs i x D acc H' hi hD e ha p) fun H' ⟨acc, _, e, ha, p⟩ => hd D acc H' hD e ha p
theorem k_lcTup {a : Addr} {xs : List V} {vs : List Nat} (P : Nat → List V → Hp → Prop) (hx : SqT K H a xs) (h0 : ∀ H', Same H H' → P 0 [] H')
    (hs : ∀ i x D acc H', xs[i]? = some x → H D = none → Same H H' → H' D = some (.lst acc) → P i acc H' → g x (wipe σ vs) H' fun σ2 H2 => wipe σ2 vs = wipe σ vs ∧ te σ2 H2 (lcTurn H D (P (i + 1))))
    (hd : ∀ D acc H', H D = none → Same H H' → H' D = some (.lst acc) → P xs.length acc H' → Q (.ref D) H') : lcK (Itt K a) g tYes te vs σ H Q := fun D hD =>
  lc_tup (xs := xs) (fun i H' => lcAt H D (P i) H') ⟨[], hD, Same.new hD, upd_same, h0 _ (Same.new hD)⟩ (fun i H' _ ⟨_, _, e, _⟩ => e.seqT hx) (fun i x H' hi ⟨acc, _, e, ha, p⟩ => hs i x D acc H' hi hD e ha p) fun H' ⟨acc, _, e, ha, p⟩ => hd D acc H' hD e ha p
/-- the same with a test: b i x, and the value of what is kept -/
theorem k_lcListT {a : Addr} {xs : List V} {vs : List Nat} (P : Nat → List V → Hp → Prop) (hx : SqL K H a xs) (h0 : ∀ H', Same H H' → P 0 [] H')
    (hs : ∀ i x D acc H', xs[i]? = some x → H D = none → Same H H' → H' D = some (.lst acc) → P i acc H' → g x (wipe σ vs) H' fun σ2 H2 => wipe σ2 vs = wipe σ vs ∧ c σ2 H2 fun b H3 => if b = true then te σ2 H3 (lcTurn H D (P (i + 1))) else lcAt H D (P (i + 1)) H3)
    (hd : ∀ D acc H', H D = none → Same H H' → H' D = some (.lst acc) → P xs.length acc H' → Q (.ref D) H') : lcK (Itl K a) g c te vs σ H Q := fun D hD =>
  lc_list (xs := xs) (fun i H' => lcAt H D (P i) H') ⟨[], hD, Same.new hD, upd_same, h0 _ (Same.new hD)⟩ (fun i H' _ ⟨_, _, e, _⟩ => e.seq hx) (fun i x H' hi ⟨acc, _, e, ha, p⟩ => hs i x D acc H' hi hD e ha p) fun H' ⟨acc, _, e, ha, p⟩ => hd D acc H' hD e ha p
theorem k_lcRangeT {lo : Int} {n : Nat} {vs : List Nat} (P : Nat → List V → Hp → Prop) (h0 : ∀ H', Same H H' → P 0 [] H')
    (hs : ∀ i D acc H', i < n → H D = none → Same H H' → H' D = some (.lst acc) → P i acc H' → g (.int (lo + i)) (wipe σ vs) H' fun σ2 H2 => wipe σ2 vs = wipe σ vs ∧ c σ2 H2 fun b H3 => if b = true then te σ2 H3 (lcTurn H D (P (i + 1))) else lcAt H D (P (i + 1)) H3)
    (hd : ∀ D acc H', H D = none → Same H H' → H' D = some (.lst acc) → P n acc H' → Q (.ref D) H') : lcK (Itr lo n) g c te vs σ H Q := fun D hD =>
  lc_range (lo := lo) (n := n) (fun i H' => lcAt H D (P i) H') ⟨[], hD, Same.new hD, upd_same, h0 _ (Same.new hD)⟩ (fun i H' hi ⟨acc, _, e, ha, p⟩ => hs i D acc H' hi hD e ha p) fun H' ⟨acc, _, e, ha, p⟩ => hd D acc H' hD e ha p
def kRng1 (vs : List V) (H : Hp) (R : It → Hp → Prop) : Prop := ∃ j : Int, vs = [.int j] ∧ -(2 ^ 62) ≤ j ∧ j < 2 ^ 62 ∧ R (Itr 0 j.toNat) H
def kRng2 (vs : List V) (H : Hp) (R : It → Hp → Prop) : Prop := ∃ i j : Int, vs = [.int i, .int j] ∧ (-(2 ^ 62) ≤ i ∧ i < 2 ^ 62 ∧ -(2 ^ 62) ≤ j ∧ j < 2 ^ 62) ∧ R (Itr i (j - i).toNat) H
theorem w_rng1 {R : It → Hp → Prop} (h : tr σ H fun vs H1 => kRng1 vs H1 R) : iRng1 tr σ H R := h
theorem w_rng2 {R : It → Hp → Prop} (h : tr σ H fun vs H1 => kRng2 vs H1 R) : iRng2 tr σ H R := h
theorem k_rng1 {j : Int} {R : It → Hp → Prop} (h1 : -(2 ^ 62) ≤ j ∧ j < 2 ^ 62) (h : R (Itr 0 j.toNat) H) : kRng1 [.int j] H R := ⟨j, rfl, h1.1, h1.2, h⟩
theorem k_rng2 {i j : Int} {R : It → Hp → Prop} (h1 : -(2 ^ 62) ≤ i ∧ i < 2 ^ 62 ∧ -(2 ^ 62) ≤ j ∧ j < 2 ^ 62) (h : R (Itr i (j - i).toNat) H) : kRng2 [.int i, .int j] H R := ⟨i, j, rfl, h1, h⟩
theorem w_iSeq {R : It → Hp → Prop} (h : te σ H fun x H1 => kSeq K x H1 R) : iSeq K te σ H R := h
theorem k_seqL {a : Addr} {xs : List V} {R : It → Hp → Prop} (hx : SqL K H a xs) (h : R (Itl K a) H) : kSeq K (.ref a) H R := .inl ⟨a, rfl, ⟨xs, hx⟩, h⟩
theorem k_seqT {a : Addr} {xs : List V} {R : It → Hp → Prop} (hx : SqT K H a xs) (h : R (Itt K a) H) : kSeq K (.ref a) H R := .inr ⟨a, rfl, ⟨xs, hx⟩, h⟩
theorem w_iEnum {R : It → Hp → Prop} (h : tr σ H fun vs H1 => kEnum K vs H1 R) : iEnumS K tr σ H R := h
theorem k_enT {a : Addr} {xs : List V} {R : It → Hp → Prop} (hx : SqT K H a xs) (h : R (Itet K a) H) : kEnum K [.ref a] H R := .inr ⟨a, xs, rfl, hx, h⟩
-- tests
theorem w_test (h : te σ H fun x H' => ∃ k, x = .bl k ∧ QB k H') : tTest te σ H QB := h
theorem w_B (h : te σ H fun x H' => ∃ k, x = .bl k ∧ QB k H') : tB te σ H QB := h
theorem w_bl {b : Bool} (h : QB b H) : ∃ k, V.bl b = .bl k ∧ QB k H := ⟨b, rfl, h⟩
theorem w_not (h : c σ H fun b H1 => QB (!b) H1) : tNot c σ H QB := h
theorem w_and (h : c σ H fun b H1 => if b = true then d σ H1 QB else QB false H1) : tAnd c d σ H QB := h
theorem w_or (h : c σ H fun b H1 => if b = true then QB true H1 else d σ H1 QB) : tOr c d σ H QB := h
theorem w_andV (h : ta σ H fun x H1 => ∃ k, x = .bl k ∧ if k = true then tb σ H1 Q else Q (.bl false) H1) : tAndV ta tb σ H Q := h
theorem w_orV (h : ta σ H fun x H1 => ∃ k, x = .bl k ∧ if k = true then Q (.bl true) H1 else tb σ H1 Q) : tOrV ta tb σ H Q := h
theorem w_notV (h : ta σ H fun x H1 => ∃ k, x = .bl k ∧ Q (.bl (!k)) H1) : tNotV ta σ H Q := h
theorem w_ifT {e : TT} (h : c σ H fun b H1 => if b = true then d σ H1 QB else e σ H1 QB) : tIfT c d e σ H QB := h
theorem w_if (h : c σ H fun b H1 => if b = true then ta σ H1 Q else tb σ H1 Q) : tIf c ta tb σ H Q := h
-- expressions
theorem w_var {i : Nat} (h : σ[i]? = some (some v)) (q : Q v H) : tVar i σ H Q := ⟨v, h, q⟩
theorem w_c (q : Q v H) : tC v σ H Q := q
theorem w_op (h : ta σ H fun x H1 => tb σ H1 fun y H2 => r x y H2 Q) : tOp r ta tb σ H Q := h
theorem w_un {r1 : V → Hp → VK → Prop} (h : ta σ H fun x H1 => r1 x H1 Q) : tUn r1 ta σ H Q := h
theorem w_rU {f : Int → V} {i : Int} (h : Q (f i) H) : rU f (.int i) H Q := ⟨i, rfl, h⟩
theorem w_chain (h : ta σ H fun x H1 => tb σ H1 fun y H2 => r x y H2 fun z H3 => ∃ k, z = .bl k ∧ (if k = true then te σ H3 fun w' H4 => r' y w' H4 Q else Q (.bl false) H3)) : tChain r r' ta tb te σ H Q := h
theorem w_blv {b : Bool} {k : Bool → Prop} (h : k b) : ∃ a, V.bl b = .bl a ∧ k a := ⟨b, rfl, h⟩
theorem w_addI {i j : Int} (h : Q (.int (i + j)) H) : rAddU K (.int i) (.int j) H Q := .inl ⟨i, j, rfl, rfl, h⟩
theorem w_addL {l b : Addr} {xs zs : List V} (hl : H l = some (.lst xs)) (hb : H b = some (.lst zs)) (hz : xs.length + zs.length ≤ sizeLine) (h : ∀ p H', H p = none → Same H H' → H' p = some (.lst (xs ++ zs)) → Q (.ref p) H') : rAddU K (.ref l) (.ref b) H Q :=
  .inr (.inl ⟨l, b, xs, zs, rfl, rfl, hl, hb, hz, alloc h⟩)
theorem w_addS {i j : Str} (hl : i.length + j.length ≤ sizeLine) (h : Q (.str (i ++ j)) H) : rAddU K (.str i) (.str j) H Q := .inr (.inr (.inr ⟨i, j, rfl, rfl, hl, h⟩))
theorem w_subI {i j : Int} (h : Q (.int (i - j)) H) : rSubI (.int i) (.int j) H Q := ⟨i, j, rfl, rfl, h⟩
theorem w_mulI {i j : Int} (hc : CMulW i j) (h : Q (.int (i * j)) H) : rMulU K (.int i) (.int j) H Q := .inl ⟨i, j, rfl, rfl, hc, h⟩
theorem w_divI {i j : Int} (hc : CDivW i j) (h : Q (.int (i / j)) H) : rDivI (.int i) (.int j) H Q := ⟨i, j, rfl, rfl, hc, h⟩
theorem w_modI {i j : Int} (hc : 0 < j) (h : Q (.int (i % j)) H) : rModI (.int i) (.int j) H Q := ⟨i, j, rfl, rfl, hc, h⟩
theorem w_powI {i j : Int} (hc : CPow i j) (h : Q (.int (i ^ j.toNat)) H) : rPowI (.int i) (.int j) H Q := ⟨i, j, rfl, rfl, hc, h⟩
theorem w_lt {i j : Int} (h : Q (.bl (decide (i < j))) H) : rLt (.int i) (.int j) H Q := ⟨i, j, rfl, rfl, h⟩
theorem w_le {i j : Int} (h : Q (.bl (decide (i ≤ j))) H) : rLe (.int i) (.int j) H Q := ⟨i, j, rfl, rfl, h⟩
theorem w_gt {i j : Int} (h : Q (.bl (decide (j < i))) H) : rGt (.int i) (.int j) H Q := ⟨i, j, rfl, rfl, h⟩
theorem w_ge {i j : Int} (h : Q (.bl (decide (j ≤ i))) H) : rGe (.int i) (.int j) H Q := ⟨i, j, rfl, rfl, h⟩
theorem w_eqI {i j : Int} (h : Q (.bl (decide (i = j))) H) : rEqU K (.int i) (.int j) H Q := .inl ⟨rfl, by rw [show decide (V.int i = V.int j) = decide (i = j) from by simp]; exact h⟩
theorem w_neI {i j : Int} (h : Q (.bl (!decide (i = j))) H) : rNeU K (.int i) (.int j) H Q := .inl ⟨rfl, by rw [show decide (V.int i = V.int j) = decide (i = j) from by simp]; exact h⟩
theorem w_eqS {i j : Str} (h : Q (.bl (decide (i = j))) H) : rEqU K (.str i) (.str j) H Q := .inl ⟨rfl, by rw [show decide (V.str i = V.str j) = decide (i = j) from by simp]; exact h⟩
theorem w_neS {i j : Str} (h : Q (.bl (!decide (i = j))) H) : rNeU K (.str i) (.str j) H Q := .inl ⟨rfl, by rw [show decide (V.str i = V.str j) = decide (i = j) from by simp]; exact h⟩
theorem w_eqB {i j : Bool} (h : Q (.bl (decide (i = j))) H) : rEqU K (.bl i) (.bl j) H Q := .inl ⟨rfl, by rw [show decide (V.bl i = V.bl j) = decide (i = j) from by simp]; exact h⟩
theorem w_neB {i j : Bool} (h : Q (.bl (!decide (i = j))) H) : rNeU K (.bl i) (.bl j) H Q := .inl ⟨rfl, by rw [show decide (V.bl i = V.bl j) = decide (i = j) from by simp]; exact h⟩
theorem w_isN (h : Q (.bl (decide (x = .non))) H) : rIsU x .non H Q := .inl ⟨rfl, h⟩
theorem w_notN (h : Q (.bl (!decide (x = .non))) H) : rNotIsU x .non H Q := .inl ⟨rfl, h⟩
theorem w_isB {a b : Bool} (h : Q (.bl (decide (a = b))) H) : rIsU (.bl a) (.bl b) H Q := .inr ⟨a, b, rfl, rfl, h⟩
theorem w_notB {a b : Bool} (h : Q (.bl (!decide (a = b))) H) : rNotIsU (.bl a) (.bl b) H Q := .inr ⟨a, b, rfl, rfl, h⟩
theorem w_ixL {p : Addr} {xs : List V} {i : Int} (hp : SqL K H p xs) (hi : atI xs i = some v) (h : Q v H) : rIx K (.ref p) (.int i) H Q := .inl ⟨p, xs, i, v, rfl, rfl, hp, hi, h⟩
theorem w_ixT {p : Addr} {xs : List V} {i : Int} (hp : SqT K H p xs) (hi : atI xs i = some v) (h : Q v H) : rIx K (.ref p) (.int i) H Q := .inr (.inl ⟨p, xs, i, v, rfl, rfl, hp, hi, h⟩)
theorem w_cal {sp : Sp} {E : XK} (h : tr σ H fun vs H1 => sp vs H1 Q E) : tCal sp E tr σ H Q := h
theorem w_calS {sp : Sp} {E : St → XK} (h : tr σ H fun vs H1 => sp vs H1 Q (E σ)) : tCalS sp E tr σ H Q := h
theorem w_met {C : Addr} {m : Str} {sp : Sp} {E : XK} (h : ta σ H fun x H1 => ∃ a dx fs, x = .ref a ∧ H1 a = some (.ins C dx fs) ∧ fs.lookup m = none ∧ tr σ H1 fun vs H2 => sp (x :: vs) H2 Q E) : tMet C m sp E ta tr σ H Q := h
theorem w_inT {neg : Bool} {p : Addr} {xs : List V} (hp : SqT K H p xs) (hx : flatV x = true) (ha : xs.all flatV = true) (h : Q (.bl (if neg then !inV x xs else inV x xs)) H) : rIn K neg x (.ref p) H Q := ⟨p, xs, rfl, .inr hp, hx, ha, h⟩
theorem w_inL {neg : Bool} {p : Addr} {xs : List V} (hp : SqL K H p xs) (hx : flatV x = true) (ha : xs.all flatV = true) (h : Q (.bl (if neg then !inV x xs else inV x xs)) H) : rIn K neg x (.ref p) H Q := ⟨p, xs, rfl, .inl hp, hx, ha, h⟩
theorem w_in1 (h : rIn K false x y H Q) : rInU K x y H Q := .inl h
theorem w_in2 (h : rIn K true x y H Q) : rNotInU K x y H Q := .inl h
theorem w_nil (h : QA [] H) : tNil σ H QA := h
theorem w_cons (h : ta σ H fun x H1 => tr σ H1 fun xs H2 => QA (x :: xs) H2) : tCons ta tr σ H QA := h
theorem w_cb {rb : List V → Hp → VK → Prop} (h : tr σ H fun vs H1 => rb vs H1 Q) : tCB rb tr σ H Q := h
def kTup (xs : List V) (H : Hp) (Q : VK) : Prop := xs.length ≤ sizeLine ∧ ∀ p, H p = none → Q (.ref p) (upd H p (.tup xs))
def kLst (xs : List V) (H : Hp) (Q : VK) : Prop := xs.length ≤ sizeLine ∧ ∀ p, H p = none → Q (.ref p) (upd H p (.lst xs))
theorem w_tup (h : tr σ H fun xs H1 => kTup xs H1 Q) : tTup tr σ H Q := h
theorem w_lst (h : tr σ H fun xs H1 => kLst xs H1 Q) : tLst tr σ H Q := h
theorem n_tup {xs : List V} (k : ∀ p H', H p = none → Same H H' → H' p = some (.tup xs) → Q (.ref p) H') (hz : xs.length ≤ 100000 := by first | decide | (simp only [List.length_cons, List.length_nil]; decide)) : kTup xs H Q := ⟨Nat.le_trans hz (by decide), fun p hp => k p _ hp (Same.new hp) upd_same⟩
theorem n_lst {xs : List V} (k : ∀ p H', H p = none → Same H H' → H' p = some (.lst xs) → Q (.ref p) H') (hz : xs.length ≤ 100000 := by first | decide | (simp only [List.length_cons, List.length_nil]; decide)) : kLst xs H Q := ⟨Nat.le_trans hz (by decide), fun p hp => k p _ hp (Same.new hp) upd_same⟩
def rFld (K : PySem.W.Frag) (f : Str) (x : V) (H : Hp) (Q : VK) : Prop := ∃ a C dx fs v, x = .ref a ∧ H a = some (.ins C dx fs) ∧ Cls K C ∧ NoAttr K C f ∧ fs.lookup f = some v ∧ Q v H
theorem w_fld {f : Str} (h : ta σ H fun x H1 => rFld K f x H1 Q) : tFld K ta f σ H Q := h
def kSfld (K : PySem.W.Frag) (f : Str) (y x : V) (H : Hp) (k : Hp → Prop) : Prop := ∃ a C dx fs, x = .ref a ∧ H a = some (.ins C dx fs) ∧ Cls K C ∧ NoAttr K C f ∧ fs.length < 1000 ∧ k (upd H a (.ins C dx (putF f y fs)))
theorem w_sFld {f : Str} {tv : TE} (h : tv σ H fun y H1 => ta σ H1 fun x H2 => kSfld K f y x H2 fun H3 => nx σ H3) : sFld K ta tv f ⟨nx, rt, bk, ct⟩ σ H := h
theorem k_sfld {f : Str} {y : V} {a C dx : Addr} {fs : List (Str × V)} {k : Hp → Prop} (h1 : H a = some (.ins C dx fs)) (h2 : Cls K C) (h3 : NoAttr K C f) (h4 : fs.length < 1000) (h : k (upd H a (.ins C dx (putF f y fs)))) : kSfld K f y (.ref a) H k := ⟨a, C, dx, fs, rfl, h1, h2, h3, h4, h⟩
theorem w_bm {T : String} {rm : V → List V → Hp → VK → Prop} (h : to σ H fun x H1 => tyV K T x H1 ∧ tr σ H1 fun xs H2 => rm x xs H2 Q) : tBM K T rm to tr σ H Q := h
theorem w_bm0 {T : String} {rm : V → List V → Hp → VK → Prop} (h : to σ H fun x H1 => tyV K T x H1 ∧ rm x [] H1 Q) : tBM0 K T rm to σ H Q := h
theorem w_tyL {p : Addr} {xs : List V} {A : Prop} (hp : H p = some (.lst xs)) (h : A) : tyV K "list" (.ref p) H ∧ A := ⟨.inl ⟨rfl, xs, SqL.of hp⟩, h⟩
theorem w_app {l : Addr} {xs : List V} (hl : H l = some (.lst xs)) (hz : xs.length ≤ 100000) (h : Q .non (upd H l (.lst (xs ++ [y])))) : rAppend (.ref l) [y] H Q := ⟨l, xs, y, rfl, rfl, hl, Nat.lt_of_le_of_lt hz (by decide), h⟩
theorem w_lenL {p : Addr} {xs : List V} (hp : SqL K H p xs) (h : Q (.int (xs.length : Int)) H) : rLen K [.ref p] H Q := ⟨_, _, rfl, .inl ⟨xs, hp, rfl⟩, h⟩
theorem w_lenT {p : Addr} {xs : List V} (hp : SqT K H p xs) (h : Q (.int (xs.length : Int)) H) : rLen K [.ref p] H Q := ⟨_, _, rfl, .inr ⟨xs, hp, rfl⟩, h⟩
theorem w_int1 {i : Int} (h : Q (.int i) H) : rInt1 [.int i] H Q := .inl ⟨i, rfl, h⟩
theorem w_abs {i : Int} (h : Q (.int (if i < 0 then -i else i)) H) : rAbs [.int i] H Q := ⟨i, rfl, h⟩
theorem w_min2 {i j : Int} (h : Q (.int (if j < i then j else i)) H) : rMin2 [.int i, .int j] H Q := ⟨i, j, rfl, h⟩
theorem w_tupL {p : Addr} {xs : List V} (hp : SqL K H p xs) (h : ∀ l H', H l = none → Same H H' → H' l = some (.tup xs) → Q (.ref l) H') : rTupOf K [.ref p] H Q := ⟨p, xs, rfl, .inl ⟨hp, alloc h⟩⟩
theorem w_tupT {p : Addr} {xs : List V} (hp : SqT K H p xs) (h : Q (.ref p) H) : rTupOf K [.ref p] H Q := ⟨p, xs, rfl, .inr ⟨hp, h⟩⟩
theorem w_listL {p : Addr} {xs : List V} (hp : SqL K H p xs ∨ SqT K H p xs) (h : ∀ l H', H l = none → Same H H' → H' l = some (.lst xs) → Q (.ref l) H') : rListOf K [.ref p] H Q := ⟨p, xs, rfl, hp, alloc h⟩
theorem w_sum {p : Addr} {ns : List Int} (hp : SqL K H p (ns.map V.int)) (h : Q (.int ns.sum) H) : rSum K [.ref p] H Q := ⟨p, ns, rfl, hp, h⟩
theorem w_all {p : Addr} {bs : List Bool} (hp : SqL K H p (bs.map V.bl)) (h : Q (.bl (bs.all id)) H) : rAll K [.ref p] H Q := ⟨p, bs, rfl, hp, h⟩
theorem w_sl {rs : RSl} {tl th : TO} (h : te σ H fun x H1 => tl σ H1 fun l H2 => th σ H2 fun u H3 => rs x l u H3 Q) : tSl rs te tl th σ H Q := h
theorem w_noPart (h : QO none H) : tNoPart σ H QO := h
theorem w_part (h : te σ H fun x H1 => ∃ i, x = .int i ∧ QO (some i) H1) : tPart te σ H QO := h
theorem w_parti {i : Int} {k : Int → Prop} (h : k i) : ∃ j, V.int i = .int j ∧ k j := ⟨i, rfl, h⟩
theorem w_yes (h : QB true H) : tYes σ H QB := h
theorem w_raise {C : Addr} {W : WX} (h : W (.ref C) none σ H) : tRaise C W ⟨nx, rt, bk, ct⟩ σ H := h
theorem w_try1 {cv : Value} {tbb : WX → TS} {ts : Addr → Value → Option Addr → TS} (h : tbb (wOnly K cv ts (fun _ _ _ _ => False) ⟨nx, rt, bk, ct⟩) ⟨nx, rt, bk, ct⟩ σ H) : tTry1 K cv tbb ts ⟨nx, rt, bk, ct⟩ σ H := h
theorem w_tryN {tbb : WX → TS} {l : List (Value × (Addr → Value → Option Addr → TS))} (h : tbb (wMany K (fun _ _ _ _ => False) ⟨nx, rt, bk, ct⟩ l) ⟨nx, rt, bk, ct⟩ σ H) : tTryN K tbb l ⟨nx, rt, bk, ct⟩ σ H := h
end

local macro_rules | `(tactic| walk_at "sq") => `(tactic| first
  | assumption
  | exact SqT.of (by assumption)
  | exact SqL.of (by assumption)
  | exact SqT.of upd_same
  | exact SqL.of upd_same
  | exact Same.seqT (by assumption) (by assumption)
  | exact Same.seq (by assumption) (by assumption)
  | exact Same.seqT (by assumption) (SqT.of (by assumption))
  | exact Same.seq (by assumption) (SqL.of (by assumption)))
local macro_rules | `(tactic| walk_at "s") => `(tactic| with_reducible first
  | refine w_seq ?_ | refine w_asg ?_ | refine w_gName ?_ | refine w_ret ?_ | refine w_ifS ?_ | refine w_drop ?_ | refine w_par ?_ | refine w_par3 ?_ | refine w_two ?_ | refine w_three ?_
  | refine w_test ?_ | refine w_B ?_ | refine w_not ?_ | refine w_and ?_ | refine w_or ?_ | refine w_andV ?_ | refine w_orV ?_ | refine w_notV ?_ | refine w_if ?_ | refine w_ifT ?_ | refine w_bl ?_ | refine w_blv ?_ | refine w_iteT ?_ | refine w_iteF ?_ | refine w_iteNT ?_ | refine w_iteNF ?_
  | refine w_var (by with_unfolding_all rfl) ?_ | refine w_c ?_ | refine w_op ?_ | refine w_un ?_ | refine w_rU ?_ | refine w_chain ?_
  | refine w_addI ?_ | refine w_subI ?_ | refine w_lt ?_ | refine w_le ?_ | refine w_gt ?_ | refine w_ge ?_ | refine w_eqI ?_ | refine w_neI ?_ | refine w_eqS ?_ | refine w_neS ?_ | refine w_eqB ?_ | refine w_neB ?_ | refine w_isN ?_ | refine w_notN ?_ | refine w_isB ?_ | refine w_notB ?_
  | refine w_cal ?_ | refine w_calS ?_ | refine w_nil ?_ | refine w_cons ?_ | refine w_cb ?_ | refine w_int1 ?_ | refine w_abs ?_ | refine w_min2 ?_ | refine w_ipI ?_ | refine w_gSub ?_
  | refine w_tup ?_ | refine w_lst ?_ | refine w_bm ?_ | refine w_bm0 ?_ | refine w_sl ?_ | refine w_noPart ?_ | refine w_part ?_ | refine w_parti ?_ | refine w_yes ?_ | refine w_raise ?_ | refine w_try1 ?_ | refine w_tryN ?_ | refine w_brk ?_ | refine w_cont ?_ | refine w_retN ?_ | refine w_gNil ?_ | refine w_gCons ?_
  | refine w_fld ?_ | refine w_prp ?_ | refine w_mak ?_ | refine w_makS ?_ | refine w_sFld ?_ | refine w_for ?_ | refine w_lc ?_ | refine w_rng1 ?_ | refine w_rng2 ?_ | refine w_iSeq ?_ | refine w_iEnum ?_ | refine w_met ?_
  | refine w_aug (by with_unfolding_all rfl) ?_
  | refine w_next ?_)
local macro_rules | `(tactic| walk_at "m") => `(tactic| first
  | ((with_reducible show rMulU _ (V.int _) (V.int _) _ _); refine w_mulI (cmul_of (m := 110) (n := 110) (by omega) (by omega)) ?_)
  | ((with_reducible show rModI (V.int _) (V.int _) _ _); refine w_modI (by omega) ?_))
local macro_rules | `(tactic| walk_at "ss") => `(tactic| repeat (first | walk_at "s" | walk_at "m"))
/-! ### any value -/
/-- a value of one of the kinds that the document names, as it stands in H -/
inductive Tag (K : PySem.W.Frag) (H : Hp) : V → Prop
  | non : Tag K H .non
  | bl (b : Bool) : Tag K H (.bl b)
  | int (i : Int) : Tag K H (.int i)
  | str (x : Str) : Tag K H (.str x)
  | lst {a : Addr} {xs : List V} (h : H a = some (.lst xs)) : Tag K H (.ref a)
  | tup {a : Addr} {xs : List V} (h : H a = some (.tup xs)) : Tag K H (.ref a)
  | dK {a : Addr} {kvs : List (Key × V)} (h : H a = some (.dK kvs)) : Tag K H (.ref a)
theorem Tag.mono {K : PySem.W.Frag} {H H' : Hp} {v : V} (e : Same H H') (h : Tag K H v) : Tag K H' v := by
  cases h with
  | non => exact .non
  | bl b => exact .bl b
  | int i => exact .int i
  | str x => exact .str x
  | lst h => exact .lst (e _ _ h)
  | tup h => exact .tup (e _ _ h)
  | dK h => exact .dK (e _ _ h)
/-- its built-in class -/
def tyN (H : Hp) : V → String
  | .non => "NoneType"
  | .bl _ => "bool"
  | .int _ => "int"
  | .str _ => "str"
  | .ref a => match H a with
    | some (.lst _) => "list"
    | some (.tup _) => "tuple"
    | some (.dK _) => "dict"
    | _ => "?"
  | _ => "?"
def tyTab (a n : String) : Bool := a == n || (a == "bool" && n == "int")
def isTy (H : Hp) (n : String) (v : V) : Bool := tyTab (tyN H v) n
def tyNames : List String := ["int", "bool", "str", "tuple", "list", "dict"]
theorem tyTab_all : ∀ a ∈ ["NoneType", "int", "bool", "str", "tuple", "list", "dict"], ∀ n ∈ tyNames, kitB a n = some (tyTab a n) := by decide +kernel
theorem w_isi {K : PySem.W.Frag} {H : Hp} {v : V} {n : String} {Q : VK} (h : Tag K H v) (hn : n ∈ tyNames) (q : Q (.bl (isTy H n v)) H) : rIsi K [v, .ty n] H Q := by
  have key : ∀ (a : String), TyX K H v (.type a) → tyN H v = a → a ∈ ["NoneType", "int", "bool", "str", "tuple", "list", "dict"] → rIsi K [v, .ty n] H Q := fun a t e m => ⟨v, .ty n, .type a, .type n, _, rfl, .ty n, t, kit_ty (tyTab_all a m n hn), by unfold isTy at q; rw [e] at q; exact q⟩
  cases h with
  | non => exact key "NoneType" (.base .non) rfl (by decide)
  | bl b => exact key "bool" (.base (.bl b)) rfl (by decide)
  | int i => exact key "int" (.base (.int i)) rfl (by decide)
  | str x => exact key "str" (.base (.str x)) rfl (by decide)
  | lst h => exact key "list" (.base (.lst h)) (by simp only [tyN, h]) (by decide)
  | tup h => exact key "tuple" (.base (.tup h)) (by simp only [tyN, h]) (by decide)
  | dK h => exact key "dict" (.base (.dK h)) (by simp only [tyN, h]) (by decide)
/-! ### is_integer, is_from -/
def isI : V → Bool
  | .int _ => true
  | _ => false
theorem isI_ty {K : PySem.W.Frag} {H : Hp} {v : V} (h : Tag K H v) : isI v = (isTy H "int" v && !isTy H "bool" v) := by
  cases h with
  | non => simp only [isTy, tyN, isI]; decide
  | bl b => simp only [isTy, tyN, isI]; decide
  | int i => simp only [isTy, tyN, isI]; decide
  | str x => simp only [isTy, tyN, isI]; decide
  | lst h => simp only [isTy, tyN, h, isI]; decide
  | tup h => simp only [isTy, tyN, h, isI]; decide
  | dK h => simp only [isTy, tyN, h, isI]; decide
/-- an int from lo to hi, no bool -/
def inR (lo hi : Int) : V → Bool
  | .int n => decide (lo ≤ n) && decide (n ≤ hi)
  | _ => false
def sp_is_integer (Γ : Gm) : Sp := fun vs H Q _ => ∃ v, vs = [v] ∧ Tag Γ.K H v ∧ Q (.bl (isI v)) H
def sp_is_from (Γ : Gm) : Sp := fun vs H Q _ => ∃ v lo hi, vs = [v, .int lo, .int hi] ∧ Tag Γ.K H v ∧ Q (.bl (inR lo hi v)) H
/-- is_integer: value -/
def t_is_integer (Γ : Gm) : TS := (tRet (tAndV (tCB (rIsi Γ.K) (tCons (tVar 0) (tCons (tC (.ty "int")) tNil))) (tNotV (tCB (rIsi Γ.K) (tCons (tVar 0) (tCons (tC (.ty "bool")) tNil))))))
theorem rd_is_integer (Γ : Gm) (vs : List V) (H : Hp) (Q : VK) (E : XK) (h : sp_is_integer Γ vs H Q E) : t_is_integer Γ ⟨fun _ H' => Q .non H', Q, fun _ _ => False, fun _ _ => False⟩ (startN 1 vs) H := by
  obtain ⟨v, rfl, ht, q⟩ := h
  unfold t_is_integer
  walk_at "ss"
  refine w_isi ht (by decide) ?_
  rw [isI_ty ht] at q
  walk_at "ss"
  refine w_ite (fun e => ?_) (fun e => ?_)
  · walk_at "ss"
    refine w_isi ht (by decide) ?_
    walk_at "ss"
    rw [e] at q
    exact q
  · rw [e] at q
    exact q
/-- is_from: value, low, high -/
def t_is_from (Γ : Gm) : TS := (tRet (tAndV (tCal (sp_is_integer Γ) E0 (tCons (tVar 0) tNil)) (tChain rLe rLe (tVar 1) (tVar 0) (tVar 2))))
theorem rd_is_from (Γ : Gm) (vs : List V) (H : Hp) (Q : VK) (E : XK) (h : sp_is_from Γ vs H Q E) : t_is_from Γ ⟨fun _ H' => Q .non H', Q, fun _ _ => False, fun _ _ => False⟩ (startN 3 vs) H := by
  obtain ⟨v, lo, hi, rfl, ht, q⟩ := h
  unfold t_is_from
  walk_at "ss"
  refine ⟨v, rfl, ht, ?_⟩
  walk_at "ss"
  cases v with
  | int n =>
    rw [if_pos (show isI (V.int n) = true from rfl)]
    walk_at "ss"
    refine w_ite (fun e => ?_) (fun e => ?_)
    · walk_at "ss"
      have e' : decide (lo ≤ n) = true := e
      simp only [inR, e', Bool.true_and] at q
      exact q
    · have e' : decide (lo ≤ n) = false := e
      simp only [inR, e', Bool.false_and] at q
      exact q
  | _ => exact w_iteF q
/-! ### drawing -/
/-- what a source of numbers holds -/
def DS (ns : List Int) : Prop := ∃ (s c : Int) (r : List Int), ns = s :: c :: r ∧ 0 ≤ s ∧ s < 2147483647 ∧ r.length ≤ 63
abbrev dO (d : Addr) : HO := opq DS d
def sp__law_below (Γ : Gm) : Sp := fun vs H Q _ => ∃ (d : Addr) (n : Int), vs = [.ref d, .int n] ∧ H d = some (dO d) ∧ 0 < n ∧ n < 2 ^ 200 ∧ ∀ r : Int, 0 ≤ r → r < n → Q (.int r) H
/-- law_below: _law_d, _law_size, _law_result -/
def t__law_below (Γ : Gm) : TS := tOpen DS (tCut (tIfS (tAnd (tTest (tOp (rEqU Γ.K) (tOp (rIx Γ.K) (tVar 0) (tC (.int 1))) (tC (.int 0)))) (tTest (tOp rGt (tCB (rLen Γ.K) (tCons (tVar 0) tNil)) (tC (.int 2))))) (tAsg (tBM Γ.K "list" rPopAt (tVar 0) (tCons (tC (.int 2)) tNil)) (gSub (tVar 0) (tC (.int 1)) rSetL)) tNext)
  (tSeq (tIfS (tTest (tOp rGt (tOp (rIx Γ.K) (tVar 0) (tC (.int 1))) (tC (.int 0)))) (tSeq (tAsg (tOp rModI (tCB rInt1 (tCons (tOp (rIx Γ.K) (tVar 0) (tC (.int 1))) tNil)) (tVar 1)) (gName 2))
  (tSeq (tAsg (tOp rDivI (tOp (rIx Γ.K) (tVar 0) (tC (.int 1))) (tVar 1)) (gSub (tVar 0) (tC (.int 1)) rSetL))
  (tRet (tVar 2)))) tNext)
  (tSeq (tAsg (tOp rModI (tCB rInt1 (tCons (tOp (rAddU Γ.K) (tOp (rMulU Γ.K) (tOp (rIx Γ.K) (tVar 0) (tC (.int 0))) (tC (.int 48271))) (tC (.int 11))) tNil)) (tC (.int 2147483647))) (gSub (tVar 0) (tC (.int 0)) rSetL))
  (tRet (tOp rModI (tCB rInt1 (tCons (tOp rDivI (tOp (rIx Γ.K) (tVar 0) (tC (.int 0))) (tC (.int 64))) tNil)) (tVar 1))))))
theorem upd_back {H : Hp} {d : Addr} {o u : HO} (h : H d = some o) : upd (upd H d u) d o = H := by
  rw [upd_upd]
  funext b
  unfold upd
  split
  · rename_i e; rw [e, h]
  · rfl
theorem atI0 {α : Type} (a : α) (l : List α) : atI (a :: l) 0 = some a := by simp [atI, ixN]
theorem atI1 {α : Type} (a b : α) (l : List α) : atI (a :: b :: l) 1 = some b := by
  unfold atI ixN
  rw [if_pos (by decide), if_pos (by simp only [List.length_cons]; omega)]
  rfl
theorem ixN0 (n : Nat) : ixN (n + 1) 0 = some 0 := by
  unfold ixN
  rw [if_pos (by decide), if_pos (by omega)]
  rfl
theorem ixN1 (n : Nat) : ixN (n + 1 + 1) 1 = some 1 := by
  unfold ixN
  rw [if_pos (by decide), if_pos (by omega)]
  rfl
theorem log_of {n : Int} {k : Nat} (h : n.natAbs < 2 ^ k) : n.natAbs.log2 < k + 1 := by
  by_cases z : n.natAbs = 0
  · rw [z]; simp
  · have := (Nat.log2_lt z).mpr h
    omega
theorem rd__law_below (Γ : Gm) (vs : List V) (H : Hp) (Q : VK) (E : XK) (h : sp__law_below Γ vs H Q E) : t__law_below Γ ⟨fun _ H' => Q .non H', Q, fun _ _ => False, fun _ _ => False⟩ (startN 3 vs) H := by
  obtain ⟨d, n, rfl, hd, hn, hn2, k⟩ := h
  refine ⟨d, hd, ?_⟩
  rintro _ ⟨s, c, r, rfl, hs, hs2, hr⟩
  have fin : ∀ (H1 : Hp) (v : Int) (ns : List Int), (∀ o, upd H1 d o = upd H d o) → H1 d = some (.lst (ns.map V.int)) → DS ns → 0 ≤ v → v < n → (shutE DS d ⟨fun _ H' => Q .non H', Q, fun _ _ => False, fun _ _ => False⟩).rt (.int v) H1 := fun H1 v ns e1 e2 e3 h1 h2 => by
    refine ⟨ns, e3, e2, ?_⟩
    rw [e1]
    have e4 : upd H d (dO d) = H := by
      have := upd_back (u := dO d) hd
      rwa [upd_upd] at this
    rw [e4]
    exact k v h1 h2
  have two : ∀ (c : Int) (r : List Int) (H1 : Hp), r.length ≤ 63 → H1 d = some (.lst ((s :: c :: r).map V.int)) → (∀ o, upd H1 d o = upd H d o) →
      (tSeq (tIfS (tTest (tOp rGt (tOp (rIx Γ.K) (tVar 0) (tC (.int 1))) (tC (.int 0)))) (tSeq (tAsg (tOp rModI (tCB rInt1 (tCons (tOp (rIx Γ.K) (tVar 0) (tC (.int 1))) tNil)) (tVar 1)) (gName 2))
  (tSeq (tAsg (tOp rDivI (tOp (rIx Γ.K) (tVar 0) (tC (.int 1))) (tVar 1)) (gSub (tVar 0) (tC (.int 1)) rSetL))
  (tRet (tVar 2)))) tNext)
  (tSeq (tAsg (tOp rModI (tCB rInt1 (tCons (tOp (rAddU Γ.K) (tOp (rMulU Γ.K) (tOp (rIx Γ.K) (tVar 0) (tC (.int 0))) (tC (.int 48271))) (tC (.int 11))) tNil)) (tC (.int 2147483647))) (gSub (tVar 0) (tC (.int 0)) rSetL))
  (tRet (tOp rModI (tCB rInt1 (tCons (tOp rDivI (tOp (rIx Γ.K) (tVar 0) (tC (.int 0))) (tC (.int 64))) tNil)) (tVar 1))))) (shutE DS d ⟨fun _ H' => Q .non H', Q, fun _ _ => False, fun _ _ => False⟩) (startN 3 [.ref d, .int n]) H1 := fun c r H1 hr hH hB => by
    unfold shutE
    walk_at "ss"
    refine w_ixL (SqL.of hH) (atI1 _ _ _) ?_
    walk_at "ss"
    refine w_ite (fun e => ?_) (fun e => ?_)
    · walk_at "ss"
      refine w_ixL (SqL.of hH) (atI1 _ _ _) ?_
      walk_at "ss"
      refine w_ixL (SqL.of hH) (atI1 _ _ _) ?_
      walk_at "ss"
      refine w_divI ⟨hn, by have := log_of (n := n) (k := 200) (by omega); omega⟩ ?_
      walk_at "ss"
      refine w_setL hH (ixN1 _) ?_
      walk_at "ss"
      refine fin _ (c % n) (s :: (c / n) :: r) (fun o => by rw [upd_upd]; exact hB o) (by rw [upd_same]; rfl) ⟨s, c / n, r, rfl, hs, hs2, hr⟩ (Int.emod_nonneg _ (by omega)) (Int.emod_lt_of_pos _ hn)
    · walk_at "ss"
      refine w_ixL (SqL.of hH) (atI0 _ _) ?_
      walk_at "ss"
      refine w_setL hH (ixN0 _) ?_
      walk_at "ss"
      refine w_ixL (SqL.of upd_same) (atI0 _ _) ?_
      walk_at "ss"
      refine w_divI ⟨by decide, by decide +kernel⟩ ?_
      walk_at "ss"
      refine fin _ _ ((s * 48271 + 11) % 2147483647 :: c :: r) (fun o => by rw [upd_upd]; exact hB o) (by rw [upd_same]; rfl) ⟨_, c, r, rfl, Int.emod_nonneg _ (by decide), Int.emod_lt_of_pos _ (by decide), hr⟩ (Int.emod_nonneg _ (by omega)) (Int.emod_lt_of_pos _ hn)
  unfold shutE
  refine w_thru ?_
  walk_at "ss"
  refine w_ixL (SqL.of upd_same) (atI1 _ _ _) ?_
  walk_at "ss"
  refine w_ite (fun e => ?_) (fun e => ?_)
  · walk_at "ss"
    refine w_lenL (SqL.of upd_same) ?_
    walk_at "ss"
    refine w_ite (fun e2 => ?_) (fun e2 => ?_)
    · have hl : ∃ c' r', r = c' :: r' := by
        cases r with
        | nil => simp at e2
        | cons a b => exact ⟨a, b, rfl⟩
      obtain ⟨c', r', rfl⟩ := hl
      walk_at "ss"
      refine w_tyL upd_same ?_
      walk_at "ss"
      refine ⟨d, _, 2, 2, .int c', rfl, rfl, upd_same, by decide, by decide, ?_, rfl, ?_⟩
      · simp [seqIndex?]
        omega
      walk_at "ss"
      refine w_setL upd_same (ixN1 _) ?_
      refine two c' r' _ (by simp only [List.length_cons] at hr; omega) (by rw [upd_same]; rfl) (fun o => by rw [upd_upd, upd_upd, upd_upd])
    · exact two c r _ hr upd_same (fun o => by rw [upd_upd])
  · exact two c r _ hr upd_same (fun o => by rw [upd_upd])

/-! ### data made of tuples -/
mutual
inductive Tp (H : Hp) : V → PyData → Prop
  | non : Tp H .non .none
  | bl (b : Bool) : Tp H (.bl b) (.bool b)
  | int (i : Int) : Tp H (.int i) (.int i)
  | str (x : Str) : Tp H (.str x) (.str x)
  | tup {a : Addr} {xs : List V} {ds : List PyData} : H a = some (.tup xs) → TpAll H xs ds → Tp H (.ref a) (.tuple ds)
inductive TpAll (H : Hp) : List V → List PyData → Prop
  | nil : TpAll H [] []
  | cons {v : V} {vs : List V} {d : PyData} {ds : List PyData} : Tp H v d → TpAll H vs ds → TpAll H (v :: vs) (d :: ds)
end
/-- the tuples stand -/
def Tups (H H' : Hp) : Prop := ∀ a xs, H a = some (.tup xs) → H' a = some (.tup xs)
theorem _root_.L2.Same.tups {H H' : Hp} (e : Same H H') : Tups H H' := fun a xs h => e a _ h
theorem Tups.upd {H H' : Hp} {l : Addr} {o : HO} (e : Tups H H') (h : ∀ xs, H' l ≠ some (.tup xs)) : Tups H (upd H' l o) := fun a xs q => by
  have q' := e a xs q
  rw [upd_ne (fun z => h xs (by rw [← z]; exact q'))]
  exact q'
theorem Tups.trans {H H1 H2 : Hp} (a : Tups H H1) (b : Tups H1 H2) : Tups H H2 := fun x xs h => b x xs (a x xs h)
mutual
theorem Tp.mono {H H' : Hp} (e : Tups H H') : ∀ {v : V} {d : PyData}, Tp H v d → Tp H' v d
  | _, _, .non => .non
  | _, _, .bl b => .bl b
  | _, _, .int i => .int i
  | _, _, .str x => .str x
  | _, _, .tup h k => .tup (e _ _ h) (TpAll.mono e k)
theorem TpAll.mono {H H' : Hp} (e : Tups H H') : ∀ {vs : List V} {ds : List PyData}, TpAll H vs ds → TpAll H' vs ds
  | _, _, .nil => .nil
  | _, _, .cons h k => .cons (Tp.mono e h) (TpAll.mono e k)
end
mutual
theorem Tp.dp {K : PySem.W.Frag} {H : Hp} : ∀ {v : V} {d : PyData}, Tp H v d → Dp K H v d
  | _, _, .non => .non
  | _, _, .bl b => .bl b
  | _, _, .int i => .int i
  | _, _, .str x => .str x
  | _, _, .tup h k => .tup (SqT.of h) (TpAll.dp k)
theorem TpAll.dp {K : PySem.W.Frag} {H : Hp} : ∀ {vs : List V} {ds : List PyData}, TpAll H vs ds → DpAll K H vs ds
  | _, _, .nil => .nil
  | _, _, .cons h k => .cons (Tp.dp h) (TpAll.dp k)
end
theorem TpAll.length {H : Hp} : ∀ {vs : List V} {ds : List PyData}, TpAll H vs ds → vs.length = ds.length
  | _, _, .nil => rfl
  | _, _, .cons _ k => by rw [List.length_cons, List.length_cons, TpAll.length k]
theorem TpAll.get {H : Hp} : ∀ {vs : List V} {ds : List PyData} {i : Nat} {d : PyData}, TpAll H vs ds → ds[i]? = some d → ∃ v, vs[i]? = some v ∧ Tp H v d
  | _, _, _, _, .nil, e => by simp at e
  | _, _, 0, _, .cons h _, e => by simp at e; subst e; exact ⟨_, rfl, h⟩
  | _, _, i + 1, _, .cons _ k, e => by
    obtain ⟨v, h1, h2⟩ := TpAll.get (i := i) k (by simpa using e)
    exact ⟨v, by simpa using h1, h2⟩
theorem TpAll.get' {H : Hp} : ∀ {vs : List V} {ds : List PyData} {i : Nat} {v : V}, TpAll H vs ds → vs[i]? = some v → ∃ d, ds[i]? = some d ∧ Tp H v d
  | _, _, _, _, .nil, e => by simp at e
  | _, _, 0, _, .cons h _, e => by simp at e; subst e; exact ⟨_, rfl, h⟩
  | _, _, i + 1, _, .cons _ k, e => by
    obtain ⟨v, h1, h2⟩ := TpAll.get' (i := i) k (by simpa using e)
    exact ⟨v, by simpa using h1, h2⟩
theorem TpAll.ints {H : Hp} : ∀ {vs : List V} {ns : List Int}, TpAll H vs (ns.map PyData.int) → vs = ns.map V.int
  | _, [], .nil => rfl
  | _, n :: ns, .cons h k => by
    cases h
    rw [List.map_cons, TpAll.ints k]
theorem TpAll.of_ints (H : Hp) : ∀ (ns : List Int), TpAll H (ns.map V.int) (ns.map PyData.int)
  | [] => .nil
  | n :: ns => .cons (.int n) (TpAll.of_ints H ns)
theorem TpAll.append {H : Hp} : ∀ {vs ws : List V} {ds es : List PyData}, TpAll H vs ds → TpAll H ws es → TpAll H (vs ++ ws) (ds ++ es)
  | _, _, _, _, .nil, k => k
  | _, _, _, _, .cons h k, q => .cons h (TpAll.append k q)
theorem Tp.inv {H : Hp} {v : V} {ds : List PyData} (h : Tp H v (.tuple ds)) : ∃ a xs, v = .ref a ∧ H a = some (.tup xs) ∧ TpAll H xs ds := by
  cases h with
  | tup h k => exact ⟨_, _, rfl, h, k⟩
theorem Tp.tag {K : PySem.W.Frag} {H : Hp} {v : V} {d : PyData} (h : Tp H v d) : Tag K H v := by
  cases h with
  | non => exact .non
  | bl b => exact .bl b
  | int i => exact .int i
  | str x => exact .str x
  | tup h k => exact .tup h
/-! ### rules -/
inductive R where
  | tab (rows : List (List Int))
  | trm (ts : List (Int × Nat × Nat))
abbrev tri (t : Int × Nat × Nat) : List Int := [t.1, (t.2.1 : Int), (t.2.2 : Int)]
def R.body : R → PyData
  | .tab rows => .tuple (rows.map fun r => .tuple (r.map PyData.int))
  | .trm ts => .tuple (ts.map fun t => .tuple ((tri t).map PyData.int))
def R.kind : R → Str
  | .tab _ => "table"
  | .trm _ => "terms"
def R.top : R → Int
  | .tab rows => (rows.length : Int) + 1
  | .trm _ => 1000000000000000000000000000000
def R.pts (r : R) (a b : Int) : Int := match r with
  | .tab rows => (rows.getD (a - 1).toNat []).getD (b - 1).toNat 0
  | .trm ts => (ts.map fun t => t.1 * a ^ t.2.1 * b ^ t.2.2).sum
/-- the rules that are -/
def R.ok : R → Prop
  | .tab rows => 1 ≤ rows.length ∧ rows.length < 40 ∧ ∀ i r, rows[i]? = some r → r.length = rows.length - i ∧ ∀ n ∈ r, -1000000 ≤ n ∧ n ≤ 1000000
  | .trm ts => ts.length ≤ 6 ∧ ∀ t ∈ ts, -1000000 ≤ t.1 ∧ t.1 ≤ 1000000 ∧ t.2.1 ≤ 4 ∧ t.2.2 ≤ 4
def rfl2 (s : Str) (b : Addr) : List (Str × V) := putF "body" (.ref b) (putF "form" (.str s) [])
theorem fb : ¬ (("form" : Str) = "body") := by decide +kernel
theorem rfl2_form (s : Str) (b : Addr) : (rfl2 s b).lookup ("form" : Str) = some (.str s) := by
  unfold rfl2
  rw [lookup_putF, if_neg fb, lookup_putF, if_pos rfl]
theorem rfl2_body (s : Str) (b : Addr) : (rfl2 s b).lookup ("body" : Str) = some (.ref b) := by
  unfold rfl2
  rw [lookup_putF, if_pos rfl]
/-- a rule's object -/
def RuleAt (Γ : Gm) (H : Hp) (v : V) (r : R) : Prop := ∃ p dx b, v = .ref p ∧ H p = some (.ins Γ.cRule dx (rfl2 r.kind b)) ∧ Tp H (.ref b) r.body ∧ r.ok
theorem RuleAt.mono {Γ : Gm} {H H' : Hp} {v : V} {r : R} (e : Same H H') (h : RuleAt Γ H v r) : RuleAt Γ H' v r := by
  obtain ⟨p, dx, b, h1, h2, h3, h4⟩ := h
  exact ⟨p, dx, b, h1, e _ _ h2, h3.mono (Same.tups e), h4⟩
/-- what is asked of the class Rule -/
structure RuleF (Γ : Gm) : Prop where
  cl : Cls Γ.K Γ.cRule
  nF : NoAttr Γ.K Γ.cRule "form"
  nB : NoAttr Γ.K Γ.cRule "body"
theorem w_form {Γ : Gm} (F : RuleF Γ) {H : Hp} {v : V} {r : R} {Q : VK} (h : RuleAt Γ H v r) (q : Q (.str r.kind) H) : rFld Γ.K "form" v H Q := by
  obtain ⟨p, dx, b, rfl, h2, h3, h4⟩ := h
  exact ⟨p, _, dx, _, _, rfl, h2, F.cl, F.nF, rfl2_form _ _, q⟩
theorem w_body {Γ : Gm} (F : RuleF Γ) {H : Hp} {v : V} {r : R} {Q : VK} (h : RuleAt Γ H v r) (q : ∀ b xs, H b = some (.tup xs) → Tp H (.ref b) r.body → Q (.ref b) H) : rFld Γ.K "body" v H Q := by
  obtain ⟨p, dx, b, rfl, h2, h3, h4⟩ := h
  refine ⟨p, _, dx, _, _, rfl, h2, F.cl, F.nB, rfl2_body _ _, ?_⟩
  cases r <;> (cases h3 with | tup h k => exact q b _ h (.tup h k))
theorem kind_tab (r : R) : decide (r.kind = ("table" : Str)) = match r with | .tab _ => true | .trm _ => false := by
  cases r with
  | tab _ => exact decide_eq_true rfl
  | trm _ => exact decide_eq_false (show ¬ ("terms" : Str) = "table" from by decide +kernel)
/-! ### most_of, raised, points_by, check_heap -/
def sp_most_of (Γ : Gm) : Sp := fun vs H Q _ => ∃ v r, vs = [v] ∧ RuleAt Γ H v r ∧ Q (.int r.top) H
/-- most_of: rule -/
def t_most_of (Γ : Gm) : TS := (tRet (tIf (tTest (tOp (rEqU Γ.K) (tFld Γ.K (tVar 0) "form") (tC (.str "table")))) (tOp (rAddU Γ.K) (tCB (rLen Γ.K) (tCons (tFld Γ.K (tVar 0) "body") tNil)) (tC (.int 1))) (tC (.int 1000000000000000000000000000000))))
theorem rd_most_of (Γ : Gm) (F : RuleF Γ) (vs : List V) (H : Hp) (Q : VK) (E : XK) (h : sp_most_of Γ vs H Q E) : t_most_of Γ ⟨fun _ H' => Q .non H', Q, fun _ _ => False, fun _ _ => False⟩ (startN 1 vs) H := by
  obtain ⟨v, r, rfl, hr, q⟩ := h
  unfold t_most_of
  walk_at "ss"
  refine w_form F hr ?_
  walk_at "ss"
  rw [kind_tab]
  cases r with
  | tab rows =>
    refine w_iteT ?_
    walk_at "ss"
    refine w_body F hr fun b xs hb ht => ?_
    walk_at "ss"
    refine w_lenT (SqT.of hb) ?_
    walk_at "ss"
    obtain ⟨a, ys, e1, e2, e3⟩ := ht.inv
    cases e1
    rw [hb] at e2
    cases e2
    rw [e3.length, List.length_map]
    exact q
  | trm ts =>
    refine w_iteF ?_
    walk_at "ss"
    exact q
def sp_raised (Γ : Gm) : Sp := fun vs H Q _ => ∃ (b : Int) (k : Nat), vs = [.int b, .int k] ∧ k ≤ 4 ∧ b.natAbs < 2 ^ 110 ∧ Q (.int (b ^ k)) H
def rg (j : Int) : Prop := -(2 ^ 62) ≤ j ∧ j < 2 ^ 62
/-- raised: base, exponent, found, lap -/
def t_raised (Γ : Gm) : TS := (tSeq (tAsg (tC (.int 1)) (gName 2))
  (tSeq (tFor (iRng1 (tCons (tVar 1) tNil)) (gName 3) (tAsg (tOp (rMulU Γ.K) (tVar 2) (tVar 0)) (gName 2)))
  (tRet (tVar 2))))
theorem rd_raised (Γ : Gm) (vs : List V) (H : Hp) (Q : VK) (E : XK) (h : sp_raised Γ vs H Q E) : t_raised Γ ⟨fun _ H' => Q .non H', Q, fun _ _ => False, fun _ _ => False⟩ (startN 4 vs) H := by
  obtain ⟨b, k, rfl, hk, hb, q⟩ := h
  unfold t_raised
  walk_at "ss"
  refine k_rng1 (by omega) ?_
  refine k_range (fun i σ H' => ∃ x, σ = [some (.int b), some (.int k), some (.int (b ^ i)), x] ∧ H' = H) ⟨none, by rw [Int.pow_zero]; rfl, rfl⟩ ?_ ?_
  · rintro i σ H' hi ⟨x, rfl, rfl⟩
    have hi' : i < k := by simpa using hi
    walk_at "ss"
    refine w_mulI (cmul_of (pow_nat (k := i) (Nat.le_of_lt hb)) (Nat.le_of_lt hb) (by have : 110 * i ≤ 110 * 4 := Nat.mul_le_mul_left _ (by omega); omega)) ?_
    walk_at "ss"
    exact ⟨_, by rw [Int.pow_succ]; rfl, rfl⟩
  · rintro σ H' ⟨x, rfl, rfl⟩
    walk_at "ss"
    simpa using q
def sp_points_by (Γ : Gm) : Sp := fun vs H Q _ => ∃ v r a b, vs = [v, .int a, .int b] ∧ RuleAt Γ H v r ∧ 1 ≤ a ∧ 1 ≤ b ∧ a + b ≤ r.top ∧ ∀ H', Same H H' → Q (.int (r.pts a b)) H'
theorem atI_of {α : Type} {l : List α} {i : Int} {x : α} (h0 : 0 ≤ i) (h : l[i.toNat]? = some x) : atI l i = some x := by
  unfold atI ixN
  have : i.toNat < l.length := (List.getElem?_eq_some_iff.mp h).1
  rw [if_pos h0, if_pos (by omega)]
  exact h
theorem tab_at {rows : List (List Int)} {a b : Int} (ok : (R.tab rows).ok) (ha : 1 ≤ a) (hb : 1 ≤ b) (hs : a + b ≤ (R.tab rows).top) : ∃ r, rows[(a - 1).toNat]? = some r ∧ r[(b - 1).toNat]? = some ((R.tab rows).pts a b) := by
  obtain ⟨h1, h2, h3⟩ := ok
  have hs' : a + b ≤ (rows.length : Int) + 1 := hs
  have hi : (a - 1).toNat < rows.length := by omega
  have e := List.getElem?_eq_getElem hi
  refine ⟨_, e, ?_⟩
  obtain ⟨hl, _⟩ := h3 _ _ e
  have hj : (b - 1).toNat < (rows[(a - 1).toNat]).length := by omega
  show _ = some ((rows.getD (a - 1).toNat []).getD (b - 1).toNat 0)
  rw [List.getD_eq_getElem?_getD, List.getD_eq_getElem?_getD, e]
  show _ = some ((rows[(a - 1).toNat][(b - 1).toNat]?).getD 0)
  rw [List.getElem?_eq_getElem hj]
  rfl
def tval (a b : Int) (t : Int × Nat × Nat) : Int := t.1 * a ^ t.2.1 * b ^ t.2.2
theorem take_succ {α : Type} {l : List α} {i : Nat} {x : α} (h : l[i]? = some x) : l.take (i + 1) = l.take i ++ [x] := by
  rw [List.take_succ, h]
  rfl
/-- points_by: rule, first, second, number, one, other -/
def t_points_by (Γ : Gm) : TS := (tSeq (tIfS (tTest (tOp (rEqU Γ.K) (tFld Γ.K (tVar 0) "form") (tC (.str "table")))) (tRet (tOp (rIx Γ.K) (tOp (rIx Γ.K) (tFld Γ.K (tVar 0) "body") (tOp rSubI (tVar 1) (tC (.int 1)))) (tOp rSubI (tVar 2) (tC (.int 1))))) tNext)
  (tRet (tCB (rSum Γ.K) (tCons (tLc (iSeq Γ.K (tFld Γ.K (tVar 0) "body")) (gTup Γ.K 3 (gCons (gName 3) (gCons (gName 4) (gCons (gName 5) gNil)))) tYes (tOp (rMulU Γ.K) (tOp (rMulU Γ.K) (tVar 3) (tCal (sp_raised Γ) E0 (tCons (tVar 1) (tCons (tVar 4) tNil)))) (tCal (sp_raised Γ) E0 (tCons (tVar 2) (tCons (tVar 5) tNil)))) [3, 4, 5]) tNil))))
theorem rd_points_by (Γ : Gm) (F : RuleF Γ) (vs : List V) (H : Hp) (Q : VK) (E : XK) (h : sp_points_by Γ vs H Q E) : t_points_by Γ ⟨fun _ H' => Q .non H', Q, fun _ _ => False, fun _ _ => False⟩ (startN 6 vs) H := by
  obtain ⟨v, r, a, b, rfl, hr, ha, hb, hs, q⟩ := h
  unfold t_points_by
  walk_at "ss"
  refine w_form F hr ?_
  walk_at "ss"
  rw [kind_tab]
  have hok : r.ok := by obtain ⟨_, _, _, _, _, _, h⟩ := hr; exact h
  cases r with
  | tab rows =>
    refine w_iteT ?_
    walk_at "ss"
    refine w_body F hr fun bb xs hx ht => ?_
    obtain ⟨row, e1, e2⟩ := tab_at hok ha hb hs
    obtain ⟨a', ys, z1, z2, z3⟩ := ht.inv
    cases z1
    rw [hx] at z2
    cases z2
    obtain ⟨w, hw, tw⟩ := z3.get (i := (a - 1).toNat) (d := .tuple (row.map PyData.int)) (by rw [List.getElem?_map, e1]; rfl)
    obtain ⟨c, zs, rfl, hc, tc⟩ := tw.inv
    walk_at "ss"
    refine w_ixT (SqT.of hx) (atI_of (by omega) hw) ?_
    walk_at "ss"
    have ez := tc.ints
    subst ez
    refine w_ixT (SqT.of hc) (atI_of (by omega) (by rw [List.getElem?_map, e2]; rfl)) ?_
    exact q H (Same.refl H)
  | trm ts =>
    refine w_iteF ?_
    walk_at "ss"
    refine w_body F hr fun bb xs hx ht => ?_
    obtain ⟨a', ys, z1, z2, z3⟩ := ht.inv
    cases z1
    rw [hx] at z2
    cases z2
    refine k_seqT (SqT.of hx) ?_
    have hlen : xs.length = ts.length := by rw [z3.length, List.length_map]
    refine k_lcTup (fun i acc H' => acc = ((ts.take i).map (fun t => V.int (tval a b t)))) (SqT.of hx) (fun _ _ => rfl) ?_ ?_
    · rintro i x D acc H' hi hD e ha' rfl
      obtain ⟨d, hd, tx⟩ := z3.get' hi
      rw [List.getElem?_map] at hd
      obtain ⟨t, ht', rfl⟩ := Option.map_eq_some_iff.mp hd
      obtain ⟨c, zs, rfl, hc, tc⟩ := tx.inv
      have ez := tc.ints
      subst ez
      obtain ⟨n, i1, j1⟩ := t
      refine w_gTup (xs := [V.int n, V.int i1, V.int j1]) (SqT.of (e _ _ hc)) rfl ?_
      walk_at "ss"
      refine ⟨rfl, ?_⟩
      obtain ⟨hl6, hb6⟩ := hok
      have hm := hb6 _ (List.mem_of_getElem? ht')
      dsimp only at hm
      have top : a + b ≤ 1000000000000000000000000000000 := hs
      have ba : a.natAbs ≤ 2 ^ 100 := by omega
      have bb' : b.natAbs ≤ 2 ^ 100 := by omega
      walk_at "ss"
      refine ⟨a, i1, rfl, hm.2.2.1, by omega, ?_⟩
      have k1 : 100 * i1 ≤ 100 * 4 := Nat.mul_le_mul_left _ hm.2.2.1
      have k2 : 100 * j1 ≤ 100 * 4 := Nat.mul_le_mul_left _ hm.2.2.2
      have n1 : n.natAbs ≤ 2 ^ 20 := by omega
      refine w_mulI (cmul_of n1 (pow_nat ba)) ?_
      walk_at "ss"
      refine ⟨b, j1, rfl, hm.2.2.2, by omega, ?_⟩
      refine w_mulI (cmul_of (mul_nat n1 (pow_nat ba)) (pow_nat bb')) ?_
      refine lcTurn.mk hD e ha' (by rw [List.length_map, List.length_take]; omega) ?_
      rw [take_succ ht', List.map_append]
      rfl
    · rintro D acc H' hD e hacc rfl
      walk_at "ss"
      rw [hlen, List.take_length] at hacc
      refine w_sum (ns := ts.map (tval a b)) (SqL.of (by rw [List.map_map]; exact hacc)) ?_
      exact q H' e

/-! ### any values, as data -/
mutual
inductive Dv (H : Hp) : V → PyData → Prop
  | non : Dv H .non .none
  | bl (b : Bool) : Dv H (.bl b) (.bool b)
  | int (i : Int) : Dv H (.int i) (.int i)
  | str (x : Str) : Dv H (.str x) (.str x)
  | lst {a : Addr} {xs : List V} {ds : List PyData} : H a = some (.lst xs) → DvAll H xs ds → Dv H (.ref a) (.list ds)
  | tup {a : Addr} {xs : List V} {ds : List PyData} : H a = some (.tup xs) → DvAll H xs ds → Dv H (.ref a) (.tuple ds)
  | dict {a : Addr} {kvs : List (Key × V)} : H a = some (.dK kvs) → Dv H (.ref a) (.dict [])
inductive DvAll (H : Hp) : List V → List PyData → Prop
  | nil : DvAll H [] []
  | cons {v : V} {vs : List V} {d : PyData} {ds : List PyData} : Dv H v d → DvAll H vs ds → DvAll H (v :: vs) (d :: ds)
end
mutual
theorem Dv.mono {H H' : Hp} (e : Same H H') : ∀ {v : V} {d : PyData}, Dv H v d → Dv H' v d
  | _, _, .non => .non
  | _, _, .bl b => .bl b
  | _, _, .int i => .int i
  | _, _, .str x => .str x
  | _, _, .lst h k => .lst (e _ _ h) (DvAll.mono e k)
  | _, _, .tup h k => .tup (e _ _ h) (DvAll.mono e k)
  | _, _, .dict h => .dict (e _ _ h)
theorem DvAll.mono {H H' : Hp} (e : Same H H') : ∀ {vs : List V} {ds : List PyData}, DvAll H vs ds → DvAll H' vs ds
  | _, _, .nil => .nil
  | _, _, .cons h k => .cons (Dv.mono e h) (DvAll.mono e k)
end
mutual
theorem Tp.dv {H : Hp} : ∀ {v : V} {d : PyData}, Tp H v d → Dv H v d
  | _, _, .non => .non
  | _, _, .bl b => .bl b
  | _, _, .int i => .int i
  | _, _, .str x => .str x
  | _, _, .tup h k => .tup h (TpAll.dv k)
theorem TpAll.dv {H : Hp} : ∀ {vs : List V} {ds : List PyData}, TpAll H vs ds → DvAll H vs ds
  | _, _, .nil => .nil
  | _, _, .cons h k => .cons (Tp.dv h) (TpAll.dv k)
end
theorem DvAll.length {H : Hp} : ∀ {vs : List V} {ds : List PyData}, DvAll H vs ds → vs.length = ds.length
  | _, _, .nil => rfl
  | _, _, .cons _ k => by rw [List.length_cons, List.length_cons, DvAll.length k]
theorem DvAll.get {H : Hp} : ∀ {vs : List V} {ds : List PyData} {i : Nat} {d : PyData}, DvAll H vs ds → ds[i]? = some d → ∃ v, vs[i]? = some v ∧ Dv H v d
  | _, _, _, _, .nil, e => by simp at e
  | _, _, 0, _, .cons h _, e => by simp at e; subst e; exact ⟨_, rfl, h⟩
  | _, _, i + 1, _, .cons _ k, e => by
    obtain ⟨v, h1, h2⟩ := DvAll.get (i := i) k (by simpa using e)
    exact ⟨v, by simpa using h1, h2⟩
theorem DvAll.get' {H : Hp} : ∀ {vs : List V} {ds : List PyData} {i : Nat} {v : V}, DvAll H vs ds → vs[i]? = some v → ∃ d, ds[i]? = some d ∧ Dv H v d
  | _, _, _, _, .nil, e => by simp at e
  | _, _, 0, _, .cons h _, e => by simp at e; subst e; exact ⟨_, rfl, h⟩
  | _, _, i + 1, _, .cons _ k, e => by
    obtain ⟨v, h1, h2⟩ := DvAll.get' (i := i) k (by simpa using e)
    exact ⟨v, by simpa using h1, h2⟩
theorem Dv.tag {K : PySem.W.Frag} {H : Hp} {v : V} {d : PyData} (h : Dv H v d) : Tag K H v := by
  cases h with
  | non => exact .non
  | bl b => exact .bl b
  | int i => exact .int i
  | str x => exact .str x
  | lst h k => exact .lst h
  | tup h k => exact .tup h
  | dict h => exact .dK h
def tyD : PyData → String
  | .none => "NoneType"
  | .bool _ => "bool"
  | .int _ => "int"
  | .str _ => "str"
  | .list _ => "list"
  | .tuple _ => "tuple"
  | .dict _ => "dict"
theorem Dv.ty {H : Hp} {v : V} {d : PyData} (h : Dv H v d) (n : String) : isTy H n v = tyTab (tyD d) n := by
  cases h <;> simp only [isTy, tyN, tyD, *]
def inD (lo hi : Int) : PyData → Bool
  | .int n => decide (lo ≤ n) && decide (n ≤ hi)
  | _ => false
theorem Dv.inR {H : Hp} {v : V} {d : PyData} (h : Dv H v d) (lo hi : Int) : inR lo hi v = inD lo hi d := by cases h <;> rfl
theorem Dv.tupInv {H : Hp} {v : V} {ds : List PyData} (h : Dv H v (.tuple ds)) : ∃ a xs, v = .ref a ∧ H a = some (.tup xs) ∧ DvAll H xs ds := by
  cases h with
  | tup h k => exact ⟨_, _, rfl, h, k⟩
/-! ### what are rows, terms, rules -/
def rowOk (n i : Nat) : PyData → Bool
  | .tuple es => decide (es.length = n - i) && es.all (inD (-1000000) 1000000)
  | _ => false
def areRows : PyData → Bool
  | .tuple ds => decide (1 ≤ ds.length) && decide (ds.length < 40) && (List.range ds.length).all fun i => rowOk ds.length i (ds.getD i .none)
  | _ => false
def isTerm : PyData → Bool
  | .tuple [a, b, c] => inD (-1000000) 1000000 a && inD 0 4 b && inD 0 4 c
  | _ => false
def areTerms : PyData → Bool
  | .tuple ds => decide (ds.length ≤ 6) && ds.all isTerm
  | _ => false
def intD : PyData → Int
  | .int n => n
  | _ => 0
def intsD : PyData → List Int
  | .tuple es => es.map intD
  | _ => []
def rowsD : PyData → List (List Int)
  | .tuple ds => ds.map intsD
  | _ => []
def termD (d : PyData) : Int × Nat × Nat := ((intsD d).getD 0 0, ((intsD d).getD 1 0).toNat, ((intsD d).getD 2 0).toNat)
def termsD : PyData → List (Int × Nat × Nat)
  | .tuple ds => ds.map termD
  | _ => []
theorem ints_back {lo hi : Int} : ∀ {es : List PyData}, es.all (inD lo hi) = true → es = (es.map intD).map PyData.int ∧ ∀ n ∈ es.map intD, lo ≤ n ∧ n ≤ hi
  | [], _ => ⟨rfl, fun _ h => nomatch h⟩
  | e :: es, h => by
    rw [List.all_cons, Bool.and_eq_true] at h
    obtain ⟨h1, h2⟩ := h
    obtain ⟨i1, i2⟩ := ints_back h2
    cases e with
    | int n =>
      simp only [inD, Bool.and_eq_true, decide_eq_true_eq] at h1
      refine ⟨by rw [List.map_cons, List.map_cons, ← i1]; rfl, fun m hm => ?_⟩
      rw [List.map_cons, List.mem_cons] at hm
      rcases hm with rfl | hm
      · exact h1
      · exact i2 m hm
    | _ => simp [inD] at h1
theorem areRows_ok {d : PyData} (h : areRows d = true) : (R.tab (rowsD d)).body = d ∧ (R.tab (rowsD d)).ok := by
  cases d with
  | tuple ds =>
    simp only [areRows, Bool.and_eq_true, decide_eq_true_eq, List.all_eq_true, List.mem_range] at h
    obtain ⟨⟨h1, h2⟩, h3⟩ := h
    have key : ∀ (i : Nat) (d : PyData), ds[i]? = some d → d = .tuple ((intsD d).map PyData.int) ∧ (intsD d).length = ds.length - i ∧ ∀ n ∈ intsD d, -1000000 ≤ n ∧ n ≤ 1000000 := fun i d hd => by
      have hi : i < ds.length := (List.getElem?_eq_some_iff.mp hd).1
      have z := h3 i hi
      rw [List.getD_eq_getElem?_getD, hd] at z
      simp only [Option.getD_some] at z
      cases d with
      | tuple es =>
        simp only [rowOk, Bool.and_eq_true, decide_eq_true_eq] at z
        obtain ⟨e1, e2⟩ := ints_back z.2
        exact ⟨congrArg PyData.tuple e1, by simp only [intsD, List.length_map]; exact z.1, e2⟩
      | _ => simp [rowOk] at z
    refine ⟨congrArg PyData.tuple ?_, by simp only [rowsD, List.length_map]; exact h1, by simp only [rowsD, List.length_map]; exact h2, fun i r hr => ?_⟩
    · show (ds.map intsD).map (fun r => PyData.tuple (r.map PyData.int)) = ds
      rw [List.map_map]
      refine List.ext_getElem? fun i => ?_
      rw [List.getElem?_map]
      cases e : ds[i]? with
      | none => rfl
      | some d => exact congrArg some (key i d e).1.symm
    · simp only [rowsD, List.getElem?_map, List.length_map] at hr ⊢
      cases e : ds[i]? with
      | none => rw [e] at hr; cases hr
      | some d =>
        rw [e] at hr
        cases hr
        exact (key i d e).2
  | _ => simp [areRows] at h
theorem areTerms_ok {d : PyData} (h : areTerms d = true) : (R.trm (termsD d)).body = d ∧ (R.trm (termsD d)).ok := by
  cases d with
  | tuple ds =>
    simp only [areTerms, Bool.and_eq_true, decide_eq_true_eq, List.all_eq_true] at h
    obtain ⟨h1, h2⟩ := h
    have key : ∀ d ∈ ds, PyData.tuple ((tri (termD d)).map PyData.int) = d ∧ -1000000 ≤ (termD d).1 ∧ (termD d).1 ≤ 1000000 ∧ (termD d).2.1 ≤ 4 ∧ (termD d).2.2 ≤ 4 := fun d hd => by
      have z := h2 d hd
      unfold isTerm at z
      split at z
      · rename_i a b c
        simp only [Bool.and_eq_true] at z
        obtain ⟨⟨za, zb⟩, zc⟩ := z
        cases a with
        | int a =>
          cases b with
          | int b =>
            cases c with
            | int c =>
              simp only [inD, Bool.and_eq_true, decide_eq_true_eq] at za zb zc
              simp only [termD, intsD, intD, tri, List.map_cons, List.map_nil, List.getD_cons_zero, List.getD_cons_succ]
              refine ⟨?_, za.1, za.2, by omega, by omega⟩
              rw [Int.toNat_of_nonneg zb.1, Int.toNat_of_nonneg zc.1]
            | _ => simp [inD] at zc
          | _ => simp [inD] at zb
        | _ => simp [inD] at za
      · cases z
    refine ⟨congrArg PyData.tuple ?_, by simp only [termsD, List.length_map]; exact h1, fun t ht => ?_⟩
    · show (ds.map termD).map (fun t => PyData.tuple ((tri t).map PyData.int)) = ds
      rw [List.map_map]
      conv => rhs; rw [← List.map_id ds]
      exact List.map_congr_left fun d hd => (key d hd).1
    · simp only [termsD, List.mem_map] at ht
      obtain ⟨d, hd, rfl⟩ := ht
      exact (key d hd).2
  | _ => simp [areTerms] at h
def ruleOf (k d : PyData) : Option R := match k with
  | .str s => if s = "table" then (if areRows d then some (.tab (rowsD d)) else none) else if s = "terms" then (if areTerms d then some (.trm (termsD d)) else none) else none
  | _ => none
/-! ### are_rows, is_term, are_terms -/
def RetB (b : Bool) (H : Hp) (Q : VK) : Prop := ∀ H', Same H H' → Q (.bl b) H'
def sp_are_rows (Γ : Gm) : Sp := fun vs H Q _ => ∃ v d, vs = [v] ∧ Dv H v d ∧ RetB (areRows d) H Q
def sp_is_term (Γ : Gm) : Sp := fun vs H Q _ => ∃ v d, vs = [v] ∧ Dv H v d ∧ RetB (isTerm d) H Q
def sp_are_terms (Γ : Gm) : Sp := fun vs H Q _ => ∃ v d, vs = [v] ∧ Dv H v d ∧ RetB (areTerms d) H Q
theorem tupTy {d : PyData} (h : tyTab (tyD d) "tuple" = true) : ∃ ds, d = .tuple ds := by
  cases d with
  | tuple ds => exact ⟨ds, rfl⟩
  | _ => simp [tyD, tyTab] at h
theorem all_take {α : Type} {f : α → Bool} {l : List α} {i : Nat} {x : α} (h : l[i]? = some x) : (l.take (i + 1)).map f = (l.take i).map f ++ [f x] := by rw [take_succ h, List.map_append]; rfl
/-- are_rows: value, index, row, number -/
def t_are_rows (Γ : Gm) : TS := (tSeq (tIfS (tOr (tNot (tB (tCB (rIsi Γ.K) (tCons (tVar 0) (tCons (tC (.ty "tuple")) tNil))))) (tNot (tTest (tChain rLe rLt (tC (.int 1)) (tCB (rLen Γ.K) (tCons (tVar 0) tNil)) (tC (.int 40)))))) (tRet (tC (.bl false))) tNext)
  (tSeq (tFor (iEnumS Γ.K (tCons (tVar 0) tNil)) (gTup Γ.K 2 (gCons (gName 1) (gCons (gName 2) gNil))) (tSeq (tIfS (tOr (tNot (tB (tCB (rIsi Γ.K) (tCons (tVar 2) (tCons (tC (.ty "tuple")) tNil))))) (tTest (tOp (rNeU Γ.K) (tCB (rLen Γ.K) (tCons (tVar 2) tNil)) (tOp rSubI (tCB (rLen Γ.K) (tCons (tVar 0) tNil)) (tVar 1))))) (tRet (tC (.bl false))) tNext)
  (tIfS (tNot (tB (tCB (rAll Γ.K) (tCons (tLc (iSeq Γ.K (tVar 2)) (gName 3) tYes (tCal (sp_is_from Γ) E0 (tCons (tVar 3) (tCons (tOp rSubI (tC (.int 0)) (tC (.int 1000000))) (tCons (tC (.int 1000000)) tNil)))) [3]) tNil)))) (tRet (tC (.bl false))) tNext)))
  (tRet (tC (.bl true)))))
theorem rd_are_rows (Γ : Gm) (vs : List V) (H : Hp) (Q : VK) (E : XK) (h : sp_are_rows Γ vs H Q E) : t_are_rows Γ ⟨fun _ H' => Q .non H', Q, fun _ _ => False, fun _ _ => False⟩ (startN 4 vs) H := by
  obtain ⟨v, d, rfl, hd, q⟩ := h
  unfold t_are_rows
  walk_at "ss"
  refine w_isi hd.tag (by decide) ?_
  rw [hd.ty]
  walk_at "ss"
  refine w_ite (fun e => ?_) (fun e => ?_)
  · walk_at "ss"
    have : areRows d = false := by
      cases d with
      | tuple ds => exact absurd (show (!tyTab "tuple" "tuple") = true from e) (by decide)
      | _ => rfl
    rw [this] at q
    exact q H (Same.refl H)
  obtain ⟨ds, rfl⟩ := tupTy (by simpa using e)
  obtain ⟨a, xs, rfl, hx, tx⟩ := hd.tupInv
  have hl := tx.length
  walk_at "ss"
  refine w_lenT (SqT.of hx) ?_
  walk_at "ss"
  rw [hl]
  refine w_ite (fun e1 => ?_) (fun e1 => ?_)
  rotate_left
  · walk_at "ss"
    have : areRows (.tuple ds) = false := by
      simp only [decide_eq_false_iff_not] at e1
      simp only [areRows]
      rw [decide_eq_false (by omega)]
      rfl
    rw [this] at q
    exact q H (Same.refl H)
  walk_at "ss"
  simp only [decide_eq_true_eq] at e1
  refine w_ite (fun e2 => ?_) (fun e2 => ?_)
  · walk_at "ss"
    have : areRows (.tuple ds) = false := by
      simp only [Bool.not_eq_true', decide_eq_false_iff_not] at e2
      simp only [areRows]
      rw [decide_eq_true (by omega), decide_eq_false (by omega)]
      rfl
    rw [this] at q
    exact q H (Same.refl H)
  walk_at "ss"
  simp only [Bool.not_eq_false', decide_eq_true_eq] at e2
  refine k_enT (SqT.of hx) ?_
  refine k_enumT (fun i σ H' => ∃ x y z, σ = [some (.ref a), x, y, z] ∧ Same H H' ∧ ∀ j, j < i → rowOk ds.length j (ds.getD j .none) = true) ⟨none, none, none, rfl, Same.refl H, fun j hj => absurd hj (Nat.not_lt_zero _)⟩ (fun i σ H' _ ⟨_, _, _, _, e, _⟩ => SqT.of (e _ _ hx)) ?_ ?_
  · rintro i x σ H' T hi ⟨_, _, _, rfl, e, all⟩ hT
    obtain ⟨dx, hdx, tdx⟩ := tx.get' hi
    have hil : i < ds.length := (List.getElem?_eq_some_iff.mp hdx).1
    have eT := Same.new (o := .tup [.int (i : Nat), x]) hT
    refine w_gTup (xs := [.int (i : Nat), x]) (SqT.of upd_same) rfl ?_
    have tdx' := tdx.mono (e.trans eT)
    generalize upd H' T (.tup [.int (i : Nat), x]) = H1 at eT tdx' ⊢
    have e1' := e.trans eT
    have bad : rowOk ds.length i dx = false → Q (.bl false) H1 := fun z => by
      have : areRows (.tuple ds) = false := by
        simp only [areRows]
        rw [Bool.and_eq_false_iff]
        right
        rw [List.all_eq_false]
        refine ⟨i, List.mem_range.mpr hil, ?_⟩
        rw [List.getD_eq_getElem?_getD, hdx]
        simp [z]
      rw [this] at q
      exact q _ e1'
    walk_at "ss"
    refine w_isi tdx'.tag (by decide) ?_
    rw [tdx'.ty]
    walk_at "ss"
    refine w_ite (fun e => ?_) (fun e => ?_)
    · walk_at "ss"
      refine bad ?_
      cases dx with
      | tuple ds => exact absurd (show (!tyTab "tuple" "tuple") = true from e) (by decide)
      | _ => rfl
    obtain ⟨es, rfl⟩ := tupTy (by simpa using e)
    obtain ⟨c, ys, rfl, hy, ty⟩ := tdx'.tupInv
    walk_at "ss"
    refine w_lenT (SqT.of hy) ?_
    walk_at "ss"
    refine w_lenT (SqT.of (e1' _ _ hx)) ?_
    walk_at "ss"
    rw [hl, ty.length]
    refine w_ite (fun e3 => ?_) (fun e3 => ?_)
    · walk_at "ss"
      refine bad ?_
      simp only [Bool.not_eq_true', decide_eq_false_iff_not] at e3
      simp only [rowOk]
      rw [decide_eq_false (by omega)]
      rfl
    simp only [Bool.not_eq_false', decide_eq_true_eq] at e3
    walk_at "ss"
    refine k_seqT (SqT.of hy) ?_
    refine k_lcTup (fun i acc H' => acc = ((es.take i).map (inD (-1000000) 1000000)).map V.bl) (SqT.of hy) (fun _ _ => rfl) ?_ ?_
    · rintro j z D acc H2 hj hD e4 hacc rfl
      obtain ⟨dz, hdz, tdz⟩ := ty.get' hj
      walk_at "ss"
      refine ⟨rfl, ?_⟩
      walk_at "ss"
      refine ⟨z, _, _, rfl, (tdz.mono e4).tag, ?_⟩
      rw [tdz.inR]
      refine lcTurn.mk hD e4 hacc (by rw [List.length_map, List.length_map, List.length_take]; omega) ?_
      rw [all_take hdz, List.map_append]
      rfl
    · rintro D acc H2 hD e4 hacc rfl
      rw [ty.length, List.take_length] at hacc
      walk_at "ss"
      refine w_all (SqL.of hacc) ?_
      walk_at "ss"
      have ea : (es.map (inD (-1000000) 1000000)).all id = es.all (inD (-1000000) 1000000) := by rw [List.all_map]; rfl
      rw [ea]
      refine w_ite (fun e5 => ?_) (fun e5 => ?_)
      · walk_at "ss"
        have : areRows (.tuple ds) = false := by
          simp only [areRows]
          rw [Bool.and_eq_false_iff]
          right
          rw [List.all_eq_false]
          refine ⟨i, List.mem_range.mpr hil, ?_⟩
          rw [List.getD_eq_getElem?_getD, hdx]
          simp only [Option.getD_some, rowOk]
          simp only [Bool.not_eq_true'] at e5
          rw [e5, Bool.and_false]
          decide
        rw [this] at q
        exact q _ (e1'.trans e4)
      · walk_at "ss"
        refine ⟨_, _, _, rfl, e1'.trans e4, fun k hk => ?_⟩
        by_cases hki : k < i
        · exact all k hki
        · have : k = i := by omega
          subst this
          rw [List.getD_eq_getElem?_getD, hdx]
          simp only [Option.getD_some, rowOk]
          simp only [Bool.not_eq_false'] at e5
          rw [e5, decide_eq_true (by omega)]
          rfl
  · rintro σ H' ⟨_, _, _, rfl, e, all⟩
    walk_at "ss"
    have : areRows (.tuple ds) = true := by
      simp only [areRows]
      rw [decide_eq_true (by omega), decide_eq_true (by omega)]
      simp only [Bool.true_and, List.all_eq_true, List.mem_range]
      intro j hj
      exact all j (by omega)
    rw [this] at q
    exact q _ e
/-- is_term: value -/
def t_is_term (Γ : Gm) : TS := (tSeq (tIfS (tOr (tNot (tB (tCB (rIsi Γ.K) (tCons (tVar 0) (tCons (tC (.ty "tuple")) tNil))))) (tOr (tTest (tOp (rNeU Γ.K) (tCB (rLen Γ.K) (tCons (tVar 0) tNil)) (tC (.int 3)))) (tNot (tB (tCal (sp_is_from Γ) E0 (tCons (tOp (rIx Γ.K) (tVar 0) (tC (.int 0))) (tCons (tOp rSubI (tC (.int 0)) (tC (.int 1000000))) (tCons (tC (.int 1000000)) tNil)))))))) (tRet (tC (.bl false))) tNext)
  (tRet (tAndV (tCal (sp_is_from Γ) E0 (tCons (tOp (rIx Γ.K) (tVar 0) (tC (.int 1))) (tCons (tC (.int 0)) (tCons (tC (.int 4)) tNil)))) (tCal (sp_is_from Γ) E0 (tCons (tOp (rIx Γ.K) (tVar 0) (tC (.int 2))) (tCons (tC (.int 0)) (tCons (tC (.int 4)) tNil)))))))
theorem rd_is_term (Γ : Gm) (vs : List V) (H : Hp) (Q : VK) (E : XK) (h : sp_is_term Γ vs H Q E) : t_is_term Γ ⟨fun _ H' => Q .non H', Q, fun _ _ => False, fun _ _ => False⟩ (startN 1 vs) H := by
  obtain ⟨v, d, rfl, hd, q⟩ := h
  unfold t_is_term
  have bad : isTerm d = false → Q (.bl false) H := fun z => by
    rw [z] at q
    exact q H (Same.refl H)
  walk_at "ss"
  refine w_isi hd.tag (by decide) ?_
  rw [hd.ty]
  walk_at "ss"
  refine w_ite (fun e => ?_) (fun e => ?_)
  · walk_at "ss"
    refine bad ?_
    cases d with
    | tuple ds => exact absurd (show (!tyTab "tuple" "tuple") = true from e) (by decide)
    | _ => rfl
  obtain ⟨ds, rfl⟩ := tupTy (by simpa using e)
  obtain ⟨a, xs, rfl, hx, tx⟩ := hd.tupInv
  have hl := tx.length
  walk_at "ss"
  refine w_lenT (SqT.of hx) ?_
  walk_at "ss"
  rw [hl]
  refine w_ite (fun e1 => ?_) (fun e1 => ?_)
  · walk_at "ss"
    refine bad ?_
    simp only [Bool.not_eq_true', decide_eq_false_iff_not] at e1
    match ds, e1 with
    | [], _ => rfl
    | [_], _ => rfl
    | [_, _], _ => rfl
    | [_, _, _], e1 => exact absurd rfl e1
    | _ :: _ :: _ :: _ :: _, _ => rfl
  simp only [Bool.not_eq_false', decide_eq_true_eq] at e1
  match ds, e1, tx with
  | [d0, d1, d2], _, .cons (v := v0) t0 (.cons (v := v1) t1 (.cons (v := v2) t2 .nil)) =>
    walk_at "ss"
    refine w_ixT (SqT.of hx) (atI_of (by decide) rfl) ?_
    walk_at "ss"
    refine ⟨v0, _, _, rfl, t0.tag, ?_⟩
    rw [t0.inR]
    walk_at "ss"
    refine w_ite (fun e2 => ?_) (fun e2 => ?_)
    · walk_at "ss"
      refine bad ?_
      simp only [Bool.not_eq_true'] at e2
      have e2' : inD (-1000000) 1000000 d0 = false := e2
      simp only [isTerm, e2', Bool.false_and]
    walk_at "ss"
    simp only [Bool.not_eq_false'] at e2
    have e2' : inD (-1000000) 1000000 d0 = true := e2
    have q' : RetB (inD 0 4 d1 && inD 0 4 d2) H Q := by simpa only [isTerm, e2', Bool.true_and] using q
    refine w_ixT (SqT.of hx) (atI_of (by decide) rfl) ?_
    walk_at "ss"
    refine ⟨v1, _, _, rfl, t1.tag, ?_⟩
    rw [t1.inR]
    walk_at "ss"
    refine w_ite (fun e3 => ?_) (fun e3 => ?_)
    · rw [e3] at q'
      walk_at "ss"
      refine w_ixT (SqT.of hx) (atI_of (by decide) rfl) ?_
      walk_at "ss"
      refine ⟨v2, _, _, rfl, t2.tag, ?_⟩
      rw [t2.inR]
      exact q' H (Same.refl H)
    · rw [e3] at q'
      exact q' H (Same.refl H)
/-- are_terms: value, term -/
def t_are_terms (Γ : Gm) : TS := (tRet (tAndV (tCB (rIsi Γ.K) (tCons (tVar 0) (tCons (tC (.ty "tuple")) tNil))) (tAndV (tOp rLe (tCB (rLen Γ.K) (tCons (tVar 0) tNil)) (tC (.int 6))) (tCB (rAll Γ.K) (tCons (tLc (iSeq Γ.K (tVar 0)) (gName 1) tYes (tCal (sp_is_term Γ) E0 (tCons (tVar 1) tNil)) [1]) tNil)))))
theorem rd_are_terms (Γ : Gm) (vs : List V) (H : Hp) (Q : VK) (E : XK) (h : sp_are_terms Γ vs H Q E) : t_are_terms Γ ⟨fun _ H' => Q .non H', Q, fun _ _ => False, fun _ _ => False⟩ (startN 2 vs) H := by
  obtain ⟨v, d, rfl, hd, q⟩ := h
  unfold t_are_terms
  walk_at "ss"
  refine w_isi hd.tag (by decide) ?_
  rw [hd.ty]
  walk_at "ss"
  refine w_ite (fun e => ?_) (fun e => ?_)
  rotate_left
  · have : areTerms d = false := by
      cases d with
      | tuple ds => exact absurd (show tyTab "tuple" "tuple" = false from e) (by decide)
      | _ => rfl
    rw [this] at q
    exact q H (Same.refl H)
  obtain ⟨ds, rfl⟩ := tupTy e
  obtain ⟨a, xs, rfl, hx, tx⟩ := hd.tupInv
  walk_at "ss"
  refine w_lenT (SqT.of hx) ?_
  walk_at "ss"
  rw [tx.length]
  refine w_ite (fun e1 => ?_) (fun e1 => ?_)
  rotate_left
  · have : areTerms (.tuple ds) = false := by
      simp only [decide_eq_false_iff_not] at e1
      simp only [areTerms]
      rw [decide_eq_false (by omega)]
      rfl
    rw [this] at q
    exact q H (Same.refl H)
  simp only [decide_eq_true_eq] at e1
  walk_at "ss"
  refine k_seqT (SqT.of hx) ?_
  refine k_lcTup (fun i acc H' => acc = ((ds.take i).map isTerm).map V.bl) (SqT.of hx) (fun _ _ => rfl) ?_ ?_
  · rintro j z D acc H2 hj hD e4 hacc rfl
    obtain ⟨dz, hdz, tdz⟩ := tx.get' hj
    walk_at "ss"
    refine ⟨rfl, ?_⟩
    walk_at "ss"
    refine ⟨z, dz, rfl, tdz.mono e4, fun H3 e5 => ?_⟩
    refine lcTurn.mk hD (e4.trans e5) (e5 _ _ hacc) (by rw [List.length_map, List.length_map, List.length_take]; omega) ?_
    rw [all_take hdz, List.map_append]
    rfl
  · rintro D acc H2 hD e4 hacc rfl
    rw [tx.length, List.take_length] at hacc
    walk_at "ss"
    refine w_all (SqL.of hacc) ?_
    have ea : (ds.map isTerm).all id = areTerms (.tuple ds) := by
      simp only [areTerms]
      rw [List.all_map, decide_eq_true (by omega)]
      rfl
    rw [ea]
    exact q _ e4
/-! ### Rule -/
/-- behind Rule.__init__ -/
def sp_Rule_Uinit (Γ : Gm) : Sp := fun vs H Q E => ∃ p dx k dk v d, vs = [.ref p, k, v] ∧ H p = some (.ins Γ.cRule dx []) ∧ Dv H k dk ∧ Dv H v d ∧
  (ruleOf dk d = none → ∀ H', Same H H' → E (.ref Γ.cBadRule) none H') ∧
  (∀ r s b, ruleOf dk d = some r → dk = .str s → v = .ref b → r.kind = s → r.body = d → r.ok → ∀ H', (∀ b o, b ≠ p → H b = some o → H' b = some o) → H' p = some (.ins Γ.cRule dx (rfl2 s b)) → Q .non H')

theorem dv_str {H : Hp} {k : V} {s : Str} (h : Dv H k (.str s)) : k = .str s := by cases h; rfl
theorem strTy {d : PyData} (h : tyTab (tyD d) "str" = true) : ∃ s, d = .str s := by
  cases d with
  | str s => exact ⟨s, rfl⟩
  | _ => simp [tyD, tyTab] at h
theorem inV_str (s a b : Str) : inV (.str s) [.str a, .str b] = (decide (s = a) || decide (s = b)) := by
  simp only [inV, List.any_cons, List.any_nil, eqV, Bool.or_false]
  have h : ∀ x y : Str, (x == y) = decide (y = x) := fun x y => by
    by_cases e : x = y
    · subst e; simp
    · rw [decide_eq_false (fun z => e z.symm)]; simpa using e
  rw [h, h]
theorem ruleOf_kind {s : Str} {d : PyData} {r : R} (h : ruleOf (.str s) d = some r) : r.kind = s ∧ r.body = d ∧ r.ok := by
  simp only [ruleOf] at h
  split at h
  · rename_i e
    split at h
    · rename_i e2
      cases h
      obtain ⟨h1, h2⟩ := areRows_ok e2
      exact ⟨e.symm, h1, h2⟩
    · cases h
  · split at h
    · rename_i e
      split at h
      · rename_i e2
        cases h
        obtain ⟨h1, h2⟩ := areTerms_ok e2
        exact ⟨e.symm, h1, h2⟩
      · cases h
    · cases h
/-- the way out of Rule.__init__, its ends -/
structure InitK (Γ : Gm) (p dx : Addr) (dk d : PyData) (v : V) (H : Hp) (Q : VK) (E : XK) : Prop where
  bad : ruleOf dk d = none → ∀ H', Same H H' → E (.ref Γ.cBadRule) none H'
  good : ∀ r s b, ruleOf dk d = some r → dk = .str s → v = .ref b → r.kind = s → r.body = d → r.ok → ∀ H', (∀ b o, b ≠ p → H b = some o → H' b = some o) → H' p = some (.ins Γ.cRule dx (rfl2 s b)) → Q .non H'
def sp_RuleU_initU (Γ : Gm) : Sp := fun vs H Q E => ∃ p dx k dk v d, vs = [.ref p, k, v] ∧ H p = some (.ins Γ.cRule dx []) ∧ Dv H k dk ∧ Dv H v d ∧ InitK Γ p dx dk d v H Q E
/-- Rule __init__: self, kind, parts -/
def t_RuleU_initU (Γ : Gm) (E : XK) : TS := (tSeq (tIfS (tOr (tNot (tB (tCB (rIsi Γ.K) (tCons (tVar 1) (tCons (tC (.ty "str")) tNil))))) (tTest (tOp (rNotInU Γ.K) (tVar 1) (tTup (tCons (tC (.str "table")) (tCons (tC (.str "terms")) tNil)))))) (tRaise Γ.cBadRule (fun cls d _ H => E cls d H)) tNext)
  (tSeq (tIfS (tNot (tIfT (tTest (tOp (rEqU Γ.K) (tVar 1) (tC (.str "table")))) (tB (tCal (sp_are_rows Γ) E0 (tCons (tVar 2) tNil))) (tB (tCal (sp_are_terms Γ) E0 (tCons (tVar 2) tNil))))) (tRaise Γ.cBadRule (fun cls d _ H => E cls d H)) tNext)
  (tSeq (sFld Γ.K (tVar 0) (tVar 1) "form")
  (sFld Γ.K (tVar 0) (tVar 2) "body"))))
theorem rd_RuleU_initU (Γ : Gm) (F : RuleF Γ) (vs : List V) (H : Hp) (Q : VK) (E : XK) (h : sp_RuleU_initU Γ vs H Q E) : t_RuleU_initU Γ E ⟨fun _ H' => Q .non H', Q, fun _ _ => False, fun _ _ => False⟩ (startN 3 vs) H := by
  obtain ⟨p, dx, k, dk, v, d, rfl, hp, hk, hd, q⟩ := h
  unfold t_RuleU_initU
  walk_at "ss"
  refine w_isi hk.tag (by decide) ?_
  rw [hk.ty]
  walk_at "ss"
  refine w_ite (fun e => ?_) (fun e => ?_)
  · walk_at "ss"
    refine q.bad ?_ H (Same.refl H)
    cases dk with
    | str s => exact absurd (show (!tyTab "str" "str") = true from e) (by decide)
    | _ => rfl
  obtain ⟨s, rfl⟩ := strTy (by simpa using e)
  have ek := dv_str hk
  subst ek
  walk_at "ss"
  refine n_tup fun t H1 ht e1 h1 => ?_
  refine w_in2 (w_inT (SqT.of h1) rfl rfl ?_)
  walk_at "ss"
  rw [if_pos rfl, inV_str]
  refine w_ite (fun e2 => ?_) (fun e2 => ?_)
  · walk_at "ss"
    refine q.bad ?_ H1 e1
    simp only [Bool.not_eq_true', Bool.or_eq_false_iff, decide_eq_false_iff_not] at e2
    simp only [ruleOf]
    rw [if_neg e2.1, if_neg e2.2]
  have hd1 := hd.mono e1
  have hp1 := e1 _ _ hp
  -- the two stores
  have fin : ∀ r, ruleOf (.str s) d = some r → ∀ H2, Same H H2 → (tSeq (sFld Γ.K (tVar 0) (tVar 1) "form") (sFld Γ.K (tVar 0) (tVar 2) "body")) ⟨fun _ H' => Q .non H', Q, fun _ _ => False, fun _ _ => False⟩ (startN 3 [.ref p, .str s, v]) H2 := fun r hr H2 e2 => by
    obtain ⟨z1, z2, z3⟩ := ruleOf_kind hr
    walk_at "ss"
    refine k_sfld (e2 _ _ hp) F.cl F.nF (by decide) ?_
    walk_at "ss"
    refine k_sfld upd_same F.cl F.nB (show 1 < 1000 from by decide) ?_
    walk_at "ss"
    obtain ⟨b, eb⟩ : ∃ b, v = .ref b := by
      subst z2
      cases r <;> (cases hd with | tup h k => exact ⟨_, rfl⟩)
    subst eb
    refine q.good r s b hr rfl rfl z1 z2 z3 _ (fun c o hc ho => ?_) upd_same
    rw [upd_ne hc, upd_ne hc]
    exact e2 _ _ ho
  walk_at "ss"
  refine w_ite (fun e3 => ?_) (fun e3 => ?_)
  · have es : s = "table" := of_decide_eq_true e3
    walk_at "ss"
    refine ⟨v, d, rfl, hd1, fun H2 e4 => ?_⟩
    walk_at "ss"
    have er : ruleOf (.str s) d = if areRows d then some (.tab (rowsD d)) else none := by
      simp only [ruleOf]
      rw [if_pos es]
    refine w_ite (fun e5 => ?_) (fun e5 => ?_)
    · walk_at "ss"
      refine q.bad ?_ H2 (e1.trans e4)
      rw [er, if_neg (by simpa using e5)]
    · exact fin _ (by rw [er, if_pos (by simpa using e5)]) H2 (e1.trans e4)
  · have es : ¬ s = "table" := of_decide_eq_false e3
    have es2 : s = "terms" := by
      simp only [Bool.not_eq_false', Bool.or_eq_true, decide_eq_true_eq] at e2
      exact e2.resolve_left es
    walk_at "ss"
    refine ⟨v, d, rfl, hd1, fun H2 e4 => ?_⟩
    walk_at "ss"
    have er : ruleOf (.str s) d = if areTerms d then some (.trm (termsD d)) else none := by
      simp only [ruleOf]
      rw [if_neg es, if_pos es2]
    refine w_ite (fun e5 => ?_) (fun e5 => ?_)
    · walk_at "ss"
      refine q.bad ?_ H2 (e1.trans e4)
      rw [er, if_neg (by simpa using e5)]
    · exact fin _ (by rw [er, if_pos (by simpa using e5)]) H2 (e1.trans e4)
/-! ### check_heap -/
/-- is a value a heap up to a bound -/
def heapOk (r : R) (most : Int) (d : PyData) : Bool := inD 1 (if r.top < most then r.top else most) d
def sp_check_heap (Γ : Gm) : Sp := fun vs H Q E => ∃ v r x d most, vs = [v, x, .int most] ∧ RuleAt Γ H v r ∧ Dv H x d ∧ (heapOk r most d = false → E (.ref Γ.cBadHeap) none H) ∧ (heapOk r most d = true → Q .non H)
/-- check_heap: rule, heap, most -/
def t_check_heap (Γ : Gm) (E : XK) : TS := (tIfS (tNot (tB (tCal (sp_is_from Γ) E0 (tCons (tVar 1) (tCons (tC (.int 1)) (tCons (tCB rMin2 (tCons (tVar 2) (tCons (tCal (sp_most_of Γ) E0 (tCons (tVar 0) tNil)) tNil))) tNil)))))) (tRaise Γ.cBadHeap (fun cls d _ H => E cls d H)) tNext)
theorem rd_check_heap (Γ : Gm) (vs : List V) (H : Hp) (Q : VK) (E : XK) (h : sp_check_heap Γ vs H Q E) : t_check_heap Γ E ⟨fun _ H' => Q .non H', Q, fun _ _ => False, fun _ _ => False⟩ (startN 3 vs) H := by
  obtain ⟨v, r, x, d, most, rfl, hr, hd, k1, k2⟩ := h
  unfold t_check_heap
  walk_at "ss"
  refine ⟨v, r, rfl, hr, ?_⟩
  walk_at "ss"
  refine ⟨x, 1, _, rfl, hd.tag, ?_⟩
  rw [hd.inR]
  walk_at "ss"
  refine w_ite (fun e => ?_) (fun e => ?_)
  · walk_at "ss"
    exact k1 (by simpa [heapOk] using e)
  · walk_at "ss"
    exact k2 (by simpa [heapOk] using e)
/-! ### drawing -/
/-- the script -/
def sp__law_random (Γ : Gm) : Sp := fun vs H Q _ => ∃ (a : Addr) (ns : List Int) (s : Int), vs = [.ref a, .int s] ∧ SqL Γ.K H a (ns.map V.int) ∧ ns.length ≤ 63 ∧ 0 ≤ s ∧ s < 2147483647 ∧ ∀ d H', H d = none → Same H H' → H' d = some (dO d) → Q (.ref d) H'
/-- law_random: _law_script, _law_salt, _law_seed, _law_cell -/
def t__law_random (Γ : Gm) : TS := tShut DS (tSeq (tAsg (tVar 1) (gName 2))
  (tSeq (tFor (iSeq Γ.K (tVar 0)) (gName 3) (tAsg (tOp rModI (tCB rInt1 (tCons (tOp (rAddU Γ.K) (tOp (rMulU Γ.K) (tVar 2) (tC (.int 31))) (tCB rAbs (tCons (tVar 3) tNil))) tNil)) (tC (.int 2147483647))) (gName 2)))
  (tRet (tOp (rAddU Γ.K) (tLst (tCons (tVar 2) (tCons (tC (.int 0)) tNil))) (tLc (iSeq Γ.K (tVar 0)) (gName 3) (tTest (tOp rGe (tVar 3) (tOp rPowI (tC (.int 10)) (tC (.int 18))))) (tVar 3) [3])))))
theorem rd__law_random (Γ : Gm) (vs : List V) (H : Hp) (Q : VK) (E : XK) (h : sp__law_random Γ vs H Q E) : t__law_random Γ ⟨fun _ H' => Q .non H', Q, fun _ _ => False, fun _ _ => False⟩ (startN 4 vs) H := by
  obtain ⟨a, ns, s, rfl, hS, hl, hs, hs2, k⟩ := h
  unfold t__law_random
  unfold tShut
  walk_at "ss"
  refine k_seqL hS ?_
  refine k_list (xs := ns.map V.int) (fun i σ H' => ∃ s' v, σ = [some (.ref a), some (.int s), some (.int s'), v] ∧ H' = H ∧ 0 ≤ s' ∧ s' < 2147483647) ⟨s, none, rfl, rfl, hs, hs2⟩ (fun i σ H' _ ⟨_, _, _, e, _⟩ => by rw [e]; exact hS) ?_ ?_
  · rintro i x σ H' hi ⟨s', v, rfl, rfl, h1, h2⟩
    rw [List.getElem?_map] at hi
    obtain ⟨n, hn, rfl⟩ := Option.map_eq_some_iff.mp hi
    walk_at "ss"
    exact ⟨_, _, rfl, rfl, Int.emod_nonneg _ (by decide), Int.emod_lt_of_pos _ (by decide)⟩
  · rintro σ H' ⟨s', v, rfl, rfl, h1, h2⟩
    walk_at "ss"
    refine n_lst fun l1 H1 hl1 e1 h1' => ?_
    walk_at "ss"
    refine k_seqL (e1.seq hS) ?_
    refine k_lcListT (fun i acc H' => ∃ ms : List Int, acc = ms.map V.int ∧ ms.length ≤ i) (e1.seq hS) (fun _ _ => ⟨[], rfl, Nat.le_refl _⟩) ?_ ?_
    · rintro i x D acc H2 hi hD e2 hacc ⟨ms, rfl, hms⟩
      have hil : i < ns.length := by
        have := (List.getElem?_eq_some_iff.mp hi).1
        simpa using this
      rw [List.getElem?_map] at hi
      obtain ⟨n, hn, rfl⟩ := Option.map_eq_some_iff.mp hi
      walk_at "ss"
      refine ⟨rfl, ?_⟩
      walk_at "ss"
      refine w_powI ⟨by decide, by decide, by decide⟩ ?_
      walk_at "ss"
      refine w_ite (fun e => ?_) (fun e => ?_)
      · walk_at "ss"
        refine lcTurn.mk hD e2 hacc (by rw [List.length_map]; omega) ⟨ms ++ [n], by rw [List.map_append]; rfl, by rw [List.length_append]; exact Nat.succ_le_succ hms⟩
      · exact ⟨_, hD, e2, hacc, ms, rfl, Nat.le_succ_of_le hms⟩
    · rintro D acc H2 hD e2 hacc ⟨ms, rfl, hms⟩
      rw [List.length_map] at hms
      refine w_addL (e2 _ _ h1') hacc (by simp only [List.length_cons, List.length_nil, List.length_map]; exact Nat.le_trans (m := 100) (by omega) (by decide)) fun p H3 hp e3 h3 => ?_
      refine ⟨p, s' :: 0 :: ms, rfl, h3, ⟨s', 0, ms, rfl, h1, h2, by omega⟩, ?_⟩
      have e4 := (e1.trans e2).trans e3
      exact k p _ (((e1.trans e2)).free hp) (Same.mut e4 ((e1.trans e2).free hp)) upd_same
/-- one of a list's items -/
def sp__law_pick (Γ : Gm) : Sp := fun vs H Q _ => ∃ (d l : Addr) (xs : List V), vs = [.ref d, .ref l] ∧ H d = some (dO d) ∧ SqL Γ.K H l xs ∧ 0 < xs.length ∧ xs.length ≤ 100000 ∧ ∀ (i : Nat) x, xs[i]? = some x → Q x H
/-- law_pick: _law_d, _law_items -/
def t__law_pick (Γ : Gm) : TS := (tRet (tOp (rIx Γ.K) (tVar 1) (tCal (sp__law_below Γ) E0 (tCons (tVar 0) (tCons (tCB (rLen Γ.K) (tCons (tVar 1) tNil)) tNil)))))
theorem rd__law_pick (Γ : Gm) (vs : List V) (H : Hp) (Q : VK) (E : XK) (h : sp__law_pick Γ vs H Q E) : t__law_pick Γ ⟨fun _ H' => Q .non H', Q, fun _ _ => False, fun _ _ => False⟩ (startN 2 vs) H := by
  obtain ⟨d, l, xs, rfl, hd, hl, h0, hm, k⟩ := h
  unfold t__law_pick
  walk_at "ss"
  refine w_lenL hl ?_
  walk_at "ss"
  refine ⟨d, _, rfl, hd, by omega, by omega, fun r h1 h2 => ?_⟩
  have hi : r.toNat < xs.length := by omega
  refine w_ixL hl (atI_of h1 (List.getElem?_eq_getElem hi)) ?_
  exact k _ _ (List.getElem?_eq_getElem hi)

theorem w_below {Γ : Gm} {d : Addr} {n : Int} {H : Hp} {Q : VK} {E : XK} (hd : H d = some (dO d)) (h0 : 0 < n) (h1 : n < 2 ^ 200) (k : ∀ r : Int, 0 ≤ r → r < n → Q (.int r) H) : sp__law_below Γ [.ref d, .int n] H Q E := ⟨d, n, rfl, hd, h0, h1, k⟩
theorem w_pick {Γ : Gm} {d l : Addr} {xs : List V} {H : Hp} {Q : VK} {E : XK} (hd : H d = some (dO d)) (hl : SqL Γ.K H l xs) (k : ∀ (i : Nat) x, xs[i]? = some x → Q x H) (h0 : 0 < xs.length ∧ xs.length ≤ 100000 := by simp only [List.length_cons, List.length_nil]; decide) : sp__law_pick Γ [.ref d, .ref l] H Q E := ⟨d, l, xs, rfl, hd, hl, h0.1, h0.2, k⟩
theorem w_pickI {Γ : Gm} {d l : Addr} {ns : List Int} {H : Hp} {Q : VK} {E : XK} (hd : H d = some (dO d)) (hl : H l = some (.lst (ns.map V.int))) (k : ∀ m ∈ ns, Q (.int m) H) (h0 : 0 < ns.length ∧ ns.length ≤ 100000 := by simp only [List.length_cons, List.length_nil]; decide) : sp__law_pick Γ [.ref d, .ref l] H Q E :=
  ⟨d, l, _, rfl, hd, SqL.of hl, by simpa using h0.1, by simpa using h0.2, fun i x hx => by
    rw [List.getElem?_map] at hx
    obtain ⟨m, hm, rfl⟩ := Option.map_eq_some_iff.mp hx
    exact k m (List.mem_of_getElem? hm)⟩
/-! ### terms -/
def okT (t : Int × Nat × Nat) : Prop := -1000000 ≤ t.1 ∧ t.1 ≤ 1000000 ∧ t.2.1 ≤ 4 ∧ t.2.2 ≤ 4
def tt (t : Int × Nat × Nat) : PyData := .tuple ((tri t).map PyData.int)
def TL (H : Hp) (v : V) (ts : List (Int × Nat × Nat)) (n : Nat) : Prop := Tp H v (.tuple (ts.map tt)) ∧ (∀ t ∈ ts, okT t) ∧ ts.length ≤ n
theorem TL.mono {H H' : Hp} {v : V} {ts : List (Int × Nat × Nat)} {n : Nat} (e : Same H H') (h : TL H v ts n) : TL H' v ts n := ⟨h.1.mono (Same.tups e), h.2⟩
theorem TL.weak {H : Hp} {v : V} {ts : List (Int × Nat × Nat)} {n m : Nat} (h : TL H v ts n) (e : n ≤ m) : TL H v ts m := ⟨h.1, h.2.1, Nat.le_trans h.2.2 e⟩
theorem tp_t {H : Hp} {p : Addr} {n : Int} {i j : Int} (hi : 0 ≤ i) (hj : 0 ≤ j) (h : H p = some (.tup [.int n, .int i, .int j])) : Tp H (.ref p) (tt (n, i.toNat, j.toNat)) := by
  refine .tup h ?_
  show TpAll H _ [PyData.int n, PyData.int (i.toNat : Int), PyData.int (j.toNat : Int)]
  rw [Int.toNat_of_nonneg hi, Int.toNat_of_nonneg hj]
  exact .cons (.int n) (.cons (.int i) (.cons (.int j) .nil))
theorem TL.nil {H : Hp} {p : Addr} {n : Nat} (h : H p = some (.tup [])) : TL H (.ref p) [] n := ⟨.tup h .nil, (fun _ z => nomatch z), Nat.zero_le _⟩
theorem TL.mk {H : Hp} {p : Addr} {vs : List V} {ts : List (Int × Nat × Nat)} {n : Nat} (h : H p = some (.tup vs)) (k : TpAll H vs (ts.map tt)) (ok : ∀ t ∈ ts, okT t) (hl : ts.length ≤ n) : TL H (.ref p) ts n := ⟨.tup h k, ok, hl⟩
theorem w_addT {K : PySem.W.Frag} {H : Hp} {Q : VK} {v w : V} {ds es : List PyData} (hv : Tp H v (.tuple ds)) (hw : Tp H w (.tuple es)) (hz : ds.length + es.length ≤ 100000) (h : ∀ u H', Same H H' → Tp H' u (.tuple (ds ++ es)) → Q u H') : rAddU K v w H Q := by
  obtain ⟨a, xs, rfl, ha, ta⟩ := hv.inv
  obtain ⟨b, ys, rfl, hb, tb⟩ := hw.inv
  refine .inr (.inr (.inl ⟨a, b, xs, ys, rfl, rfl, SqT.of ha, SqT.of hb, ?_, ?_⟩))
  · rw [ta.length, tb.length]
    exact Nat.le_trans hz (by decide)
  · cases xs with
    | nil =>
      have ed : ds = [] := by cases ta; rfl
      subst ed
      refine ⟨fun _ => h _ H (Same.refl H) hw, fun z => absurd rfl z, fun z => absurd rfl z⟩
    | cons x xs =>
      refine ⟨(fun z => nomatch z), fun _ z => ?_, fun _ z p hp => ?_⟩
      · have ee : es = [] := by subst z; cases tb; rfl
        subst ee
        rw [List.append_nil] at h
        exact h _ H (Same.refl H) hv
      · have e := Same.new (o := .tup (x :: xs ++ ys)) hp
        exact h _ _ e (.tup upd_same ((ta.mono (Same.tups e)).append (tb.mono (Same.tups e))))
def sp__law_terms (Γ : Gm) : Sp := fun vs H Q _ => ∃ (d : Addr), vs = [.ref d] ∧ H d = some (dO d) ∧ ∀ v ts H', Same H H' → Tp H' v (R.trm ts).body → (R.trm ts).ok → Q v H'
theorem w_sl6 {K : PySem.W.Frag} {H : Hp} {Q : VK} {v : V} {ds : List PyData} (hv : Tp H v (.tuple ds)) (h : ∀ u H', Same H H' → Tp H' u (.tuple (ds.take 6)) → Q u H') : rSlU K v none (some 6) H Q := by
  obtain ⟨a, xs, rfl, ha, ta⟩ := hv.inv
  refine .inr (.inl ⟨a, xs, rfl, SqT.of ha, ?_, ?_⟩)
  · rintro ⟨_, z⟩
    have hl : xs.length ≤ 6 := by
      unfold HT.sIx at z
      simp only at z
      rw [if_neg (by decide)] at z
      have : (6 : Int).toNat = 6 := rfl
      omega
    rw [ta.length] at hl
    have := h (.ref a) H (Same.refl H)
    rw [List.take_of_length_le hl] at this
    exact this hv
  · intro z p hp
    have e := Same.new (o := .tup (cutV xs none (some 6))) hp
    have ec : cutV xs none (some 6) = xs.take 6 := by
      unfold cutV HT.sIx
      simp
    rw [ec] at e ⊢
    refine h _ _ e (.tup upd_same ?_)
    have tk : ∀ (n : Nat) {vs : List V} {ds : List PyData}, TpAll H vs ds → TpAll H (vs.take n) (ds.take n) := by
      intro n
      induction n with
      | zero => intro vs ds _; exact .nil
      | succ n ih =>
        intro vs ds t
        cases t with
        | nil => exact .nil
        | cons h k => exact .cons h (ih k)
    exact (tk 6 ta).mono (Same.tups e)
theorem app_tt {ts us : List (Int × Nat × Nat)} : (ts ++ us).map tt = ts.map tt ++ us.map tt := List.map_append
/-- law_terms: _law_d, _law_number, _law_kind, _law_found -/
def t__law_terms (Γ : Gm) : TS := (tSeq (tPar 1 2 (tCons (tCal (sp__law_pick Γ) E0 (tCons (tVar 0) (tCons (tLst (tCons (tC (.int 1)) (tCons (tUn (rU fun i => .int (-i)) (tC (.int 1))) (tCons (tC (.int 2)) (tCons (tC (.int 7)) (tCons (tC (.int 999)) tNil)))))) tNil))) (tCons (tCal (sp__law_below Γ) E0 (tCons (tVar 0) (tCons (tC (.int 7)) tNil))) tNil)))
  (tSeq (tAsg (tOp (rIx Γ.K) (tLst (tCons (tTup tNil) (tCons (tTup (tCons (tTup (tCons (tVar 1) (tCons (tC (.int 0)) (tCons (tC (.int 0)) tNil)))) tNil)) (tCons (tTup (tCons (tTup (tCons (tVar 1) (tCons (tC (.int 1)) (tCons (tC (.int 1)) tNil)))) tNil)) (tCons (tTup (tCons (tTup (tCons (tOp (rMulU Γ.K) (tC (.int 3)) (tVar 1)) (tCons (tC (.int 2)) (tCons (tC (.int 1)) tNil)))) (tCons (tTup (tCons (tOp (rMulU Γ.K) (tC (.int 3)) (tVar 1)) (tCons (tC (.int 1)) (tCons (tC (.int 2)) tNil)))) tNil))) tNil))))) (tCB rMin2 (tCons (tVar 2) (tCons (tC (.int 3)) tNil)))) (gName 3))
  (tCut (tIfS (tTest (tOp (rEqU Γ.K) (tVar 2) (tC (.int 4)))) (tAsg (tTup (tCons (tTup (tCons (tOp (rMulU Γ.K) (tC (.int 4)) (tVar 1)) (tCons (tC (.int 3)) (tCons (tC (.int 1)) tNil)))) (tCons (tTup (tCons (tOp (rMulU Γ.K) (tC (.int 6)) (tVar 1)) (tCons (tC (.int 2)) (tCons (tC (.int 2)) tNil)))) (tCons (tTup (tCons (tOp (rMulU Γ.K) (tC (.int 4)) (tVar 1)) (tCons (tC (.int 1)) (tCons (tC (.int 3)) tNil)))) tNil)))) (gName 3)) tNext)
  (tCut (tIfS (tTest (tOp (rEqU Γ.K) (tVar 2) (tC (.int 5)))) (tAsg (tTup (tCons (tTup (tCons (tOp (rMulU Γ.K) (tC (.int 5)) (tVar 1)) (tCons (tC (.int 4)) (tCons (tC (.int 1)) tNil)))) (tCons (tTup (tCons (tOp (rMulU Γ.K) (tC (.int 10)) (tVar 1)) (tCons (tC (.int 3)) (tCons (tC (.int 2)) tNil)))) (tCons (tTup (tCons (tOp (rMulU Γ.K) (tC (.int 10)) (tVar 1)) (tCons (tC (.int 2)) (tCons (tC (.int 3)) tNil)))) (tCons (tTup (tCons (tOp (rMulU Γ.K) (tC (.int 5)) (tVar 1)) (tCons (tC (.int 1)) (tCons (tC (.int 4)) tNil)))) tNil))))) (gName 3)) tNext)
  (tCut (tIfS (tOr (tTest (tOp (rEqU Γ.K) (tCal (sp__law_below Γ) E0 (tCons (tVar 0) (tCons (tC (.int 3)) tNil))) (tC (.int 0)))) (tTest (tOp (rEqU Γ.K) (tVar 2) (tC (.int 6))))) (tAsg (tOp (rAddU Γ.K) (tVar 3) (tTup (tCons (tTup (tCons (tOp rSubI (tCal (sp__law_below Γ) E0 (tCons (tVar 0) (tCons (tC (.int 5)) tNil))) (tC (.int 2))) (tCons (tCal (sp__law_below Γ) E0 (tCons (tVar 0) (tCons (tC (.int 5)) tNil))) (tCons (tCal (sp__law_below Γ) E0 (tCons (tVar 0) (tCons (tC (.int 5)) tNil))) tNil)))) tNil))) (gName 3)) tNext)
  (tCut (tIfS (tTest (tOp (rEqU Γ.K) (tCal (sp__law_below Γ) E0 (tCons (tVar 0) (tCons (tC (.int 6)) tNil))) (tC (.int 0)))) (tAsg (tOp (rAddU Γ.K) (tCal (sp__law_pick Γ) E0 (tCons (tVar 0) (tCons (tLst (tCons (tVar 3) (tCons (tTup tNil) tNil))) tNil))) (tTup (tCons (tTup (tCons (tOp (rMulU Γ.K) (tC (.int 15)) (tVar 1)) (tCons (tC (.int 2)) (tCons (tC (.int 2)) tNil)))) (tCons (tTup (tCons (tOp (rMulU Γ.K) (tUn (rU fun i => .int (-i)) (tC (.int 2))) (tVar 1)) (tCons (tC (.int 3)) (tCons (tC (.int 3)) tNil)))) tNil)))) (gName 3)) tNext)
  (tRet (tSl (rSlU Γ.K) (tVar 3) tNoPart (tPart (tC (.int 6)))))))))))
theorem rd__law_terms (Γ : Gm) (vs : List V) (H : Hp) (Q : VK) (E : XK) (h : sp__law_terms Γ vs H Q E) : t__law_terms Γ ⟨fun _ H' => Q .non H', Q, fun _ _ => False, fun _ _ => False⟩ (startN 4 vs) H := by
  obtain ⟨d, rfl, hd, q⟩ := h
  unfold t__law_terms
  walk_at "ss"
  refine n_lst fun l1 H1 _ e1 h1 => ?_
  walk_at "ss"
  have hd1 := e1 _ _ hd
  refine w_pickI (ns := [1, -1, 2, 7, 999]) hd1 h1 fun num hnum => ?_
  have hb : -999 ≤ num ∧ num ≤ 999 := by
    simp only [List.mem_cons, List.not_mem_nil, or_false] at hnum
    rcases hnum with rfl | rfl | rfl | rfl | rfl <;> decide
  clear hnum
  walk_at "ss"
  refine w_below hd1 (by decide) (by decide) fun kind hk1 hk2 => ?_
  walk_at "ss"
  refine n_tup fun p0 H2 _ e2 g0 => ?_
  walk_at "ss"
  refine n_tup fun p1 H3 _ e3 g1 => ?_
  walk_at "ss"
  refine n_tup fun p2 H4 _ e4 g2 => ?_
  walk_at "ss"
  refine n_tup fun p3 H5 _ e5 g3 => ?_
  walk_at "ss"
  refine n_tup fun p4 H6 _ e6 g4 => ?_
  walk_at "ss"
  refine n_tup fun p5 H7 _ e7 g5 => ?_
  walk_at "ss"
  refine n_tup fun p6 H8 _ e8 g6 => ?_
  walk_at "ss"
  refine n_tup fun p7 H9 _ e9 g7 => ?_
  walk_at "ss"
  refine n_lst fun l2 HA _ eA gL => ?_
  walk_at "ss"
  have hmin : ∃ j : Nat, j < 4 ∧ (if (3 : Int) < kind then (3 : Int) else kind) = (j : Int) := by
    by_cases c : (3 : Int) < kind
    · exact ⟨3, by decide, by rw [if_pos c]; rfl⟩
    · exact ⟨kind.toNat, by omega, by rw [if_neg c]; omega⟩
  obtain ⟨j, hj, ej⟩ := hmin
  rw [ej]
  have E9 := e8.trans e9
  have tl : ∀ v, [V.ref p0, .ref p2, .ref p4, .ref p7][j]? = some v → ∃ ts, TL HA v ts 4 := fun v hv => by
    match j, hj with
    | 0, _ =>
      cases hv
      exact ⟨[], (TL.nil g0).mono (e3.trans (e4.trans (e5.trans (e6.trans (e7.trans (e8.trans (e9.trans eA))))))) ⟩
    | 1, _ =>
      cases hv
      exact ⟨[(num, 0, 0)], (TL.mk (ts := [(num, 0, 0)]) g2 (.cons (tp_t (i := 0) (j := 0) (by decide) (by decide) (e4 _ _ g1)) .nil) (by intro t ht; cases ht with | head => (unfold okT; dsimp only; omega) | tail _ z => cases z) (by simp)).mono (e5.trans (e6.trans (e7.trans (e8.trans (e9.trans eA)))))⟩
    | 2, _ =>
      cases hv
      exact ⟨[(num, 1, 1)], (TL.mk (ts := [(num, 1, 1)]) g4 (.cons (tp_t (i := 1) (j := 1) (by decide) (by decide) (e6 _ _ g3)) .nil) (by intro t ht; cases ht with | head => (unfold okT; dsimp only; omega) | tail _ z => cases z) (by simp)).mono (e7.trans (e8.trans (e9.trans eA)))⟩
    | 3, _ =>
      cases hv
      exact ⟨[(3 * num, 2, 1), (3 * num, 1, 2)], (TL.mk (ts := [(3 * num, 2, 1), (3 * num, 1, 2)]) g7 (.cons (tp_t (i := 2) (j := 1) (by decide) (by decide) (E9 _ _ g5)) (.cons (tp_t (i := 1) (j := 2) (by decide) (by decide) (e9 _ _ g6)) .nil)) (by intro t ht; simp only [List.mem_cons, List.not_mem_nil, or_false] at ht; rcases ht with rfl | rfl <;> (unfold okT; dsimp only; omega)) (by simp)).mono eA⟩
  have hlt : j < [V.ref p0, .ref p2, .ref p4, .ref p7].length := hj
  obtain ⟨v0, hv0⟩ : ∃ v, [V.ref p0, .ref p2, .ref p4, .ref p7][j]? = some v := ⟨_, List.getElem?_eq_getElem hlt⟩
  obtain ⟨ts0, T0⟩ := tl v0 hv0
  refine w_ixL (SqL.of gL) (atI_of (i := (j : Int)) (by omega) (by simpa using hv0)) ?_
  have SA : Same H HA := e1.trans (e2.trans (e3.trans (e4.trans (e5.trans (e6.trans (e7.trans (e8.trans (e9.trans eA))))))))
  clear hv0 hlt tl ej hj gL eA E9 e9 g7 e8 g6 e7 g5 e6 g4 e5 g3 e4 g2 e3 g1 e2 g0 hd1 h1 e1
  walk_at "ss"
  -- if kind == 4
  refine w_cut (fun σ' H' => ∃ v ts, σ' = [some (.ref d), some (.int num), some (.int kind), some v] ∧ Same H H' ∧ TL H' v ts 4) ?_ ?_
  · walk_at "ss"
    refine w_ite (fun c => ?_) (fun c => ?_)
    · walk_at "ss"
      refine n_tup fun p1 H1 _ e1 g1 => ?_
      walk_at "ss"
      refine n_tup fun p2 H2 _ e2 g2 => ?_
      walk_at "ss"
      refine n_tup fun p3 H3 _ e3 g3 => ?_
      walk_at "ss"
      refine n_tup fun p4 H4 _ e4 g4 => ?_
      walk_at "ss"
      exact ⟨_, [(4 * num, 3, 1), (6 * num, 2, 2), (4 * num, 1, 3)], rfl, SA.trans (e1.trans (e2.trans (e3.trans e4))), TL.mk g4 (.cons (tp_t (i := 3) (j := 1) (by decide) (by decide) ((e2.trans (e3.trans e4)) _ _ g1)) (.cons (tp_t (i := 2) (j := 2) (by decide) (by decide) ((e3.trans e4) _ _ g2)) (.cons (tp_t (i := 1) (j := 3) (by decide) (by decide) (e4 _ _ g3)) .nil)))
        (by intro t ht; simp only [List.mem_cons, List.not_mem_nil, or_false] at ht; rcases ht with rfl | rfl | rfl <;> (unfold okT; dsimp only; omega)) (by simp)⟩
    · walk_at "ss"
      exact ⟨_, _, rfl, SA, T0⟩
  clear T0 SA
  rintro σ H1 ⟨v1, ts1, rfl, S1, T1⟩
  -- if kind == 5
  refine w_cut (fun σ' H' => ∃ v ts, σ' = [some (.ref d), some (.int num), some (.int kind), some v] ∧ Same H H' ∧ TL H' v ts 4) ?_ ?_
  · walk_at "ss"
    refine w_ite (fun c => ?_) (fun c => ?_)
    · walk_at "ss"
      refine n_tup fun p1 H1 _ e1 g1 => ?_
      walk_at "ss"
      refine n_tup fun p2 H2 _ e2 g2 => ?_
      walk_at "ss"
      refine n_tup fun p3 H3 _ e3 g3 => ?_
      walk_at "ss"
      refine n_tup fun p4 H4 _ e4 g4 => ?_
      walk_at "ss"
      refine n_tup fun p5 H5 _ e5 g5 => ?_
      walk_at "ss"
      exact ⟨_, [(5 * num, 4, 1), (10 * num, 3, 2), (10 * num, 2, 3), (5 * num, 1, 4)], rfl, S1.trans (e1.trans (e2.trans (e3.trans (e4.trans e5)))), TL.mk g5 (.cons (tp_t (i := 4) (j := 1) (by decide) (by decide) ((e2.trans (e3.trans (e4.trans e5))) _ _ g1)) (.cons (tp_t (i := 3) (j := 2) (by decide) (by decide) ((e3.trans (e4.trans e5)) _ _ g2)) (.cons (tp_t (i := 2) (j := 3) (by decide) (by decide) ((e4.trans e5) _ _ g3)) (.cons (tp_t (i := 1) (j := 4) (by decide) (by decide) (e5 _ _ g4)) .nil))))
        (by intro t ht; simp only [List.mem_cons, List.not_mem_nil, or_false] at ht; rcases ht with rfl | rfl | rfl | rfl <;> (unfold okT; dsimp only; omega)) (by simp)⟩
    · walk_at "ss"
      exact ⟨_, _, rfl, S1, T1⟩
  clear T1 S1
  rintro σ H1 ⟨v1, ts1, rfl, S1, T1⟩
  -- one more term
  refine w_cut (fun σ' H' => ∃ v ts, σ' = [some (.ref d), some (.int num), some (.int kind), some v] ∧ Same H H' ∧ TL H' v ts 5) ?_ ?_
  · walk_at "ss"
    refine w_below (S1 _ _ hd) (by decide) (by decide) fun r1 hr1 hr2 => ?_
    have more : tAsg (tOp (rAddU Γ.K) (tVar 3) (tTup (tCons (tTup (tCons (tOp rSubI (tCal (sp__law_below Γ) E0 (tCons (tVar 0) (tCons (tC (.int 5)) tNil))) (tC (.int 2))) (tCons (tCal (sp__law_below Γ) E0 (tCons (tVar 0) (tCons (tC (.int 5)) tNil))) (tCons (tCal (sp__law_below Γ) E0 (tCons (tVar 0) (tCons (tC (.int 5)) tNil))) tNil)))) tNil))) (gName 3)
        ⟨fun σ' H' => ∃ v ts, σ' = [some (.ref d), some (.int num), some (.int kind), some v] ∧ Same H H' ∧ TL H' v ts 5, Q, fun _ _ => False, fun _ _ => False⟩ [some (.ref d), some (.int num), some (.int kind), some v1] H1 := by
      walk_at "ss"
      refine w_below (S1 _ _ hd) (by decide) (by decide) fun a ha1 ha2 => ?_
      walk_at "ss"
      refine w_below (S1 _ _ hd) (by decide) (by decide) fun b hb1 hb2 => ?_
      walk_at "ss"
      refine w_below (S1 _ _ hd) (by decide) (by decide) fun c hc1 hc2 => ?_
      walk_at "ss"
      refine n_tup fun p1 H2 _ e1 g1 => ?_
      walk_at "ss"
      refine n_tup fun p2 H3 _ e2 g2 => ?_
      have T2 := T1.mono (e1.trans e2)
      have hone : ([(a - 2, b.toNat, c.toNat)] : List (Int × Nat × Nat)).map tt = [tt (a - 2, b.toNat, c.toNat)] := rfl
      refine w_addT (es := [tt (a - 2, b.toNat, c.toNat)]) T2.1 (.tup g2 (.cons (tp_t hb1 hc1 (e2 _ _ g1)) .nil)) (by rw [List.length_map]; have := T1.2.2; simp only [List.length_cons, List.length_nil]; omega) fun u H4 e4 t4 => ?_
      walk_at "ss"
      refine ⟨u, ts1 ++ [(a - 2, b.toNat, c.toNat)], rfl, S1.trans (e1.trans (e2.trans e4)), ?_, ?_, ?_⟩
      · rw [app_tt]; exact t4
      · intro t ht
        rcases List.mem_append.mp ht with ht | ht
        · exact T1.2.1 t ht
        · simp only [List.mem_cons, List.not_mem_nil, or_false] at ht
          subst ht
          unfold okT; dsimp only; omega
      · rw [List.length_append]
        have := T1.2.2
        simp only [List.length_cons, List.length_nil]; omega
    walk_at "ss"
    refine w_ite (fun c => ?_) (fun c => ?_)
    · exact w_iteT more
    · walk_at "ss"
      refine w_ite (fun c2 => more) (fun c2 => ?_)
      walk_at "ss"
      exact ⟨_, _, rfl, S1, T1.weak (by decide)⟩
  clear T1 S1
  rintro σ H1 ⟨v1, ts1, rfl, S1, T1⟩
  refine w_cut (fun σ' H' => ∃ v ts, σ' = [some (.ref d), some (.int num), some (.int kind), some v] ∧ Same H H' ∧ TL H' v ts 7) ?_ ?_
  · walk_at "ss"
    refine w_below (S1 _ _ hd) (by decide) (by decide) fun r1 hr1 hr2 => ?_
    walk_at "ss"
    refine w_ite (fun c => ?_) (fun c => ?_)
    · walk_at "ss"
      refine n_tup fun p1 H2 _ e1 g1 => ?_
      walk_at "ss"
      refine n_lst fun p2 H3 _ e2 g2 => ?_
      walk_at "ss"
      have S3 := S1.trans (e1.trans e2)
      refine w_pick (S3 _ _ hd) (SqL.of g2) fun i x hx => ?_
      have Tx : ∃ ts, TL H3 x ts 5 := by
        match i with
        | 0 => cases hx; exact ⟨_, T1.mono (e1.trans e2)⟩
        | 1 => cases hx; exact ⟨[], TL.nil (e2 _ _ g1)⟩
        | n + 2 => simp at hx
      obtain ⟨tsx, Tx⟩ := Tx
      walk_at "ss"
      refine n_tup fun p3 H4 _ e3 g3 => ?_
      walk_at "ss"
      refine n_tup fun p4 H5 _ e4 g4 => ?_
      walk_at "ss"
      refine n_tup fun p5 H6 _ e5 g5 => ?_
      have T6 := Tx.mono (e3.trans (e4.trans e5))
      refine w_addT (es := [tt (15 * num, 2, 2), tt (-2 * num, 3, 3)]) T6.1 (.tup g5 (.cons (tp_t (i := 2) (j := 2) (by decide) (by decide) ((e4.trans e5) _ _ g3)) (.cons (tp_t (i := 3) (j := 3) (by decide) (by decide) (e5 _ _ g4)) .nil))) (by rw [List.length_map]; have := T6.2.2; simp only [List.length_cons, List.length_nil]; omega) fun u H7 e6 t7 => ?_
      walk_at "ss"
      refine ⟨u, tsx ++ [(15 * num, 2, 2), (-2 * num, 3, 3)], rfl, S3.trans (e3.trans (e4.trans (e5.trans e6))), ?_, ?_, ?_⟩
      · rw [app_tt]; exact t7
      · intro t ht
        rcases List.mem_append.mp ht with ht | ht
        · exact Tx.2.1 t ht
        · simp only [List.mem_cons, List.not_mem_nil, or_false] at ht
          rcases ht with rfl | rfl <;> (unfold okT; dsimp only; omega)
      · rw [List.length_append]
        have := Tx.2.2
        simp only [List.length_cons, List.length_nil]; omega
    · walk_at "ss"
      exact ⟨_, _, rfl, S1, T1.weak (by decide)⟩
  clear T1 S1
  rintro σ H1 ⟨v1, ts1, rfl, S1, T1⟩
  walk_at "ss"
  refine w_sl6 T1.1 fun u H2 e2 t2 => ?_
  walk_at "ss"
  refine q u (ts1.take 6) H2 (S1.trans e2) ?_ ⟨by rw [List.length_take]; omega, fun t ht => T1.2.1 t (List.mem_of_mem_take ht)⟩
  show Tp H2 u (.tuple ((ts1.take 6).map tt))
  rw [List.map_take]
  exact t2

/-! ### tables that are drawn -/
def small (x : Int) : Prop := -100 ≤ x ∧ x ≤ 100
def RowAt (H : Hp) (a : Addr) (n : Nat) (row : List Int) : Prop := H a = some (.lst (row.map V.int)) ∧ row.length = n ∧ ∀ x ∈ row, small x
theorem rows_of {P : Nat → Addr → List Int → Prop} : ∀ {refs : List Addr}, (∀ j a, refs[j]? = some a → ∃ row, P j a row) → ∃ rows : List (List Int), rows.length = refs.length ∧ ∀ (j : Nat) row, rows[j]? = some row → ∃ a, refs[j]? = some a ∧ P j a row
  | [], _ => ⟨[], rfl, fun j row h => by simp at h⟩
  | a :: refs, h => by
    obtain ⟨row, hr⟩ := h 0 a rfl
    obtain ⟨rows, h1, h2⟩ := rows_of (P := fun j => P (j + 1)) (refs := refs) fun j b hb => h (j + 1) b hb
    refine ⟨row :: rows, by rw [List.length_cons, List.length_cons, h1], fun j w hw => ?_⟩
    cases j with
    | zero => cases hw; exact ⟨a, rfl, hr⟩
    | succ j => exact h2 j w hw
def sp__law_table (Γ : Gm) : Sp := fun vs H Q _ => ∃ (d : Addr) (m : Int), vs = [.ref d, .int m] ∧ H d = some (dO d) ∧ 2 ≤ m ∧ m ≤ 40 ∧
  ∀ v rows H', Same H H' → Tp H' v (R.tab rows).body → (R.tab rows).ok → (rows.length : Int) ≤ m - 1 → (∀ r ∈ rows, ∀ x ∈ r, small x) → Q v H'
/-- between two rows -/
structure TI' (H H' : Hp) (M : Nat) (Ld Lr : Addr) (dues : List Int) (refs : List Addr) : Prop where
  same : Same H H'
  hd : H' Ld = some (.lst (dues.map V.int))
  hr : H' Lr = some (.lst (refs.map V.ref))
  ne : Ld ≠ Lr
  nr : ∀ a ∈ refs, a ≠ Lr
  nd : ∀ a ∈ refs, a ≠ Ld
  nh : ∀ a ∈ refs, H a = none
  row : ∀ j a, refs[j]? = some a → ∃ row, RowAt H' a (M - 1 - j) row
/-- law_table: _law_d, _law_most, _law_kind, _law_due, _law_rows, _law_one, _law_row, _law_other, _law_k -/
def t__law_table (Γ : Gm) : TS := (tSeq (tPar 1 2 (tCons (tOp (rAddU Γ.K) (tC (.int 2)) (tCal (sp__law_below Γ) E0 (tCons (tVar 0) (tCons (tOp rSubI (tVar 1) (tC (.int 1))) tNil)))) (tCons (tCal (sp__law_below Γ) E0 (tCons (tVar 0) (tCons (tC (.int 4)) tNil))) tNil)))
  (tSeq (tAsg (tOp (rAddU Γ.K) (tLst (tCons (tC (.int 0)) (tCons (tC (.int 0)) tNil))) (tLc (iRng1 (tCons (tOp rSubI (tVar 1) (tC (.int 1))) tNil)) (gName 8) tYes (tOp rSubI (tCal (sp__law_below Γ) E0 (tCons (tVar 0) (tCons (tC (.int 40)) tNil))) (tC (.int 9))) [8])) (gName 3))
  (tSeq (tAsg (tLst tNil) (gName 4))
  (tSeq (tFor (iRng2 (tCons (tC (.int 1)) (tCons (tVar 1) tNil))) (gName 5) (tSeq (tAsg (tLst tNil) (gName 6))
  (tSeq (tFor (iRng2 (tCons (tC (.int 1)) (tCons (tOp (rAddU Γ.K) (tOp rSubI (tVar 1) (tVar 5)) (tC (.int 1))) tNil))) (gName 7) (tDrop (tBM Γ.K "list" rAppend (tVar 6) (tCons (tIf (tTest (tOp (rEqU Γ.K) (tVar 2) (tC (.int 0)))) (tCal (sp__law_below Γ) E0 (tCons (tVar 0) (tCons (tC (.int 5)) tNil))) (tOp rSubI (tOp rSubI (tOp (rIx Γ.K) (tVar 3) (tOp (rAddU Γ.K) (tVar 5) (tVar 7))) (tOp (rIx Γ.K) (tVar 3) (tVar 5))) (tOp (rIx Γ.K) (tVar 3) (tVar 7)))) tNil))))
  (tDrop (tBM Γ.K "list" rAppend (tVar 4) (tCons (tVar 6) tNil))))))
  (tCut (tIfS (tTest (tOp (rEqU Γ.K) (tVar 2) (tC (.int 1)))) (tSeq (tAsg (tCal (sp__law_below Γ) E0 (tCons (tVar 0) (tCons (tOp rSubI (tVar 1) (tC (.int 1))) tNil))) (gName 5))
  (tAsg (tCal (sp__law_below Γ) E0 (tCons (tVar 0) (tCons (tC (.int 9)) tNil))) (gSub (tOp (rIx Γ.K) (tVar 4) (tVar 5)) (tCal (sp__law_below Γ) E0 (tCons (tVar 0) (tCons (tCB (rLen Γ.K) (tCons (tOp (rIx Γ.K) (tVar 4) (tVar 5)) tNil)) tNil))) rSetL))) tNext)
  (tRet (tCB (rTupOf Γ.K) (tCons (tLc (iSeq Γ.K (tVar 4)) (gName 6) tYes (tCB (rTupOf Γ.K) (tCons (tVar 6) tNil)) [6]) tNil))))))))
theorem rd__law_table (Γ : Gm) (vs : List V) (H : Hp) (Q : VK) (E : XK) (h : sp__law_table Γ vs H Q E) : t__law_table Γ ⟨fun _ H' => Q .non H', Q, fun _ _ => False, fun _ _ => False⟩ (startN 9 vs) H := by
  obtain ⟨d, m, rfl, hd, hm, hm2, q⟩ := h
  unfold t__law_table
  walk_at "ss"
  refine w_below hd (by omega) (by omega) fun r hr1 hr2 => ?_
  walk_at "ss"
  refine w_below hd (by decide) (by decide) fun kind hk1 hk2 => ?_
  walk_at "ss"
  obtain ⟨M, hM⟩ : ∃ M : Nat, 2 + r = (M : Int) := ⟨(2 + r).toNat, by omega⟩
  rw [hM]
  have hMr : 2 ≤ M ∧ (M : Int) ≤ m := by omega
  refine n_lst fun l0 H1 hl0 e1 g0 => ?_
  walk_at "ss"
  refine k_rng1 (by omega) ?_
  refine k_lcRange (fun i acc H' => ∃ ns : List Int, acc = ns.map V.int ∧ ns.length = i ∧ ∀ x ∈ ns, -9 ≤ x ∧ x ≤ 30) (fun _ _ => ⟨[], rfl, rfl, (fun _ z => nomatch z)⟩) ?_ ?_
  · rintro i D acc H2 hi hD e2 hacc ⟨ns, rfl, hns, hb⟩
    walk_at "ss"
    refine ⟨rfl, ?_⟩
    walk_at "ss"
    refine w_below ((e1.trans e2) _ _ hd) (by decide) (by decide) fun z hz1 hz2 => ?_
    walk_at "ss"
    refine lcTurn.mk hD e2 hacc (by rw [List.length_map]; omega) ⟨ns ++ [z - 9], by rw [List.map_append]; rfl, by rw [List.length_append, hns]; rfl, fun x hx => ?_⟩
    rcases List.mem_append.mp hx with hx | hx
    · exact hb x hx
    · simp only [List.mem_cons, List.not_mem_nil, or_false] at hx
      omega
  rintro D acc H2 hD e2 hacc ⟨ns, rfl, hns, hb⟩
  refine w_addL (e2 _ _ g0) hacc (by simp only [List.length_cons, List.length_nil, List.length_map]; exact Nat.le_trans (m := 1000) (by omega) (by decide)) fun Ld H3 hLd e3 g3 => ?_
  obtain ⟨dues, hdu⟩ : ∃ dues : List Int, dues = 0 :: 0 :: ns := ⟨_, rfl⟩
  have g3' : H3 Ld = some (.lst (dues.map V.int)) := by rw [hdu]; exact g3
  have hdl : dues.length = M + 1 := by rw [hdu]; simp only [List.length_cons]; omega
  have hdb : ∀ x ∈ dues, -9 ≤ x ∧ x ≤ 30 := fun x hx => by
    rw [hdu] at hx
    simp only [List.mem_cons] at hx
    rcases hx with rfl | rfl | hx
    · decide
    · decide
    · exact hb x hx
  clear g3 hdu
  have S3 := (e1.trans e2).trans e3
  walk_at "ss"
  refine n_lst fun Lr H4 hLr e4 g4 => ?_
  walk_at "ss"
  refine k_rng2 (by omega) ?_
  have ne0 : Ld ≠ Lr := ne_of_none g3' hLr
  have S4 := S3.trans e4
  have hrn : H Lr = none := S3.free hLr
  refine k_range (fun i σ H' => ∃ refs x y z, σ = [some (.ref d), some (.int M), some (.int kind), some (.ref Ld), some (.ref Lr), x, y, z, none] ∧ refs.length = i ∧ TI' H H' M Ld Lr dues refs) ⟨[], none, none, none, rfl, rfl, S4, e4 _ _ g3', g4, ne0, (fun _ z => nomatch z), (fun _ z => nomatch z), (fun _ z => nomatch z), fun j a z => by simp at z⟩ ?_ ?_
  · rintro i σ H5 hi ⟨refs, x, y, z, rfl, hrl, T⟩
    have hi' : i < M - 1 := by omega
    walk_at "ss"
    refine n_lst fun l H6 hl e6 g6 => ?_
    walk_at "ss"
    refine k_rng2 (by omega) ?_
    have S6 := T.same.trans e6
    refine k_range (fun k σ H' => ∃ row z, σ = [some (.ref d), some (.int M), some (.int kind), some (.ref Ld), some (.ref Lr), some (.int (1 + (i : Int))), some (.ref l), z, none] ∧ Same H5 H' ∧ RowAt H' l k row) ⟨[], z, rfl, e6, g6, rfl, (fun _ z => nomatch z)⟩ ?_ ?_
    · rintro k σ H7 hk ⟨row, z', rfl, e7, hl7, hrowl, hrb⟩
      have hk' : k < M - 1 - i := by omega
      walk_at "ss"
      refine w_tyL hl7 ?_
      walk_at "ss"
      have done : ∀ x : Int, small x → rAppend (.ref l) [.int x] H7 (fun _ H1 => ∃ row z, (List.set [some (V.ref d), some (.int M), some (.int kind), some (.ref Ld), some (.ref Lr), some (.int (1 + (i : Int))), some (.ref l), z', none] 7 (some (.int (1 + (k : Int))))) = [some (.ref d), some (.int M), some (.int kind), some (.ref Ld), some (.ref Lr), some (.int (1 + (i : Int))), some (.ref l), z, none] ∧ Same H5 H1 ∧ RowAt H1 l (k + 1) row) := fun x hx => by
        refine w_app hl7 (by rw [List.length_map]; omega) ?_
        refine ⟨row ++ [x], _, rfl, Same.mut e7 hl, ?_, by rw [List.length_append, hrowl]; rfl, fun w hw => ?_⟩
        · rw [upd_same, List.map_append]; rfl
        · rcases List.mem_append.mp hw with hw | hw
          · exact hrb w hw
          · simp only [List.mem_cons, List.not_mem_nil, or_false] at hw
            rw [hw]; exact hx
      refine w_ite (fun c => ?_) (fun c => ?_)
      · walk_at "ss"
        refine w_below ((T.same.trans e7) _ _ hd) (by decide) (by decide) fun w hw1 hw2 => ?_
        walk_at "ss"
        exact done w ⟨by omega, by omega⟩
      · walk_at "ss"
        have hdd := e7 _ _ T.hd
        have gt : ∀ (n : Int), 0 ≤ n → n < M + 1 → ∃ x, dues[n.toNat]? = some x ∧ -9 ≤ x ∧ x ≤ 30 := fun n h1 h2 => by
          have : n.toNat < dues.length := by omega
          exact ⟨_, List.getElem?_eq_getElem this, hdb _ (List.getElem_mem this)⟩
        obtain ⟨x1, a1, b1⟩ := gt (1 + (i : Int) + (1 + (k : Int))) (by omega) (by omega)
        obtain ⟨x2, a2, b2⟩ := gt (1 + (i : Int)) (by omega) (by omega)
        obtain ⟨x3, a3, b3⟩ := gt (1 + (k : Int)) (by omega) (by omega)
        refine w_ixL (SqL.of hdd) (atI_of (by omega) (by rw [List.getElem?_map, a1]; rfl)) ?_
        walk_at "ss"
        refine w_ixL (SqL.of hdd) (atI_of (by omega) (by rw [List.getElem?_map, a2]; rfl)) ?_
        walk_at "ss"
        refine w_ixL (SqL.of hdd) (atI_of (by omega) (by rw [List.getElem?_map, a3]; rfl)) ?_
        walk_at "ss"
        exact done _ ⟨by omega, by omega⟩
    · rintro σ H7 ⟨row, z', rfl, e7, hl7, hrowl, hrb⟩
      walk_at "ss"
      have hr7 := e7 _ _ T.hr
      refine w_tyL hr7 ?_
      walk_at "ss"
      refine w_app hr7 (by rw [List.length_map]; omega) ?_
      have nl : l ≠ Lr := fun z => by rw [z, T.hr] at hl; cases hl
      have nl2 : l ≠ Ld := fun z => by rw [z, T.hd] at hl; cases hl
      have mem : ∀ {P : Addr → Prop}, (∀ a ∈ refs, P a) → P l → ∀ a ∈ refs ++ [l], P a := fun h1 h2 a ha => by
        rcases List.mem_append.mp ha with ha | ha
        · exact h1 a ha
        · simp only [List.mem_cons, List.not_mem_nil, or_false] at ha
          rw [ha]; exact h2
      refine ⟨refs ++ [l], _, _, _, rfl, by rw [List.length_append, hrl]; rfl, Same.mut (T.same.trans e7) hrn, ?_, ?_, ne0, mem T.nr nl, mem T.nd nl2, mem T.nh (T.same.free hl), fun j a hj => ?_⟩
      · rw [upd_ne ne0]; exact e7 _ _ T.hd
      · rw [upd_same, List.map_append]; rfl
      · by_cases hjl : j < refs.length
        · rw [List.getElem?_append_left hjl] at hj
          obtain ⟨rw', h1, h2⟩ := T.row j a hj
          refine ⟨rw', ?_, h2⟩
          rw [upd_ne (T.nr a (List.mem_of_getElem? hj))]
          exact e7 _ _ h1
        · have hj2 : j = refs.length := by
            have := (List.getElem?_eq_some_iff.mp hj).1
            rw [List.length_append] at this
            simp only [List.length_cons, List.length_nil] at this
            omega
          subst hj2
          rw [List.getElem?_append_right (Nat.le_refl _), Nat.sub_self] at hj
          cases hj
          refine ⟨row, by rw [upd_ne nl]; exact hl7, ?_, hrb⟩
          omega
  · rintro σ H5 ⟨refs, x, y, z, rfl, hrl, T⟩
    have hrl' : refs.length = M - 1 := by omega
    refine w_cut (fun σ' H' => ∃ x y z, σ' = [some (.ref d), some (.int M), some (.int kind), some (.ref Ld), some (.ref Lr), x, y, z, none] ∧ TI' H H' M Ld Lr dues refs) ?_ ?_
    · walk_at "ss"
      refine w_ite (fun c => ?_) (fun c => ?_)
      · walk_at "ss"
        refine w_below (T.same _ _ hd) (by omega) (by omega) fun one ho1 ho2 => ?_
        walk_at "ss"
        refine w_below (T.same _ _ hd) (by decide) (by decide) fun val hv1 hv2 => ?_
        walk_at "ss"
        have hj : one.toNat < refs.length := by omega
        have ha := List.getElem?_eq_getElem hj
        obtain ⟨row, hrow, hrowl, hrb⟩ := T.row _ _ ha
        refine w_ixL (SqL.of T.hr) (atI_of ho1 (by rw [List.getElem?_map, ha]; rfl)) ?_
        walk_at "ss"
        refine w_ixL (SqL.of T.hr) (atI_of ho1 (by rw [List.getElem?_map, ha]; rfl)) ?_
        walk_at "ss"
        refine w_lenL (SqL.of hrow) ?_
        walk_at "ss"
        rw [List.length_map, hrowl]
        refine w_below (T.same _ _ hd) (by omega) (by omega) fun k hk1 hk2 => ?_
        obtain ⟨kk, hkk⟩ : ∃ kk : Nat, k = (kk : Int) := ⟨k.toNat, by omega⟩
        subst hkk
        have hnr := T.nr _ (List.mem_of_getElem? ha)
        have hnH : H (refs[one.toNat]) = none := T.nh _ (List.mem_of_getElem? ha)
        refine w_setL hrow (j := kk) (by unfold ixN; rw [if_pos (by omega), if_pos (by rw [List.length_map, hrowl]; omega)]; simp) ?_
        walk_at "ss"
        refine ⟨_, _, _, rfl, Same.mut T.same hnH, ?_, ?_, ne0, T.nr, T.nd, T.nh, fun j a hja => ?_⟩
        · rw [upd_ne (T.nd _ (List.mem_of_getElem? ha)).symm]; exact T.hd
        · rw [upd_ne hnr.symm]; exact T.hr
        · by_cases ea : a = refs[one.toNat]
          · subst ea
            obtain ⟨row2, h1, h2, h3⟩ := T.row _ _ hja
            rw [hrow] at h1
            have e2 : row2.length = row.length := by
              have := congrArg (fun o => match o with | some (HO.lst l) => l.length | _ => 0) h1
              simpa using this.symm
            refine ⟨row.set kk val, ?_, by rw [List.length_set, ← e2]; exact h2, fun w hw => ?_⟩
            · rw [upd_same, List.map_set]
            · rcases List.mem_or_eq_of_mem_set hw with hw | hw
              · exact hrb w hw
              · rw [hw]; exact ⟨by omega, by omega⟩
          · obtain ⟨row2, h1, h2⟩ := T.row _ _ hja
            exact ⟨row2, by rw [upd_ne ea]; exact h1, h2⟩
      · walk_at "ss"
        exact ⟨_, _, _, rfl, T⟩
    clear T
    rintro σ H6 ⟨x, y, z, rfl, T⟩
    obtain ⟨rows, hl1, hl2⟩ := rows_of T.row
    walk_at "ss"
    refine k_seqL (SqL.of T.hr) ?_
    refine k_lcList (xs := refs.map V.ref) (fun i acc H' => TpAll H' acc ((rows.take i).map fun r => PyData.tuple (r.map PyData.int))) (SqL.of T.hr) (fun _ _ => .nil) ?_ ?_
    · rintro i x D acc H7 hi hD e7 hacc tacc
      have hil : i < rows.length := by
        have := (List.getElem?_eq_some_iff.mp hi).1
        rw [List.length_map] at this
        omega
      have hrow := List.getElem?_eq_getElem hil
      obtain ⟨a, hra, hro, hrol, hrob⟩ := hl2 i _ hrow
      rw [List.getElem?_map, hra] at hi
      cases hi
      walk_at "ss"
      refine ⟨rfl, ?_⟩
      walk_at "ss"
      refine w_tupL (SqL.of (e7 _ _ hro)) fun t H8 ht e8 g8 => ?_
      have hacc8 := e8 _ _ hacc
      have tl := tacc.length
      rw [List.length_map, List.length_take] at tl
      refine lcTurn.mk hD (e7.trans e8) hacc8 (by omega) ?_
      rw [take_succ hrow, List.map_append]
      have up : Tups H8 (upd H8 D (.lst (acc ++ [V.ref t]))) := Tups.upd (fun _ _ z => z) (fun xs z => by rw [hacc8] at z; cases z)
      exact ((tacc.mono (Same.tups e8)).append (.cons (.tup g8 (TpAll.of_ints _ _)) .nil)).mono up
    · rintro D acc H7 hD e7 hacc tacc
      rw [List.length_map, ← hl1, List.take_length] at tacc
      walk_at "ss"
      refine w_tupL (SqL.of hacc) fun t H8 ht e8 g8 => ?_
      refine q _ rows H8 (T.same.trans (e7.trans e8)) (.tup g8 (tacc.mono (Same.tups e8))) ⟨by omega, by omega, fun i r hr => ?_⟩ (by omega) (fun r hr => ?_)
      · obtain ⟨a, h1, h2, h3, h4⟩ := hl2 i r hr
        refine ⟨by omega, fun x hx => ?_⟩
        have := h4 x hx
        unfold small at this
        omega
      · obtain ⟨i, hi⟩ := List.getElem?_of_mem hr
        obtain ⟨a, h1, h2, h3, h4⟩ := hl2 i r hi
        exact h4
/-! ### rules that are drawn -/
/-- R.small: what the drawn tables keep -/
def R.fit (most : Int) : R → Prop
  | .tab rows => (rows.length : Int) ≤ most - 1 ∧ ∀ r ∈ rows, ∀ x ∈ r, small x
  | .trm _ => True
def sp__law_rule (Γ : Gm) : Sp := fun vs H Q _ => ∃ (d : Addr) (m : Int), vs = [.ref d, .int m] ∧ H d = some (dO d) ∧ 2 ≤ m ∧ m ≤ 40 ∧ ∀ v r H', Same H H' → RuleAt Γ H' v r → r.fit m → Q v H'
/-- a rule of parts that are one, made -/
theorem w_mkRule {Γ : Gm} {H : Hp} {Q : VK} {v : V} (r : R) (hv : Tp H v r.body) (ok : r.ok) (hr : ruleOf (.str r.kind) r.body = some r) (k : ∀ p H', Same H H' → RuleAt Γ H' (.ref p) r → Q (.ref p) H') : kMak Γ.cRule (sp_RuleU_initU Γ) E0 [.str r.kind, v] H Q := by
  intro x dx hx hdx ne
  have e1 : Same H (upd (upd H dx (.own x)) x (.ins Γ.cRule dx [])) := (Same.new hdx).mut hx
  refine ⟨x, dx, _, .str r.kind, v, r.body, rfl, upd_same, .str _, (hv.mono (Same.tups e1)).dv, ⟨(fun z => by rw [hr] at z; cases z), ?_⟩⟩
  intro r' s b hr' es ev _ _ _ H' keep h'
  cases es
  rw [hr] at hr'
  cases hr'
  subst ev
  have keep' : Same H H' := fun c o ho => keep c o (fun z => by rw [z, hx] at ho; cases ho) (e1 c o ho)
  exact ⟨rfl, k x H' keep' ⟨x, dx, b, rfl, h', hv.mono (Same.tups keep'), ok⟩⟩
theorem ints_all {lo hi : Int} : ∀ {ns : List Int}, (∀ n ∈ ns, lo ≤ n ∧ n ≤ hi) → (ns.map PyData.int).all (inD lo hi) = true
  | [], _ => rfl
  | n :: ns, h => by
    rw [List.map_cons, List.all_cons, ints_all (fun m hm => h m (List.mem_cons_of_mem _ hm))]
    have := h n List.mem_cons_self
    simp only [inD, Bool.and_true, Bool.and_eq_true, decide_eq_true_eq]
    exact this
theorem ints_id : ∀ ns : List Int, (ns.map PyData.int).map intD = ns
  | [] => rfl
  | n :: ns => by rw [List.map_cons, List.map_cons, ints_id ns]; rfl
theorem ruleOf_str (s : Str) (d : PyData) : ruleOf (.str s) d = if s = "table" then (if areRows d then some (.tab (rowsD d)) else none) else if s = "terms" then (if areTerms d then some (.trm (termsD d)) else none) else none := rfl
theorem ruleOf_table (d : PyData) : ruleOf (.str "table") d = if areRows d then some (.tab (rowsD d)) else none := by
  rw [ruleOf_str, if_pos rfl]
theorem ruleOf_terms (d : PyData) : ruleOf (.str "terms") d = if areTerms d then some (.trm (termsD d)) else none := by
  rw [ruleOf_str, if_neg (show ¬ ("terms" : Str) = "table" from by decide +kernel), if_pos rfl]
/-- what is a rule is told back -/
theorem ruleOf_body {r : R} (ok : r.ok) : ruleOf (.str r.kind) r.body = some r := by
  cases r with
  | tab rows =>
    obtain ⟨h1, h2, h3⟩ := ok
    have ha : areRows (R.tab rows).body = true := by
      simp only [R.body, areRows, List.length_map]
      rw [decide_eq_true h1, decide_eq_true h2]
      simp only [Bool.true_and, List.all_eq_true, List.mem_range]
      intro i hi
      rw [List.getD_eq_getElem?_getD, List.getElem?_map, List.getElem?_eq_getElem hi]
      obtain ⟨h4, h5⟩ := h3 i _ (List.getElem?_eq_getElem hi)
      simp only [Option.map_some, Option.getD_some, rowOk, List.length_map]
      rw [ints_all h5, decide_eq_true h4]
      rfl
    have hb : rowsD (R.tab rows).body = rows := by
      simp only [R.body, rowsD, List.map_map]
      conv => rhs; rw [← List.map_id rows]
      exact List.map_congr_left fun r _ => ints_id r
    show ruleOf (.str "table") _ = _
    rw [ruleOf_table, if_pos ha, hb]
  | trm ts =>
    obtain ⟨h1, h2⟩ := ok
    have hd : ∀ t ∈ ts, termD (.tuple ((tri t).map PyData.int)) = t := fun t _ => by
      obtain ⟨n, i, j⟩ := t
      simp [termD, intsD, tri, intD]
    have ha : areTerms (R.trm ts).body = true := by
      simp only [R.body, areTerms, List.length_map, List.all_map, Bool.and_eq_true, decide_eq_true_eq, List.all_eq_true]
      refine ⟨h1, fun t ht => ?_⟩
      have := h2 t ht
      simp only [Function.comp, tri, List.map_cons, List.map_nil, isTerm, inD, Bool.and_eq_true, decide_eq_true_eq]
      omega
    have hb : termsD (R.trm ts).body = ts := by
      simp only [R.body, termsD, List.map_map]
      conv => rhs; rw [← List.map_id ts]
      exact List.map_congr_left fun t ht => hd t ht
    show ruleOf (.str "terms") _ = _
    rw [ruleOf_terms, if_pos ha, hb]
/-- law_rule: _law_d, _law_most -/
def t__law_rule (Γ : Gm) : TS := (tSeq (tIfS (tTest (tOp (rEqU Γ.K) (tCal (sp__law_below Γ) E0 (tCons (tVar 0) (tCons (tC (.int 2)) tNil))) (tC (.int 0)))) (tRet (tMak Γ.cRule (sp_RuleU_initU Γ) E0 (tCons (tC (.str "table")) (tCons (tCal (sp__law_table Γ) E0 (tCons (tVar 0) (tCons (tVar 1) tNil))) tNil)))) tNext)
  (tRet (tMak Γ.cRule (sp_RuleU_initU Γ) E0 (tCons (tC (.str "terms")) (tCons (tCal (sp__law_terms Γ) E0 (tCons (tVar 0) tNil)) tNil)))))
theorem rd__law_rule (Γ : Gm) (vs : List V) (H : Hp) (Q : VK) (E : XK) (h : sp__law_rule Γ vs H Q E) : t__law_rule Γ ⟨fun _ H' => Q .non H', Q, fun _ _ => False, fun _ _ => False⟩ (startN 2 vs) H := by
  obtain ⟨d, m, rfl, hd, hm, hm2, q⟩ := h
  unfold t__law_rule
  walk_at "ss"
  refine w_below hd (by decide) (by decide) fun r hr1 hr2 => ?_
  walk_at "ss"
  refine w_ite (fun c => ?_) (fun c => ?_)
  · walk_at "ss"
    refine ⟨d, m, rfl, hd, hm, hm2, fun v rows H' e tv ok hl hs => ?_⟩
    refine w_mkRule (R.tab rows) tv ok (ruleOf_body ok) fun p H2 e2 hr => ?_
    exact q _ _ H2 (e.trans e2) hr ⟨hl, hs⟩
  · walk_at "ss"
    refine ⟨d, rfl, hd, fun v ts H' e tv ok => ?_⟩
    refine w_mkRule (R.trm ts) tv ok (ruleOf_body ok) fun p H2 e2 hr => ?_
    exact q _ _ H2 (e.trans e2) hr trivial
theorem k_kind {Γ : Gm} {H : Hp} {v : V} {r : R} {Q : VK} (h : RuleAt Γ H v r) (q : Q (.str r.kind) H) : kPrp Γ.cRule "form" v H Q := by
  obtain ⟨p, dx, b, rfl, h2, h3, h4⟩ := h
  exact ⟨p, dx, _, _, rfl, h2, rfl2_form _ _, q⟩
theorem k_parts {Γ : Gm} {H : Hp} {v : V} {r : R} {Q : VK} (h : RuleAt Γ H v r) (q : ∀ b xs, H b = some (.tup xs) → Tp H (.ref b) r.body → Q (.ref b) H) : kPrp Γ.cRule "body" v H Q := by
  obtain ⟨p, dx, b, rfl, h2, h3, h4⟩ := h
  refine ⟨p, dx, _, _, rfl, h2, rfl2_body _ _, ?_⟩
  cases r <;> (cases h3 with | tup h k => exact q b _ h (.tup h k))
/-- the greatest heap that a rule has points for, of at most so many things -/
def R.topm (r : R) (most : Int) : Int := match r with
  | .tab rows => if (rows.length : Int) + 1 < most then (rows.length : Int) + 1 else most
  | .trm _ => most
def sp__law_top (Γ : Gm) : Sp := fun vs H Q _ => ∃ v r m, vs = [v, .int m] ∧ RuleAt Γ H v r ∧ ∀ H', Same H H' → Q (.int (r.topm m)) H'
/-- law_top: _law_rule_here, _law_most -/
def t__law_top (Γ : Gm) : TS := (tRet (tIf (tTest (tOp (rEqU Γ.K) (tPrp Γ.cRule "form" (tVar 0)) (tC (.str "table")))) (tCB (rMin Γ.K) (tCons (tLst (tCons (tVar 1) (tCons (tOp (rAddU Γ.K) (tCB (rLen Γ.K) (tCons (tPrp Γ.cRule "body" (tVar 0)) tNil)) (tC (.int 1))) tNil))) tNil)) (tVar 1)))
theorem rd__law_top (Γ : Gm) (vs : List V) (H : Hp) (Q : VK) (E : XK) (h : sp__law_top Γ vs H Q E) : t__law_top Γ ⟨fun _ H' => Q .non H', Q, fun _ _ => False, fun _ _ => False⟩ (startN 2 vs) H := by
  obtain ⟨v, r, m, rfl, hr, q⟩ := h
  unfold t__law_top
  walk_at "ss"
  refine k_kind hr ?_
  walk_at "ss"
  rw [kind_tab]
  cases r with
  | tab rows =>
    refine w_iteT ?_
    walk_at "ss"
    refine k_parts hr fun b xs hb ht => ?_
    walk_at "ss"
    refine w_lenT (SqT.of hb) ?_
    walk_at "ss"
    obtain ⟨a, ys, z1, z2, z3⟩ := ht.inv
    cases z1
    rw [hb] at z2
    cases z2
    rw [z3.length, List.length_map]
    refine n_lst fun l H1 hl e1 g1 => ?_
    walk_at "ss"
    refine ⟨l, [m, (rows.length : Int) + 1], rfl, SqL.of g1, Nat.succ_pos _, fun x hx hle => ?_⟩
    have e : x = (R.tab rows).topm m := by
      have h1 := hle m (by simp)
      have h2 := hle ((rows.length : Int) + 1) (by simp)
      simp only [List.mem_cons, List.not_mem_nil, or_false] at hx
      simp only [R.topm]
      split <;> omega
    rw [e]
    exact q _ e1
  | trm ts =>
    refine w_iteF ?_
    walk_at "ss"
    exact q H (Same.refl H)
/-- values that are no heaps, as data -/
def noHeaps (n : Int) : List PyData := [.none, .int 0, .int (-1), .str "1", .bool true, .tuple [.int 1], .int n]
def sp__law_no_heaps (Γ : Gm) : Sp := fun vs H Q _ => ∃ v r m, vs = [v, .int m] ∧ RuleAt Γ H v r ∧ ∀ l xs H', Same H H' → H l = none → H' l = some (.lst xs) → TpAll H' xs (noHeaps (r.topm m + 1)) → Q (.ref l) H'
/-- law_no_heaps: _law_rule_here, _law_most -/
def t__law_no_heaps (Γ : Gm) : TS := (tRet (tLst (tCons (tC .non) (tCons (tC (.int 0)) (tCons (tUn (rU fun i => .int (-i)) (tC (.int 1))) (tCons (tC (.str "1")) (tCons (tC (.bl true)) (tCons (tTup (tCons (tC (.int 1)) tNil)) (tCons (tOp (rAddU Γ.K) (tCal (sp__law_top Γ) E0 (tCons (tVar 0) (tCons (tVar 1) tNil))) (tC (.int 1))) tNil)))))))))
theorem rd__law_no_heaps (Γ : Gm) (vs : List V) (H : Hp) (Q : VK) (E : XK) (h : sp__law_no_heaps Γ vs H Q E) : t__law_no_heaps Γ ⟨fun _ H' => Q .non H', Q, fun _ _ => False, fun _ _ => False⟩ (startN 2 vs) H := by
  obtain ⟨v, r, m, rfl, hr, q⟩ := h
  unfold t__law_no_heaps
  walk_at "ss"
  refine n_tup fun t H1 ht e1 g1 => ?_
  walk_at "ss"
  refine ⟨v, r, m, rfl, hr.mono e1, fun H2 e2 => ?_⟩
  walk_at "ss"
  refine n_lst fun l H3 hl e3 g3 => ?_
  refine q l _ H3 (e1.trans (e2.trans e3)) ((e1.trans e2).free hl) g3 (.cons .non (.cons (.int 0) (.cons (.int (-1)) (.cons (.str _) (.cons (.bl true) (.cons (.tup ((e2.trans e3) _ _ g1) (.cons (.int 1) .nil)) (.cons (.int _) .nil)))))))

/-! ### equal and of the same kind at every level: asked of equal data alone -/
mutual
/-- data without dicts, nested less deep than n -/
def flatN : Nat → PyData → Bool
  | 0, _ => false
  | _ + 1, .none => true
  | _ + 1, .bool _ => true
  | _ + 1, .int _ => true
  | _ + 1, .str _ => true
  | n + 1, .list ds => decide (ds.length ≤ 100000) && flatAll n ds
  | n + 1, .tuple ds => decide (ds.length ≤ 100000) && flatAll n ds
  | _ + 1, .dict _ => false
def flatAll : Nat → List PyData → Bool
  | _, [] => true
  | n, d :: ds => flatN n d && flatAll n ds
end
theorem flatAll_get : ∀ {ds : List PyData} {n i : Nat} {d : PyData}, flatAll n ds = true → ds[i]? = some d → flatN n d = true
  | [], _, _, _, _, h => by simp at h
  | d :: ds, n, 0, _, h, e => by
    cases e
    unfold flatAll at h
    exact (Bool.and_eq_true_iff.mp h).1
  | d :: ds, n, i + 1, _, h, e => by
    unfold flatAll at h
    exact flatAll_get (Bool.and_eq_true_iff.mp h).2 (by simpa using e)
def spn__law_equal (Γ : Gm) (n : Nat) : Sp := fun vs H Q _ => ∃ x y d, vs = [x, y] ∧ Dv H x d ∧ Dv H y d ∧ flatN n d = true ∧ ∀ H', Same H H' → Q (.bl true) H'
def sp__law_equal (Γ : Gm) : Sp := spn__law_equal Γ 45
/-- law_equal: _law_actual, _law_expected, _law_key, _law_k -/
def t__law_equal (Γ : Gm) (n : Nat) : TS := (tSeq (tIfS (tTest (tOp rIsU (tVar 1) (tC .non))) (tRet (tOp rIsU (tVar 0) (tC .non))) tNext)
  (tSeq (tIfS (tB (tCB (rIsi Γ.K) (tCons (tVar 1) (tCons (tC (.ty "bool")) tNil)))) (tRet (tAndV (tCB (rIsi Γ.K) (tCons (tVar 0) (tCons (tC (.ty "bool")) tNil))) (tOp (rEqU Γ.K) (tVar 0) (tVar 1)))) tNext)
  (tSeq (tIfS (tB (tCB (rIsi Γ.K) (tCons (tVar 1) (tCons (tC (.ty "int")) tNil)))) (tRet (tAndV (tCB (rIsi Γ.K) (tCons (tVar 0) (tCons (tC (.ty "int")) tNil))) (tAndV (tNotV (tCB (rIsi Γ.K) (tCons (tVar 0) (tCons (tC (.ty "bool")) tNil)))) (tOp (rEqU Γ.K) (tVar 0) (tVar 1))))) tNext)
  (tSeq (tIfS (tB (tCB (rIsi Γ.K) (tCons (tVar 1) (tCons (tC (.ty "str")) tNil)))) (tRet (tAndV (tCB (rIsi Γ.K) (tCons (tVar 0) (tCons (tC (.ty "str")) tNil))) (tOp (rEqU Γ.K) (tVar 0) (tVar 1)))) tNext)
  (tSeq (tIfS (tB (tCB (rIsi Γ.K) (tCons (tVar 1) (tCons (tC (.ty "dict")) tNil)))) tNever tNext)
  (tSeq (tIfS (tTest (tOp (rNeU Γ.K) (tCB (rIsi Γ.K) (tCons (tVar 1) (tCons (tC (.ty "tuple")) tNil))) (tCB (rIsi Γ.K) (tCons (tVar 0) (tCons (tC (.ty "tuple")) tNil))))) (tRet (tC (.bl false))) tNext)
  (tSeq (tIfS (tTest (tOp (rNeU Γ.K) (tCB (rIsi Γ.K) (tCons (tVar 1) (tCons (tC (.ty "list")) tNil))) (tCB (rIsi Γ.K) (tCons (tVar 0) (tCons (tC (.ty "list")) tNil))))) (tRet (tC (.bl false))) tNext)
  (tSeq (tIfS (tTest (tOp (rNeU Γ.K) (tCB (rLen Γ.K) (tCons (tVar 0) tNil)) (tCB (rLen Γ.K) (tCons (tVar 1) tNil)))) (tRet (tC (.bl false))) tNext)
  (tRet (tCB (rAll Γ.K) (tCons (tLc (iRng1 (tCons (tCB (rLen Γ.K) (tCons (tVar 1) tNil)) tNil)) (gName 3) tYes (tCal (spn__law_equal Γ n) E0 (tCons (tOp (rIx Γ.K) (tVar 0) (tVar 3)) (tCons (tOp (rIx Γ.K) (tVar 1) (tVar 3)) tNil))) [3]) tNil)))))))))))
theorem rd0__law_equal (Γ : Gm) (vs : List V) (H : Hp) (Q : VK) (E : XK) (h : spn__law_equal Γ 0 vs H Q E) : False := by
  obtain ⟨x, y, d, _, _, _, h, _⟩ := h
  unfold flatN at h
  cases h
theorem isN_false {x : V} (h : x ≠ .non) : decide (x = V.non) = false := decide_eq_false h
theorem rd__law_equal (Γ : Gm) (n : Nat) (vs : List V) (H : Hp) (Q : VK) (E : XK) (h : spn__law_equal Γ (n + 1) vs H Q E) : t__law_equal Γ n ⟨fun _ H' => Q .non H', Q, fun _ _ => False, fun _ _ => False⟩ (startN 4 vs) H := by
  obtain ⟨x, y, d, rfl, hx, hy, hf, k⟩ := h
  have kk := k H (Same.refl H)
  unfold t__law_equal
  walk_at "ss"
  -- None
  by_cases dn : d = .none
  · subst dn
    cases hx
    cases hy
    rw [decide_eq_true rfl]
    walk_at "ss"
    rw [decide_eq_true rfl]
    exact kk
  have yn : y ≠ .non := by
    rintro rfl
    cases hy
    exact dn rfl
  rw [isN_false yn]
  walk_at "ss"
  refine w_isi hy.tag (by decide) ?_
  rw [hy.ty]
  walk_at "ss"
  refine w_ite (fun e => ?_) (fun e => ?_)
  · -- a truth value
    cases d with
    | bool b =>
      cases hx
      cases hy
      walk_at "ss"
      refine w_isi (.bl b) (by decide) ?_
      walk_at "ss"
      rw [if_pos (show isTy H "bool" (.bl b) = true from by simp [isTy, tyN, tyTab])]
      walk_at "ss"
      rw [decide_eq_true rfl]
      exact kk
    | _ => simp [tyD, tyTab] at e
  walk_at "ss"
  refine w_isi hy.tag (by decide) ?_
  rw [hy.ty]
  walk_at "ss"
  refine w_ite (fun e2 => ?_) (fun e2 => ?_)
  · cases d with
    | int b =>
      cases hx
      cases hy
      walk_at "ss"
      refine w_isi (.int b) (by decide) ?_
      walk_at "ss"
      rw [if_pos (show isTy H "int" (.int b) = true from by simp [isTy, tyN, tyTab])]
      walk_at "ss"
      refine w_isi (.int b) (by decide) ?_
      walk_at "ss"
      rw [if_pos (show (!isTy H "bool" (.int b)) = true from by simp [isTy, tyN, tyTab])]
      walk_at "ss"
      rw [decide_eq_true rfl]
      exact kk
    | bool b => simp [tyD, tyTab] at e
    | _ => simp [tyD, tyTab] at e2
  walk_at "ss"
  refine w_isi hy.tag (by decide) ?_
  rw [hy.ty]
  walk_at "ss"
  refine w_ite (fun e3 => ?_) (fun e3 => ?_)
  · cases d with
    | str b =>
      cases hx
      cases hy
      walk_at "ss"
      refine w_isi (.str b) (by decide) ?_
      walk_at "ss"
      rw [if_pos (show isTy H "str" (.str b) = true from by simp [isTy, tyN, tyTab])]
      walk_at "ss"
      rw [decide_eq_true rfl]
      exact kk
    | _ => simp [tyD, tyTab] at e3
  walk_at "ss"
  refine w_isi hy.tag (by decide) ?_
  rw [hy.ty]
  walk_at "ss"
  have ndict : tyTab (tyD d) "dict" = false := by
    cases d with
    | dict kvs => unfold flatN at hf; cases hf
    | _ => simp [tyD, tyTab]
  rw [ndict]
  walk_at "ss"
  -- a tuple or a list
  have main : ∀ (a b : Addr) (xs ys : List V) (ds : List PyData), x = .ref a → y = .ref b → (SqL Γ.K H a xs ∨ SqT Γ.K H a xs) → (SqL Γ.K H b ys ∨ SqT Γ.K H b ys) → DvAll H xs ds → DvAll H ys ds → ds.length ≤ 100000 → flatAll n ds = true →
      (tSeq (tIfS (tTest (tOp (rNeU Γ.K) (tCB (rLen Γ.K) (tCons (tVar 0) tNil)) (tCB (rLen Γ.K) (tCons (tVar 1) tNil)))) (tRet (tC (.bl false))) tNext)
      (tRet (tCB (rAll Γ.K) (tCons (tLc (iRng1 (tCons (tCB (rLen Γ.K) (tCons (tVar 1) tNil)) tNil)) (gName 3) tYes (tCal (spn__law_equal Γ n) E0 (tCons (tOp (rIx Γ.K) (tVar 0) (tVar 3)) (tCons (tOp (rIx Γ.K) (tVar 1) (tVar 3)) tNil))) [3]) tNil)))) ⟨fun _ H' => Q .non H', Q, fun _ _ => False, fun _ _ => False⟩ (startN 4 [x, y]) H := by
    rintro a b xs ys ds rfl rfl ha hb hxs hys hsz hfa
    have len : ∀ {c : Addr} {zs : List V} {R : VK}, (SqL Γ.K H c zs ∨ SqT Γ.K H c zs) → R (.int (zs.length : Int)) H → rLen Γ.K [.ref c] H R := fun h q => h.elim (fun h => w_lenL h q) (fun h => w_lenT h q)
    have hxl := hxs.length
    have hyl := hys.length
    walk_at "ss"
    refine len ha ?_
    walk_at "ss"
    refine len hb ?_
    walk_at "ss"
    rw [hxl, hyl, decide_eq_true rfl]
    walk_at "ss"
    refine len hb ?_
    walk_at "ss"
    refine k_rng1 (by omega) ?_
    refine k_lcRange (fun i acc H' => acc = (List.replicate i true).map V.bl) (fun _ _ => rfl) ?_ ?_
    · rintro i D acc H2 hi hD e4 hacc rfl
      have hi' : i < ds.length := by omega
      have hdi := List.getElem?_eq_getElem hi'
      obtain ⟨xi, hxi, dxi⟩ := hxs.get hdi
      obtain ⟨yi, hyi, dyi⟩ := hys.get hdi
      walk_at "ss"
      refine ⟨rfl, ?_⟩
      walk_at "ss"
      have at_ : ∀ {c : Addr} {zs : List V} {z : V} {R : VK}, (SqL Γ.K H c zs ∨ SqT Γ.K H c zs) → zs[i]? = some z → R z H2 → rIx Γ.K (.ref c) (.int (0 + (i : Int))) H2 R := fun h g q => h.elim (fun h => w_ixL (e4.seq h) (atI_of (by omega) (by rw [Int.zero_add]; exact g)) q) (fun h => w_ixT (e4.seqT h) (atI_of (by omega) (by rw [Int.zero_add]; exact g)) q)
      refine at_ ha hxi ?_
      walk_at "ss"
      refine at_ hb hyi ?_
      walk_at "ss"
      refine ⟨xi, yi, _, rfl, dxi.mono e4, dyi.mono e4, flatAll_get hfa hdi, fun H3 e5 => ?_⟩
      refine lcTurn.mk hD (e4.trans e5) (e5 _ _ hacc) (by rw [List.length_map, List.length_replicate]; omega) ?_
      rw [List.replicate_succ', List.map_append]
      rfl
    · rintro D acc H2 hD e4 hacc rfl
      walk_at "ss"
      refine w_all (SqL.of hacc) ?_
      have er : ∀ m : Nat, (List.replicate m true).all id = true := fun m => by
        induction m with
        | zero => rfl
        | succ m ih => rw [List.replicate_succ, List.all_cons, ih]; rfl
      rw [er]
      exact k H2 e4
  unfold flatN at hf
  cases d with
  | list ds =>
    rw [Bool.and_eq_true, decide_eq_true_eq] at hf
    cases hx with
    | lst gx hxs =>
      cases hy with
      | lst gy hys =>
        refine w_isi (.lst gy) (by decide) ?_
        walk_at "ss"
        refine w_isi (.lst gx) (by decide) ?_
        walk_at "ss"
        rw [show isTy H "tuple" _ = false from by simp [isTy, tyN, tyTab, gy], show isTy H "tuple" _ = false from by simp [isTy, tyN, tyTab, gx]]
        rw [decide_eq_true rfl]
        walk_at "ss"
        refine w_isi (.lst gy) (by decide) ?_
        walk_at "ss"
        refine w_isi (.lst gx) (by decide) ?_
        walk_at "ss"
        rw [show isTy H "list" _ = true from by simp [isTy, tyN, tyTab, gy], show isTy H "list" _ = true from by simp [isTy, tyN, tyTab, gx]]
        rw [decide_eq_true rfl]
        refine w_iteNT ?_
        exact main _ _ _ _ ds rfl rfl (.inl (SqL.of gx)) (.inl (SqL.of gy)) hxs hys hf.1 hf.2
  | tuple ds =>
    rw [Bool.and_eq_true, decide_eq_true_eq] at hf
    cases hx with
    | tup gx hxs =>
      cases hy with
      | tup gy hys =>
        refine w_isi (.tup gy) (by decide) ?_
        walk_at "ss"
        refine w_isi (.tup gx) (by decide) ?_
        walk_at "ss"
        rw [show isTy H "tuple" _ = true from by simp [isTy, tyN, tyTab, gy], show isTy H "tuple" _ = true from by simp [isTy, tyN, tyTab, gx]]
        rw [decide_eq_true rfl]
        walk_at "ss"
        refine w_isi (.tup gy) (by decide) ?_
        walk_at "ss"
        refine w_isi (.tup gx) (by decide) ?_
        walk_at "ss"
        rw [show isTy H "list" _ = false from by simp [isTy, tyN, tyTab, gy], show isTy H "list" _ = false from by simp [isTy, tyN, tyTab, gx]]
        rw [decide_eq_true rfl]
        refine w_iteNT ?_
        exact main _ _ _ _ ds rfl rfl (.inr (SqT.of gx)) (.inr (SqT.of gy)) hxs hys hf.1 hf.2
  | none => exact absurd rfl dn
  | bool b => simp [tyD, tyTab] at e
  | int b => simp [tyD, tyTab] at e2
  | str b => simp [tyD, tyTab] at e3
  | dict b => cases hf

/-! ### points -/
def splitOk (r : R) (a b : PyData) : Bool := inD 1 r.top a && inD 1 r.top b && decide (intD a + intD b ≤ r.top)
def sp_points (Γ : Gm) : Sp := fun vs H Q E => ∃ v r x y a b, vs = [v, x, y] ∧ RuleAt Γ H v r ∧ Dv H x a ∧ Dv H y b ∧ (splitOk r a b = false → E (.ref Γ.cBadSplit) none H) ∧ (splitOk r a b = true → ∀ H', Same H H' → Q (.int (r.pts (intD a) (intD b))) H')
theorem inD_int {lo hi : Int} {d : PyData} (h : inD lo hi d = true) : ∃ n, d = .int n ∧ lo ≤ n ∧ n ≤ hi := by
  cases d with
  | int n =>
    simp only [inD, Bool.and_eq_true, decide_eq_true_eq] at h
    exact ⟨n, rfl, h⟩
  | _ => simp [inD] at h
theorem dv_int {H : Hp} {x : V} {n : Int} (h : Dv H x (.int n)) : x = .int n := by cases h; rfl
/-- points: rule, first, second, top -/
def t_points (Γ : Gm) (E : XK) : TS := (tSeq (tAsg (tCal (sp_most_of Γ) E0 (tCons (tVar 0) tNil)) (gName 3))
  (tSeq (tIfS (tOr (tNot (tB (tCal (sp_is_from Γ) E0 (tCons (tVar 1) (tCons (tC (.int 1)) (tCons (tVar 3) tNil)))))) (tOr (tNot (tB (tCal (sp_is_from Γ) E0 (tCons (tVar 2) (tCons (tC (.int 1)) (tCons (tVar 3) tNil)))))) (tTest (tOp rGt (tOp (rAddU Γ.K) (tVar 1) (tVar 2)) (tVar 3))))) (tRaise Γ.cBadSplit (fun cls d _ H => E cls d H)) tNext)
  (tRet (tCal (sp_points_by Γ) E0 (tCons (tVar 0) (tCons (tVar 1) (tCons (tVar 2) tNil)))))))
theorem rd_points (Γ : Gm) (vs : List V) (H : Hp) (Q : VK) (E : XK) (h : sp_points Γ vs H Q E) : t_points Γ E ⟨fun _ H' => Q .non H', Q, fun _ _ => False, fun _ _ => False⟩ (startN 4 vs) H := by
  obtain ⟨v, r, x, y, a, b, rfl, hr, hx, hy, k1, k2⟩ := h
  unfold t_points
  walk_at "ss"
  refine ⟨v, r, rfl, hr, ?_⟩
  walk_at "ss"
  refine ⟨x, _, _, rfl, hx.tag, ?_⟩
  rw [hx.inR]
  walk_at "ss"
  refine w_ite (fun e => ?_) (fun e => ?_)
  · walk_at "ss"
    refine k1 ?_
    have e' : inD 1 r.top a = false := by simpa using e
    unfold splitOk
    rw [e', Bool.false_and, Bool.false_and]
  have e' : inD 1 r.top a = true := by simpa using e
  walk_at "ss"
  refine ⟨y, _, _, rfl, hy.tag, ?_⟩
  rw [hy.inR]
  walk_at "ss"
  refine w_ite (fun e2 => ?_) (fun e2 => ?_)
  · walk_at "ss"
    refine k1 ?_
    have e2' : inD 1 r.top b = false := by simpa using e2
    unfold splitOk
    rw [e2', Bool.and_false, Bool.false_and]
  have e2' : inD 1 r.top b = true := by simpa using e2
  obtain ⟨m, rfl, m1, m2⟩ := inD_int e'
  obtain ⟨n, rfl, n1, n2⟩ := inD_int e2'
  have ex := dv_int hx
  have ey := dv_int hy
  subst ex ey
  walk_at "ss"
  refine w_ite (fun e3 => ?_) (fun e3 => ?_)
  · walk_at "ss"
    refine k1 ?_
    unfold splitOk
    rw [Bool.and_eq_false_iff]
    right
    have := of_decide_eq_true e3
    exact decide_eq_false (show ¬ (m + n ≤ r.top) by omega)
  · have h3 := of_decide_eq_false e3
    walk_at "ss"
    refine ⟨v, r, m, n, rfl, hr, m1, n1, by omega, ?_⟩
    refine k2 ?_
    unfold splitOk
    rw [e', e2']
    show (true && true && decide (m + n ≤ r.top)) = true
    rw [decide_eq_true (by omega)]
    rfl
/-! ### the law's own points -/
def sp__law_points (Γ : Gm) : Sp := fun vs H Q _ => ∃ v r a b, vs = [v, .int a, .int b] ∧ RuleAt Γ H v r ∧ 1 ≤ a ∧ 1 ≤ b ∧ a + b ≤ r.top ∧ Q (.int (r.pts a b)) H
/-- law_points: _law_rule_here, _law_one, _law_other, _law_found, _law_number, _law_i, _law_j, _law_k -/
def t__law_points (Γ : Gm) : TS := (tSeq (tIfS (tTest (tOp (rEqU Γ.K) (tPrp Γ.cRule "form" (tVar 0)) (tC (.str "table")))) (tRet (tOp (rIx Γ.K) (tOp (rIx Γ.K) (tPrp Γ.cRule "body" (tVar 0)) (tOp rSubI (tVar 1) (tC (.int 1)))) (tOp rSubI (tVar 2) (tC (.int 1))))) tNext)
  (tSeq (tAsg (tC (.int 0)) (gName 3))
  (tSeq (tFor (iSeq Γ.K (tPrp Γ.cRule "body" (tVar 0))) (gTup Γ.K 3 (gCons (gName 4) (gCons (gName 5) (gCons (gName 6) gNil)))) (tSeq (tFor (iRng1 (tCons (tVar 5) tNil)) (gName 7) (tAsg (tOp (rMulU Γ.K) (tVar 4) (tVar 1)) (gName 4)))
  (tSeq (tFor (iRng1 (tCons (tVar 6) tNil)) (gName 7) (tAsg (tOp (rMulU Γ.K) (tVar 4) (tVar 2)) (gName 4)))
  (tAsg (tOp (rAddU Γ.K) (tVar 3) (tVar 4)) (gName 3)))))
  (tRet (tVar 3)))))
theorem rd__law_points (Γ : Gm) (vs : List V) (H : Hp) (Q : VK) (E : XK) (h : sp__law_points Γ vs H Q E) : t__law_points Γ ⟨fun _ H' => Q .non H', Q, fun _ _ => False, fun _ _ => False⟩ (startN 8 vs) H := by
  obtain ⟨v, r, a, b, rfl, hr, ha, hb, hs, q⟩ := h
  unfold t__law_points
  walk_at "ss"
  refine k_kind hr ?_
  walk_at "ss"
  rw [kind_tab]
  have hok : r.ok := by obtain ⟨_, _, _, _, _, _, h⟩ := hr; exact h
  cases r with
  | tab rows =>
    refine w_iteT ?_
    walk_at "ss"
    refine k_parts hr fun bb xs hx ht => ?_
    obtain ⟨row, e1, e2⟩ := tab_at hok ha hb hs
    obtain ⟨a', ys, z1, z2, z3⟩ := ht.inv
    cases z1
    rw [hx] at z2
    cases z2
    obtain ⟨w, hw, tw⟩ := z3.get (i := (a - 1).toNat) (d := .tuple (row.map PyData.int)) (by rw [List.getElem?_map, e1]; rfl)
    obtain ⟨c, zs, rfl, hc, tc⟩ := tw.inv
    walk_at "ss"
    refine w_ixT (SqT.of hx) (atI_of (by omega) hw) ?_
    walk_at "ss"
    have ez := tc.ints
    subst ez
    refine w_ixT (SqT.of hc) (atI_of (by omega) (by rw [List.getElem?_map, e2]; rfl)) ?_
    exact q
  | trm ts =>
    refine w_iteF ?_
    walk_at "ss"
    refine k_parts hr fun bb xs hx ht => ?_
    obtain ⟨a', ys, z1, z2, z3⟩ := ht.inv
    cases z1
    rw [hx] at z2
    cases z2
    refine k_seqT (SqT.of hx) ?_
    have hlen : xs.length = ts.length := by rw [z3.length, List.length_map]
    refine k_tup (xs := xs) (fun i σ H' => ∃ x4 x5 x6 x7, σ = [some v, some (.int a), some (.int b), some (.int ((ts.take i).map (tval a b)).sum), x4, x5, x6, x7] ∧ H' = H) ⟨none, none, none, none, rfl, rfl⟩ (fun i σ H' _ ⟨_, _, _, _, _, e⟩ => by rw [e]; exact SqT.of hx) ?_ ?_
    · rintro i x σ H' hi ⟨x4, x5, x6, x7, rfl, rfl⟩
      obtain ⟨d, hd, tx⟩ := z3.get' hi
      rw [List.getElem?_map] at hd
      obtain ⟨t, ht', rfl⟩ := Option.map_eq_some_iff.mp hd
      obtain ⟨c, zs, rfl, hc, tc⟩ := tx.inv
      have ez := tc.ints
      subst ez
      obtain ⟨n, i1, j1⟩ := t
      refine w_gTup (xs := [V.int n, V.int i1, V.int j1]) (SqT.of hc) rfl ?_
      walk_at "ss"
      obtain ⟨hl6, hb6⟩ := hok
      have hm := hb6 _ (List.mem_of_getElem? ht')
      dsimp only at hm
      have top : a + b ≤ 1000000000000000000000000000000 := hs
      have ba : a.natAbs ≤ 2 ^ 100 := by omega
      have bb' : b.natAbs ≤ 2 ^ 100 := by omega
      have n1 : n.natAbs ≤ 2 ^ 20 := by omega
      refine k_rng1 (by omega) ?_
      refine k_range (fun k σ H1 => ∃ x7, σ = [some v, some (.int a), some (.int b), some (.int ((ts.take i).map (tval a b)).sum), some (.int (n * a ^ k)), some (.int i1), some (.int j1), x7] ∧ H1 = H') ⟨x7, by rw [Int.pow_zero, Int.mul_one]; rfl, rfl⟩ ?_ ?_
      · rintro k σ H1 hk ⟨x7', rfl, rfl⟩
        have hk' : k < i1 := by simpa using hk
        have k1 : 100 * k ≤ 100 * 4 := Nat.mul_le_mul_left _ (by omega)
        walk_at "ss"
        refine w_mulI (cmul_of (mul_nat n1 (pow_nat ba)) ba) ?_
        walk_at "ss"
        exact ⟨_, by rw [Int.pow_succ, ← Int.mul_assoc]; rfl, rfl⟩
      · rintro σ H1 ⟨x7', rfl, rfl⟩
        walk_at "ss"
        refine k_rng1 (by omega) ?_
        have ei : (i1 : Int).toNat = i1 := Int.toNat_natCast i1
        rw [ei]
        refine k_range (fun k σ H2 => ∃ x7, σ = [some v, some (.int a), some (.int b), some (.int ((ts.take i).map (tval a b)).sum), some (.int (n * a ^ i1 * b ^ k)), some (.int i1), some (.int j1), x7] ∧ H2 = H1) ⟨x7', by rw [Int.pow_zero, Int.mul_one], rfl⟩ ?_ ?_
        · rintro k σ H2 hk ⟨x7'', rfl, rfl⟩
          have hk' : k < j1 := by simpa using hk
          have k1 : 100 * k ≤ 100 * 4 := Nat.mul_le_mul_left _ (by omega)
          have k2 : 100 * i1 ≤ 100 * 4 := Nat.mul_le_mul_left _ (by omega)
          walk_at "ss"
          refine w_mulI (cmul_of (mul_nat (mul_nat n1 (pow_nat ba)) (pow_nat bb')) bb') ?_
          walk_at "ss"
          exact ⟨_, by rw [Int.pow_succ, ← Int.mul_assoc]; rfl, rfl⟩
        · rintro σ H2 ⟨x7'', rfl, rfl⟩
          have ej : (j1 : Int).toNat = j1 := Int.toNat_natCast j1
          rw [ej]
          walk_at "ss"
          have es : ((ts.take (i + 1)).map (tval a b)).sum = ((ts.take i).map (tval a b)).sum + n * a ^ i1 * b ^ j1 := by
            rw [take_succ ht', List.map_append, List.sum_append]
            simp only [List.map_cons, List.map_nil, List.sum_cons, List.sum_nil, Int.add_zero, tval]
          rw [es]
          exact ⟨_, _, _, _, rfl, rfl⟩
    · rintro σ H' ⟨x4, x5, x6, x7, rfl, rfl⟩
      rw [hlen, List.take_length]
      walk_at "ss"
      exact q
/-! ### a law's promise -/
def spLaw (K : PySem.W.Frag) : Sp := fun vs H Q _ => ∃ (a : Addr) (ns : List Int), vs = [.ref a] ∧ SqL K H a (ns.map V.int) ∧ ns.length ≤ 63 ∧ ∀ H', Q (.bl true) H'
theorem mem_of {xs : List V} {ds : List PyData} {H : Hp} {i : Nat} {x : V} (t : TpAll H xs ds) (h : xs[i]? = some x) : ∃ d ∈ ds, Tp H x d := by
  obtain ⟨d, hd, td⟩ := t.get' h
  exact ⟨d, List.mem_of_getElem? hd, td⟩
theorem topm_top {r : R} (ok : r.ok) : r.topm 1000000000000000000000000000000 = r.top := by
  cases r with
  | tab rows =>
    obtain ⟨_, h, _⟩ := ok
    simp only [R.topm, R.top]
    rw [if_pos (by omega)]
  | trm ts => rfl
theorem RuleAt.ok {Γ : Gm} {H : Hp} {v : V} {r : R} (h : RuleAt Γ H v r) : r.ok := by obtain ⟨_, _, _, _, _, _, h⟩ := h; exact h
theorem top_ge {r : R} (ok : r.ok) : 2 ≤ r.top ∧ r.top ≤ 1000000000000000000000000000000 := by
  cases r with
  | tab rows =>
    obtain ⟨h1, h, _⟩ := ok
    have : (R.tab rows).top = (rows.length : Int) + 1 := rfl
    omega
  | trm ts => exact (by decide : (2 : Int) ≤ 1000000000000000000000000000000 ∧ (1000000000000000000000000000000 : Int) ≤ 1000000000000000000000000000000)
theorem w_min {K : PySem.W.Frag} {H : Hp} {Q : VK} {a : Addr} {ns : List Int} (h : H a = some (.lst (ns.map V.int))) (h0 : 0 < ns.length) (k : ∀ m, m ∈ ns → (∀ y, y ∈ ns → m ≤ y) → Q (.int m) H) : rMin K [.ref a] H Q := ⟨a, ns, rfl, SqL.of h, h0, k⟩
theorem w_max {K : PySem.W.Frag} {H : Hp} {Q : VK} {a : Addr} {ns : List Int} (h : H a = some (.lst (ns.map V.int))) (h0 : 0 < ns.length) (k : ∀ m, m ∈ ns → (∀ y, y ∈ ns → y ≤ m) → Q (.int m) H) : rMax K [.ref a] H Q := ⟨a, ns, rfl, SqL.of h, h0, k⟩
theorem w_equal {Γ : Gm} {H : Hp} {Q : VK} {x y : V} {d : PyData} {E : XK} (hx : Dv H x d) (hy : Dv H y d) (hf : flatN 45 d = true) (k : ∀ H', Same H H' → Q (.bl true) H') : sp__law_equal Γ [x, y] H Q E := ⟨x, y, d, rfl, hx, hy, hf, k⟩

/-! ### len of an instance of an own class -/
def rLenO (C : Addr) (sp : Sp) (xs : List V) (H : Hp) (Q : VK) : Prop := ∃ a dx fs, xs = [.ref a] ∧ H a = some (.ins C dx fs) ∧ sp [.ref a] H (fun v H' => ∃ n : Int, v = .int n ∧ 0 ≤ n ∧ n < 2 ^ 63 ∧ Q (.int n) H') E0
theorem call_lenO {X : Cx} {C : Addr} {k : Nat} {ps : List Str} {sp : Sp} (c : CalM X.prog X.w X.K X.mg X.base CX0 C "__len__" k ps sp) (hr : Room (k + 1) X.A) : CallR X (.builtin "len") (rLenO C sp) := by
  obtain ⟨f, fd, F, hm, hb⟩ := c.ex
  intro pins s σ H xs us Q I rv h
  obtain ⟨a, dx, fs, rfl, ha, q⟩ := h
  obtain _ | ⟨r, rs⟩ := rv
  cases rs
  cases r
  refine wpAny_call (codeAny_call_builtin (b := PySem.Builtin.len) (by decide) entry_len ?_)
  show wpAny _ _ (pure ()) _ _ _
  refine wpAny_pure ?_
  have hi : ∃ ox od, PySem.W.InstAt s.heap a ox C od := by
    have z := I.hok a _ ha
    simp only [L2.ObjOk] at z
    obtain ⟨_, _, _, z1, mA, z2, _⟩ := z
    obtain ⟨od, hod⟩ : ∃ od, s.heap.get? dx = some od := by
      obtain ⟨o, _, _, e, _⟩ := z2
      exact ⟨o, e⟩
    exact ⟨_, some od, z1, rfl, rfl, hod⟩
  obtain ⟨ox, od, hi⟩ := hi
  show wpAny _ _ (callSpecial? (Value.ref a) "__len__" >>= _) _ _ _
  refine wpAny_bind (PySem.W.special_fn I.kIn hi hm.at_ (beq_iff_eq.mp hm.fn) ?_)
  have hl : (Value.ref a :: ([] : List Value)).length = ps.length := (F.len _ _ _ _ q).symm ▸ rfl
  have hbb := hb _ [Value.ref a] I.kIn hl
  rw [List.append_nil] at hbb
  refine wpAny_call (codeAny_mono (F.run _ X.stack _ _ ⟨[Value.ref a], []⟩ [Value.ref a] [.ref a] _ E0 hr.in1 I.env0.in1 hbb (Paired.cons (show L2.RelV (.ref a) (.ref a) from rfl) .nil) q) fun r s' hq' => ?_)
  cases r with
  | error e => exact False.elim hq'
  | ok fl =>
    cases fl with
    | ret u =>
      obtain ⟨v, H', I3, rv, n, rfl, h1, h2, q3⟩ := I.after hq'
      obtain ⟨t, rfl⟩ := rv
      show wpAny _ _ (holding [_] _ >>= _) _ _ _
      refine wpAny_bind (wpAny_holding ?_)
      refine wpAny_bind (wpAny_pure ?_)
      show wpAny _ _ (pure n) _ _ _
      refine wpAny_pure ?_
      refine wpAny_bind (wpAny_letGo ?_)
      show wpAny _ _ (if n < 0 then _ else (if n ≥ 2 ^ 63 then _ else retInt n)) _ _ _
      rw [if_neg (by omega), if_neg (by omega)]
      refine wpAny_bind (wpAny_mkInt ?_)
      show wpAny _ _ (pure _) _ _ _
      refine wpAny_pure ?_
      exact ⟨.int n, H', I3.tok _, ⟨_, rfl⟩, q3⟩
    | next => exact False.elim hq'
    | brk => exact False.elim hq'
    | cont => exact False.elim hq'
/-! ### a property whose getter is any def -/
structure CalQ (P : Program) (w : World) (K : PySem.W.Frag) (mg : Str → Option Value) (base : Heap) (C : Addr) (f : Str) (k : Nat) (sp : Sp) : Prop where
  cls : Cls K C
  ex : ∃ (p g : Addr) (fd : FuncData), PropOf K C f p g ∧ FnOk P w K mg base CX0 k g fd ["self"] sp ∧ Binds K fd ["self"] []
def kPrs (C : Addr) (sp : Sp) (x : V) (H : Hp) (Q : VK) : Prop := ∃ a dx fs, x = .ref a ∧ H a = some (.ins C dx fs) ∧ sp [.ref a] H Q E0
def tPrs (C : Addr) (sp : Sp) (ta : TE) : TE := fun σ H Q => ta σ H fun x H1 => kPrs C sp x H1 Q
theorem pe_prs {X : Cx} {C : Addr} {f : Str} {sp : Sp} {k : Nat} {e : Expr} {ta : TE} {pos : Pos} (c : CalQ X.prog X.w X.K X.mg X.base C f k sp) (hr : Room (k + 1) X.A) (he : PE X e ta)
    (hab : attributeBase e f X.env (eval e X.env) = eval e X.env) : PE X (.Attribute e f pos) (tPrs C sp ta) := by
  obtain ⟨p, g, fd, hp, F, hb⟩ := c.ex
  exact pe_prop (pos := pos) (E := E0) he c.cls hp F hr hb .nil pass0 hab
theorem w_prs {σ : St} {H : Hp} {Q : VK} {ta : TE} {C : Addr} {sp : Sp} (h : ta σ H fun x H1 => kPrs C sp x H1 Q) : tPrs C sp ta σ H Q := h
theorem w_star {σ : St} {H : Hp} {QA : List V → Hp → Prop} {K : PySem.W.Frag} {te : TE} {tr : TA} (h : te σ H fun x H1 => ∃ p xs, x = .ref p ∧ (SqT K H1 p xs ∨ SqL K H1 p xs) ∧ tr σ H1 fun ys H2 => QA (xs ++ ys) H2) : StX.tStar K te tr σ H QA := h
theorem w_metS {σ : St} {H : Hp} {Q : VK} {C : Addr} {m : Str} {sp : Sp} {E : St → XK} {ta : TE} {t : TA} (h : ta σ H fun x H1 => ∃ a dx fs, x = .ref a ∧ H1 a = some (.ins C dx fs) ∧ fs.lookup m = none ∧ t σ H1 fun vs H2 => sp (x :: vs) H2 Q (E σ)) : tMetS C m sp E ta t σ H Q := h
/-! ### slices of tuples -/
def cutD (ds : List PyData) (lo hi : Option Int) : List PyData := List.take (HT.sIx ds.length ds.length hi - HT.sIx ds.length 0 lo) (List.drop (HT.sIx ds.length 0 lo) ds)
theorem TpAll.take {H : Hp} : ∀ (n : Nat) {vs : List V} {ds : List PyData}, TpAll H vs ds → TpAll H (vs.take n) (ds.take n)
  | 0, _, _, _ => .nil
  | _ + 1, _, _, .nil => .nil
  | n + 1, _, _, .cons h k => .cons h (TpAll.take n k)
theorem TpAll.drop {H : Hp} : ∀ (n : Nat) {vs : List V} {ds : List PyData}, TpAll H vs ds → TpAll H (vs.drop n) (ds.drop n)
  | 0, _, _, h => h
  | _ + 1, _, _, .nil => .nil
  | n + 1, _, _, .cons _ k => TpAll.drop n k
theorem w_slT {K : PySem.W.Frag} {H : Hp} {Q : VK} {v : V} {ds : List PyData} {lo hi : Option Int} (hv : Tp H v (.tuple ds)) (h : ∀ u H', Same H H' → Tp H' u (.tuple (cutD ds lo hi)) → Q u H') : rSlU K v lo hi H Q := by
  obtain ⟨a, xs, rfl, ha, ta⟩ := hv.inv
  have el := ta.length
  refine .inr (.inl ⟨a, xs, rfl, SqT.of ha, ?_, ?_⟩)
  · rintro ⟨z1, z2⟩
    have := h (.ref a) H (Same.refl H)
    unfold cutD at this
    rw [← el, z1, z2, Nat.sub_zero, List.drop_zero, List.take_of_length_le (by rw [el]; exact Nat.le_refl _)] at this
    exact this hv
  · intro z p hp
    have e := Same.new (o := .tup (cutV xs lo hi)) hp
    refine h _ _ e (.tup upd_same ?_)
    unfold cutV cutD
    rw [← el]
    exact ((ta.drop _).take _).mono (Same.tups e)
theorem cutD_to {ds : List PyData} {i : Nat} : cutD ds none (some (i : Int)) = ds.take i := by
  unfold cutD HT.sIx
  simp only [Nat.sub_zero, List.drop_zero]
  rw [if_neg (by omega), Int.toNat_natCast]
  by_cases h : i ≤ ds.length
  · rw [Nat.min_eq_left h]
  · rw [Nat.min_eq_right (by omega), List.take_of_length_le (Nat.le_refl _), List.take_of_length_le (by omega)]
theorem cutD_from {ds : List PyData} {i : Nat} : cutD ds (some (i : Int)) none = ds.drop i := by
  unfold cutD HT.sIx
  simp only
  rw [if_neg (by omega), Int.toNat_natCast]
  by_cases h : i ≤ ds.length
  · rw [Nat.min_eq_left h, List.take_of_length_le (by rw [List.length_drop]; exact Nat.le_refl _)]
  · rw [Nat.min_eq_right (by omega), Nat.sub_self, List.take_zero, List.drop_of_length_le (by omega)]
theorem cutD_last {ds : List PyData} {i : Nat} : cutD ds none (some (-((i : Int) + 1))) = ds.take (ds.length - (i + 1)) := by
  unfold cutD HT.sIx
  simp only [Nat.sub_zero, List.drop_zero]
  rw [if_pos (by omega)]
  congr 1
  omega
theorem w_ifY {b : Bool} {A B : Prop} (h : b = true) (k : A) : if b = true then A else B := by rw [if_pos h]; exact k
theorem w_ifN {b : Bool} {A B : Prop} (h : b = false) (k : B) : if b = true then A else B := by rw [if_neg (by rw [h]; decide)]; exact k
theorem inD_yes {lo hi n : Int} (h1 : lo ≤ n) (h2 : n ≤ hi) : inD lo hi (.int n) = true := by
  show (decide (lo ≤ n) && decide (n ≤ hi)) = true
  rw [decide_eq_true h1, decide_eq_true h2]
  rfl
theorem w_dnewK {σ : St} {H : Hp} {Q : VK} (h : ∀ p H', H p = none → Same H H' → H' p = some (.dK []) → Q (.ref p) H') : tDNewK σ H Q := alloc h

/-! ### == of data -/
mutual
theorem Dv.dp {K : PySem.W.Frag} {H : Hp} : ∀ {n : Nat} {v : V} {d : PyData}, flatN n d = true → Dv H v d → Dp K H v d
  | 0, _, _, h, _ => by unfold flatN at h; cases h
  | n + 1, _, _, _, .non => .non
  | n + 1, _, _, _, .bl b => .bl b
  | n + 1, _, _, _, .int i => .int i
  | n + 1, _, _, _, .str x => .str x
  | n + 1, _, _, h, .lst g k => .lst (SqL.of g) (DvAll.dp (n := n) (by unfold flatN at h; exact (Bool.and_eq_true_iff.mp h).2) k)
  | n + 1, _, _, h, .tup g k => .tup (SqT.of g) (DvAll.dp (n := n) (by unfold flatN at h; exact (Bool.and_eq_true_iff.mp h).2) k)
  | n + 1, _, _, h, .dict g => by unfold flatN at h; cases h
theorem DvAll.dp {K : PySem.W.Frag} {H : Hp} : ∀ {n : Nat} {vs : List V} {ds : List PyData}, flatAll n ds = true → DvAll H vs ds → DpAll K H vs ds
  | _, _, _, _, .nil => .nil
  | n, _, _, h, .cons g k => by
    unfold flatAll at h
    have h' := Bool.and_eq_true_iff.mp h
    exact .cons (Dv.dp (n := n) h'.1 g) (DvAll.dp (n := n) h'.2 k)
end
/-! no strings but short ones, no truth values: what is compared in the laws -/
mutual
def pureD : PyData → Bool
  | .none => true
  | .bool _ => false
  | .int _ => true
  | .str x => PySem.PyData.strOk x
  | .list ds => pureAll ds
  | .tuple ds => pureAll ds
  | .dict _ => false
def pureAll : List PyData → Bool
  | [] => true
  | d :: ds => pureD d && pureAll ds
end
mutual
theorem pure_lay : ∀ {d : PyData}, pureD d = true → d.canLay0 = true
  | .none, _ => by unfold PyData.canLay0; rfl
  | .bool _, h => by unfold pureD at h; cases h
  | .int _, _ => by unfold PyData.canLay0; rfl
  | .str x, h => by unfold pureD at h; unfold PyData.canLay0; exact h
  | .list ds, h => by unfold pureD at h; unfold PyData.canLay0; exact pure_layAll h
  | .tuple ds, h => by unfold pureD at h; unfold PyData.canLay0; exact pure_layAll h
  | .dict _, h => by unfold pureD at h; cases h
theorem pure_layAll : ∀ {ds : List PyData}, pureAll ds = true → PyData.canLayAll0 ds = true
  | [], _ => by unfold PyData.canLayAll0; rfl
  | d :: ds, h => by
    unfold pureAll at h
    have h' := Bool.and_eq_true_iff.mp h
    unfold PyData.canLayAll0
    rw [pure_lay h'.1, pure_layAll h'.2]
    rfl
end
mutual
theorem eqv_pure : ∀ {d e : PyData}, pureD d = true → pureD e = true → PyData.eqv d e = true → d = e
  | .none, e, _, he, h => by cases e <;> simp [PyData.eqv] at h ⊢
  | .bool _, _, h, _, _ => by unfold pureD at h; cases h
  | .int i, e, _, he, h => by
    cases e with
    | int j => simp [PyData.eqv] at h; rw [h]
    | bool b => unfold pureD at he; cases he
    | _ => simp [PyData.eqv] at h
  | .str x, e, _, he, h => by cases e <;> simp [PyData.eqv] at h ⊢; exact h
  | .list ds, e, hd, he, h => by
    cases e with
    | list es =>
      unfold pureD at hd he
      rw [PyData.eqv] at h
      rw [eqv_pureAll hd he h]
    | _ => simp [PyData.eqv] at h
  | .tuple ds, e, hd, he, h => by
    cases e with
    | tuple es =>
      unfold pureD at hd he
      rw [PyData.eqv] at h
      rw [eqv_pureAll hd he h]
    | _ => simp [PyData.eqv] at h
  | .dict _, _, h, _, _ => by unfold pureD at h; cases h
theorem eqv_pureAll : ∀ {ds es : List PyData}, pureAll ds = true → pureAll es = true → PyData.eqvAll ds es = true → ds = es
  | [], [], _, _, _ => rfl
  | [], _ :: _, _, _, h => by simp [PyData.eqvAll] at h
  | _ :: _, [], _, _, h => by simp [PyData.eqvAll] at h
  | d :: ds, e :: es, hd, he, h => by
    unfold pureAll at hd he
    rw [PyData.eqvAll] at h
    have h1 := Bool.and_eq_true_iff.mp hd
    have h2 := Bool.and_eq_true_iff.mp he
    have h3 := Bool.and_eq_true_iff.mp h
    rw [eqv_pure h1.1 h2.1 h3.1, eqv_pureAll h1.2 h2.2 h3.2]
end
theorem eqv_dec {d e : PyData} [dec : Decidable (d = e)] (hd : pureD d = true) (he : pureD e = true) : PyData.eqv d e = decide (d = e) := by
  by_cases h : d = e
  · subst h
    rw [decide_eq_true rfl]
    exact SeqAt.eqv_refl d (pure_lay hd)
  · rw [decide_eq_false h]
    cases hb : PyData.eqv d e with
    | false => rfl
    | true => exact absurd (eqv_pure hd he hb) h
mutual
theorem flat_depth : ∀ {n : Nat} {d : PyData}, flatN n d = true → d.depth ≤ n
  | 0, _, h => by unfold flatN at h; cases h
  | n + 1, .none, _ => by simp [PyData.depth]
  | n + 1, .bool _, _ => by simp [PyData.depth]
  | n + 1, .int _, _ => by simp [PyData.depth]
  | n + 1, .str _, _ => by simp [PyData.depth]
  | n + 1, .list ds, h => by
    unfold flatN at h
    have := flat_depthAll (Bool.and_eq_true_iff.mp h).2
    simp only [PyData.depth]; omega
  | n + 1, .tuple ds, h => by
    unfold flatN at h
    have := flat_depthAll (Bool.and_eq_true_iff.mp h).2
    simp only [PyData.depth]; omega
  | n + 1, .dict _, h => by unfold flatN at h; cases h
theorem flat_depthAll : ∀ {n : Nat} {ds : List PyData}, flatAll n ds = true → PyData.depthAll ds ≤ n
  | n, [], _ => by simp [PyData.depthAll]
  | n, d :: ds, h => by
    unfold flatAll at h
    have h' := Bool.and_eq_true_iff.mp h
    have h1 := flat_depth h'.1
    have h2 := flat_depthAll h'.2
    simp only [PyData.depthAll]; omega
end
theorem shaped_of {d : PyData} (h : flatN 45 d = true) (hp : pureD d = true) : SeqAt.shaped d = true := by
  unfold SeqAt.shaped
  rw [pure_lay hp, decide_eq_true (Nat.le_trans (flat_depth h) (by decide))]
  rfl
theorem w_eqD {K : PySem.W.Frag} {H : Hp} {Q : VK} {x y : V} {d e : PyData} [dec : Decidable (d = e)] (hx : Dv H x d) (hy : Dv H y e) (fd : flatN 45 d = true) (fe : flatN 45 e = true) (pd : pureD d = true) (pe : pureD e = true) (q : Q (.bl (decide (d = e))) H) : rEqU K x y H Q :=
  .inr ⟨d, e, hx.dp fd, hy.dp fe, shaped_of fd pd, shaped_of fe pe, by rw [eqv_dec pd pe]; exact q⟩
theorem w_neD {K : PySem.W.Frag} {H : Hp} {Q : VK} {x y : V} {d e : PyData} [dec : Decidable (d = e)] (hx : Dv H x d) (hy : Dv H y e) (fd : flatN 45 d = true) (fe : flatN 45 e = true) (pd : pureD d = true) (pe : pureD e = true) (q : Q (.bl (!decide (d = e))) H) : rNeU K x y H Q :=
  .inr ⟨d, e, hx.dp fd, hy.dp fe, shaped_of fd pd, shaped_of fe pe, by rw [eqv_dec pd pe]; exact q⟩
/-! lists of ints -/
theorem pure_ints : ∀ ns : List Int, pureAll (ns.map PyData.int) = true
  | [] => by unfold pureAll; rfl
  | n :: ns => by rw [List.map_cons]; unfold pureAll pureD; rw [pure_ints ns]; rfl
theorem flat_intsN {n : Nat} : ∀ ns : List Int, flatAll (n + 1) (ns.map PyData.int) = true
  | [] => by unfold flatAll; rfl
  | m :: ns => by rw [List.map_cons]; unfold flatAll flatN; rw [flat_intsN ns]; rfl
theorem flat_listI {ns : List Int} (h : ns.length ≤ 100000) : flatN 45 (.list (ns.map PyData.int)) = true := by
  unfold flatN
  rw [flat_intsN, List.length_map, decide_eq_true h]
  rfl
theorem flat_tupI {ns : List Int} (h : ns.length ≤ 100000) : flatN 45 (.tuple (ns.map PyData.int)) = true := by
  unfold flatN
  rw [flat_intsN, List.length_map, decide_eq_true h]
  rfl
theorem pure_listI (ns : List Int) : pureD (.list (ns.map PyData.int)) = true := by unfold pureD; exact pure_ints ns
theorem pure_tupI (ns : List Int) : pureD (.tuple (ns.map PyData.int)) = true := by unfold pureD; exact pure_ints ns
theorem map_int_inj {ns ms : List Int} (h : ns.map PyData.int = ms.map PyData.int) : ns = ms := by
  induction ns generalizing ms with
  | nil => cases ms with
    | nil => rfl
    | cons _ _ => cases h
  | cons a ns ih => cases ms with
    | nil => cases h
    | cons b ms =>
      rw [List.map_cons, List.map_cons] at h
      injection h with h1 h2
      injection h1 with h1
      rw [h1, ih h2]
theorem w_eqLI {K : PySem.W.Frag} {H : Hp} {Q : VK} {a b : Addr} {ns ms : List Int} (ha : H a = some (.lst (ns.map V.int))) (hb : H b = some (.lst (ms.map V.int))) (h1 : ns.length ≤ 100000) (h2 : ms.length ≤ 100000) (q : Q (.bl (decide (ns = ms))) H) : rEqU K (.ref a) (.ref b) H Q := by
  have dec : Decidable (PyData.list (ns.map PyData.int) = .list (ms.map PyData.int)) := Classical.propDecidable _
  refine w_eqD (dec := dec) (.lst ha ((TpAll.of_ints H ns).dv)) (.lst hb ((TpAll.of_ints H ms).dv)) (flat_listI h1) (flat_listI h2) (pure_listI _) (pure_listI _) ?_
  have e : decide (PyData.list (ns.map PyData.int) = .list (ms.map PyData.int)) = decide (ns = ms) := by
    rw [decide_eq_decide]
    exact ⟨fun z => by injection z with z; exact map_int_inj z, fun z => by rw [z]⟩
  rw [e]
  exact q
theorem w_neLI {K : PySem.W.Frag} {H : Hp} {Q : VK} {a b : Addr} {ns ms : List Int} (ha : H a = some (.lst (ns.map V.int))) (hb : H b = some (.lst (ms.map V.int))) (h1 : ns.length ≤ 100000) (h2 : ms.length ≤ 100000) (q : Q (.bl (!decide (ns = ms))) H) : rNeU K (.ref a) (.ref b) H Q := by
  have dec : Decidable (PyData.list (ns.map PyData.int) = .list (ms.map PyData.int)) := Classical.propDecidable _
  refine w_neD (dec := dec) (.lst ha ((TpAll.of_ints H ns).dv)) (.lst hb ((TpAll.of_ints H ms).dv)) (flat_listI h1) (flat_listI h2) (pure_listI _) (pure_listI _) ?_
  have e : decide (PyData.list (ns.map PyData.int) = .list (ms.map PyData.int)) = decide (ns = ms) := by
    rw [decide_eq_decide]
    exact ⟨fun z => by injection z with z; exact map_int_inj z, fun z => by rw [z]⟩
  rw [e]
  exact q
/-! ### isinstance of a tuple of classes -/
theorem kitAny_ty {K : PySem.W.Frag} {a : String} : ∀ (ns : List String), (∀ n ∈ ns, n ∈ tyNames) → a ∈ ["NoneType", "int", "bool", "str", "tuple", "list", "dict"] → PySem.W.kitAny K (.type a) (ns.map Value.type) = some (ns.any fun n => tyTab a n)
  | [], _, _ => kitAny_nil
  | n :: ns, h, m => by
    have e := kit_ty (K := K) (tyTab_all a m n (h n (List.mem_cons_self ..)))
    have ih := kitAny_ty (K := K) ns (fun x hx => h x (List.mem_cons_of_mem _ hx)) m
    rw [List.map_cons, List.any_cons]
    cases hb : tyTab a n with
    | true => exact kitAny_cons (b := true) (by rw [e, hb]) (fun z => nomatch z) (fun _ => rfl)
    | false => exact kitAny_cons (b := false) (by rw [e, hb]) (fun _ => ih) (fun z => nomatch z)
theorem paired_ty : ∀ ns : List String, Paired ClsV (ns.map V.ty) (ns.map Value.type)
  | [] => .nil
  | n :: ns => .cons (.ty n) (paired_ty ns)
theorem w_isiT {K : PySem.W.Frag} {H : Hp} {v : V} {tp : Addr} {ns : List String} {Q : VK} (h : Tag K H v) (ht : H tp = some (.tup (ns.map V.ty))) (hn : ∀ n ∈ ns, n ∈ tyNames) (q : Q (.bl (ns.any fun n => isTy H n v)) H) : rIsiT K [v, .ref tp] H Q := by
  have key : ∀ (a : String), TyX K H v (.type a) → tyN H v = a → a ∈ ["NoneType", "int", "bool", "str", "tuple", "list", "dict"] → rIsiT K [v, .ref tp] H Q := fun a t e m =>
    ⟨v, tp, _, .type a, _, _, rfl, ht, paired_ty ns, t, kitAny_ty ns hn m, by unfold isTy at q; rw [e] at q; exact q⟩
  cases h with
  | non => exact key "NoneType" (.base .non) rfl (by decide)
  | bl b => exact key "bool" (.base (.bl b)) rfl (by decide)
  | int i => exact key "int" (.base (.int i)) rfl (by decide)
  | str x => exact key "str" (.base (.str x)) rfl (by decide)
  | lst h => exact key "list" (.base (.lst h)) (by simp only [tyN, h]) (by decide)
  | tup h => exact key "tuple" (.base (.tup h)) (by simp only [tyN, h]) (by decide)
  | dK h => exact key "dict" (.base (.dK h)) (by simp only [tyN, h]) (by decide)
theorem w_slL {K : PySem.W.Frag} {H : Hp} {Q : VK} {a : Addr} {xs : List V} {lo hi : Option Int} (ha : H a = some (.lst xs)) (h : ∀ p H', H p = none → Same H H' → H' p = some (.lst (cutV xs lo hi)) → Q (.ref p) H') : rSlU K (.ref a) lo hi H Q := .inl ⟨a, xs, rfl, SqL.of ha, alloc h⟩
/-! ### the law's top -/
theorem R.tle {r : R} (ok : r.ok) {m : Int} (h : 2 ≤ m) (h2 : m ≤ 1000000000000000000000000000000) : 2 ≤ r.topm m ∧ r.topm m ≤ m ∧ r.topm m ≤ r.top := by
  cases r with
  | tab rows =>
    obtain ⟨h1, _, _⟩ := ok
    simp only [R.topm, R.top]
    split <;> omega
  | trm ts => exact ⟨h, Int.le_refl _, h2⟩

/-! ### exceptions with an own __init__ -/
structure CalE (P : Program) (w : World) (K : PySem.W.Frag) (mg : Str → Option Value) (base : Heap) (C : Addr) (x : Str) (k : Nat) (ps : List Str) (sp : Sp) : Prop where
  m : mg x = some (.ref C)
  T : OexC K C
  ex : ∃ (f : Addr) (fd : FuncData), FnOk P w K mg base CX0 k f fd ps sp ∧ PySem.W.findIn K (.ref C) "__init__" = some (some (.ref f)) ∧ PySem.W.isFn K (.ref f) = true ∧ Binds K fd ps []
/-- what the written part says of such a class with one field -/
structure ErrF (K : PySem.W.Frag) (C : Addr) (f : Str) : Prop where
  T : OexC K C
  X : XfC K C
  n : PySem.W.findIn K (.ref C) f = some none
theorem oex_mk {K : PySem.W.Frag} {C : Addr} {nm q : Str} {N : Addr} {bs bm : List Value} {sn : List Str} {sub : List Value} {ab : Bool} {col : Option Bool} {dd : Option Addr} {k0 k1 k2 k3 k5 : Option Value}
    (l : K.lookup C = some (excClassObj nm q C N bs bm true sn sub ab col dd k0 k1 k2 k3 k5 "ValueError.__new__")) (r : PySem.HandSPX.refsVE bm = true) (sa : PySem.W.findIn K (.ref C) "__setattr__" = some (some (.builtin "object.__setattr__")))
    (e : PySem.W.subIn K (.ref C) (.type "BaseException") = some true) (t : PySem.W.typeIn K (.ref C) = some (.type "type")) (k : PySem.W.keepIn K (.ref C) = true) : OexC K C :=
  ⟨⟨nm, q, N, bs, bm, sn, sub, ab, col, dd, k0, k1, k2, k3, k5, l, r⟩, sa, e, t, k⟩
def kMkO (C : Addr) (sp : Sp) (vs : List V) (H1 : Hp) (Q : XK) : Prop := vs.length ≤ 1000 ∧ ∀ a, H1 a = none → sp (.ref a :: (vs ++ [])) (upd H1 a (exo a C none))
  (fun v H2 => v = .non ∧ ∃ (d : Addr) (fs : List (Str × V)), H2 a = some (exo a C (some d)) ∧ H2 d = some (exd d fs) ∧ H1 d = none ∧ Q (.ref C) (some d) (upd (del H2 a) d (.xd fs))) (fun _ _ _ => False)
def tRaiseO (C : Addr) (sp : Sp) (t : TA) (W : WX) : TS := fun _ σ H => t σ H fun vs H1 => kMkO C sp vs H1 fun cls d H' => W cls d σ H'
theorem w_raiseO {σ : St} {H : Hp} {nx bk ct : St → Hp → Prop} {rt : VK} {C : Addr} {sp : Sp} {t : TA} {W : WX} (h : t σ H fun vs H1 => kMkO C sp vs H1 fun cls d H' => W cls d σ H') : tRaiseO C sp t W ⟨nx, rt, bk, ct⟩ σ H := h
theorem ps_raiseO {X : Cx} {C : Addr} {x : Str} {k : Nat} {ps : List Str} {sp : Sp} {e : Expr} {es : List Expr} {t : TA} {W : WX} {p pos pos2 : Pos} (hc : X.calm = true) (tk : Takes X W) (c : CalE X.prog X.w X.K X.mg X.base C x k ps sp) (hr : Room (k + 1) X.A) (hg : Gl X x) (ha : PA X (e :: es) t)
    (hdb : (x == ("__debug__" : Str)) = false := by decide) (he : starEach (e :: es) X.env = (false, eval e X.env) :: starEach es X.env := by rfl) (hpl : (backTo pos (starEach es X.env)).any (·.1) = false := by rfl) :
    PS X (.Raise (some (.Call (.Name x p) (e :: es) [] pos)) none pos2) (tRaiseO C sp t W) := by
  obtain ⟨f, fd, F, hf, hi, hb⟩ := c.ex
  exact ps_raise hc tk (pmk_oex c.T hf (beq_iff_eq.mp hi) F hr hb .nil pass0 hg c.m ha hdb he hpl)
/-- the promise of an __init__ that stores one field -/
def spOst (C : Addr) (f : Str) : Sp := fun vs H Q _ => ∃ a y, vs = [.ref a, y] ∧ H a = some (exo a C none) ∧ ∀ dx, H dx = none → dx ≠ a → Q .non (upd (upd H dx (exd dx [(f, y)])) a (exo a C (some dx)))
theorem mkO_ost {C : Addr} {f : Str} {y : V} {H1 : Hp} {Q : XK} (k : ∀ d H', H1 d = none → Same H1 H' → H' d = some (.xd [(f, y)]) → Q (.ref C) (some d) H') : kMkO C (spOst C f) [y] H1 Q := by
  refine ⟨by show 1 ≤ 1000; decide, fun a ha => ⟨a, y, rfl, upd_same, fun dx hdx ne => ⟨rfl, dx, [(f, y)], upd_same, ?_, ?_, ?_⟩⟩⟩
  · rw [upd_ne ne, upd_same]
  · rw [upd_ne ne] at hdx
    exact hdx
  · rw [upd_ne ne] at hdx
    refine k dx _ hdx (fun b u hb => ?_) upd_same
    have n1 : b ≠ a := ne_of_none hb ha
    have n2 : b ≠ dx := ne_of_none hb hdx
    rw [upd_ne n2, del_ne n1, upd_ne n1, upd_ne n2, upd_ne n1]
    exact hb
theorem w_ost {K : PySem.W.Frag} {σ : St} {H : Hp} {nx bk ct : St → Hp → Prop} {rt : VK} {f : Str} {to te : TE} (h : te σ H fun y H1 => to σ H1 fun x H2 => ∃ a C : Addr, x = .ref a ∧ OexC K C ∧ PySem.W.findIn K (.ref C) f = some none ∧
  ((H2 a = some (exo a C none) ∧ ∀ dx, H2 dx = none → dx ≠ a → nx σ (upd (upd H2 dx (exd dx [(f, y)])) a (exo a C (some dx)))) ∨
    ∃ (dx : Addr) (fs : List (Str × V)), H2 a = some (exo a C (some dx)) ∧ H2 dx = some (exd dx fs) ∧ fs.length ≤ 900 ∧ nx σ (upd H2 dx (exd dx ((f, y) :: fs))))) : tOst K f to te ⟨nx, rt, bk, ct⟩ σ H := h
/-- an __init__ of one field keeps its promise -/
theorem rd_ost {K : PySem.W.Frag} {C : Addr} {f : Str} (F : ErrF K C f) {n : Nat} (vs : List V) (H : Hp) (Q : VK) (E : XK) (h : spOst C f vs H Q E) : tOst K f (tVar 0) (tVar 1) ⟨fun _ H' => Q .non H', Q, fun _ _ => False, fun _ _ => False⟩ (startN (n + 2) vs) H := by
  obtain ⟨a, y, rfl, ha, k⟩ := h
  refine w_ost ?_
  refine ⟨y, rfl, ?_⟩
  refine ⟨.ref a, rfl, a, C, rfl, F.T, F.n, .inl ⟨ha, fun dx h1 h2 => k dx h1 h2⟩⟩
/-! ### try with clauses of both kinds -/
abbrev HdS := Value × Option Nat × (Addr → Value → Option Addr → TS)
/-- the ends of a suite whose name is slot i's -/
def unE (i : Nat) (D : Ends) : Ends := { nx := fun σ' H' => D.nx (σ'.set i none) H', rt := D.rt, bk := fun σ' H' => D.bk (σ'.set i none) H', ct := fun σ' H' => D.ct (σ'.set i none) H' }
def wMix (K : PySem.W.Frag) (Wout : WX) (D : Ends) : List HdS → WX
  | [] => Wout
  | (c, none, ts) :: r => fun cls d σ H => ∃ b, PySem.W.exmOne K cls c = some b ∧ (b = true → ∀ a, H a = none → ts a cls d D σ H) ∧ (b = false → wMix K Wout D r cls d σ H)
  | (c, some i, ts) :: r => fun cls d σ H => ∃ b, PySem.W.exmOne K cls c = some b ∧ (b = true → ∀ a, H a = none → ts a cls d (unE i D) (σ.set i (some (.ref a))) H) ∧ (b = false → wMix K Wout D r cls d σ H)
inductive HdsMix (X : Cx) : List ExceptHandler → List HdS → Prop
  | nil : HdsMix X [] []
  | cons {x : Str} {c : Value} {ts : Addr → Value → Option Addr → TS} {b₀ : Stmt} {suite : List Stmt} {np pos' : Pos} {hds : List ExceptHandler} {l : List HdS} (hc : Names X x c)
      (hsu : ∀ (a : Addr) (oe : Obj) (cls : Value) (d : Option Addr) (pn : List (Addr × Obj)), Zc cls d oe → (∃ vs, oe.data = .fields vs) → PSs (X.suite a ((a, oe) :: pn)) (b₀ :: suite) (ts a cls d)) (r : HdsMix X hds l) :
      HdsMix X (.ExceptHandler (some (.Name x np)) none (b₀ :: suite) pos' :: hds) ((c, none, ts) :: l)
  | consAs {x n : Str} {i : Nat} {c : Value} {ts : Addr → Value → Option Addr → TS} {b₀ : Stmt} {suite : List Stmt} {np pos' : Pos} {hds : List ExceptHandler} {l : List HdS} (hi : X.N[i]? = some n) (hln : X.env.kindOf n = some .local) (hc : Names X x c)
      (hsu : ∀ (a : Addr) (oe : Obj) (cls : Value) (d : Option Addr) (pn : List (Addr × Obj)), Zc cls d oe → (∃ vs, oe.data = .fields vs) → PSs (X.suite a ((a, oe) :: pn)) (b₀ :: suite) (ts a cls d)) (r : HdsMix X hds l) :
      HdsMix X (.ExceptHandler (some (.Name x np)) (some n) (b₀ :: suite) pos' :: hds) ((c, some i, ts) :: l)
section
variable {X : Cx} {body : List Stmt} {h₀ : ExceptHandler} {hds : List ExceptHandler} {l : List HdS} {pos : Pos} {tb : WX → TS} {Wout : WX}
theorem ps_try_mix (hN : X.N.Nodup) (hs : X.stack = X.env :: X.outer) (hf : X.env.frame = some X.env.locals) (tk : Takes X Wout)
    (hb : ∀ (W : WX) (pn : List (Addr × Obj)) (xe : Value → Shared → Prop), Takes (X.tr pn xe) W → PassesOwn (model X.prog X.w) X.A X.env xe → PSs (X.tr pn xe) body (tb W))
    (hh : HdsMix X (h₀ :: hds) l) : PS X (.Try body (h₀ :: hds) [] [] pos) (fun D σ H => tb (wMix X.K Wout D l) D σ H) := by
  refine ⟨fun pins s σ H D I h => ?_⟩
  have ok := I.ok
  have hfr : X.A.frames = some (X.env :: X.outer) := by rw [ok.frames, hs]
  refine wpAny_Try_except ?_
  refine wpAny_mono ((hb (wMix X.K Wout D l) (X.pn ++ pins) (fun e s₁ => wpAny (model X.prog X.w) X.A (noteFrame e X.env) (fun _ s₂ => wpAny (model X.prog X.w) X.A (setFlight e none) (fun _ s₃ =>
    wpAny (model X.prog X.w) X.A (handleBy e X.env (h₀ :: hds)) (SP X pins D) X.xe s₃) X.xe s₂) X.xe s₁) (fun u s' xx => ?_) PassesOwn.looking).run [] s σ H D (I.toTry _) h) (fun f s1 hsp => ?_) (fun e s1 he => he)
  · obtain ⟨a, B, sI, pins', σ', H', cls, d, rfl, J', nb, up, sky, na, os, ag, w⟩ := xx
    have J : Inv X pins σ' H' sI := J'.ofTry ok
    have sky' : Sky B (X.env :: X.outer) a (Zc cls d) X.env.locals s'.heap := by rw [← hs]; exact sky
    show wpAny (model X.prog X.w) X.A (noteFrame (.ref a) X.env) _ _ _
    refine Sky.land Zc.steady hfr hf sky' fun h3 fl3 up3 => ?_
    have J3 : Inv X pins σ' H' { s' with heap := h3 } := J.landed nb fl3.1 (up.trans up3) os ag
    obtain ⟨oe3, vs3, he3, hz3, hd3⟩ := fl3.there
    have notFr : ∀ {h : Heap} {o : Obj} {vs : Array Value}, h.FunFrames B (X.env :: X.outer) → h.get? a = some o → o.data = .fields vs → a ∉ frs (X.env :: X.outer) := fun {h o vs} ff e dd hm => by
      obtain ⟨_, o', e', hnf⟩ := ff.mem hm
      rw [e] at e'; cases e'
      exact hnf _ dd
    have nfr := notFr fl3.2.2.1 he3 hd3
    have nL : a ≠ X.env.locals := fun z => nfr (List.mem_filterMap.mpr ⟨X.env, List.mem_cons_self, by rw [hf, z]⟩)
    have nF : a ∉ X.fs := fun hm => by
      obtain ⟨e, he, q⟩ := List.mem_filterMap.mp hm
      exact nfr (List.mem_filterMap.mpr ⟨e, List.mem_cons_of_mem _ he, q⟩)
    have S3 := J3.suite he3 hd3 na nL nF
    have LT : PySem.W.Looks (model X.prog X.w) h3 (typeOf (.ref a)) cls := fun A Q E s k q => wpAny_typeOf_ref (k _ _ he3) (by rw [hz3.1]; exact q)
    have test : ∀ {x : Str} {c : Value} {np : Pos} {Q : Value → Shared → Prop} {E : Value → Shared → Prop}, Names X x c → Q c { s' with heap := h3 } → wpAny (model X.prog X.w) (X.A.mark (some (.ref a))) (eval (.Name x np) X.env) Q E { s' with heap := h3 } := fun {x c np Q E} hc q => by
      obtain ⟨hg, hdbg, hm | ⟨hm, hv, hnn⟩⟩ := hc
      · exact ld_glob (X := X.suite a ((a, oe3) :: (X.pn ++ pins))) S3 hg hm q hdbg
      · exact ld_blt (X := X.suite a ((a, oe3) :: (X.pn ++ pins))) S3 hg hm hv q hnn hdbg
    have go : ∀ {hds' : List ExceptHandler} {l' : List HdS}, HdsMix X hds' l' → wMix X.K Wout D l' cls d σ' H' →
        wpAny (model X.prog X.w) X.A (handleBy (.ref a) X.env hds') (SP X pins D) X.xe { s' with heap := h3 } := by
      intro hds' l' hk
      induction hk with
      | nil =>
        intro w
        refine wpAny_handleBy_nil ?_
        obtain ⟨k1, k2, k3, oe, vs, T, oT, ts', he, hz, hd, h1, hr⟩ := id fl3
        unfold PySem.passOn
        refine wpAny_bind (wpAny_field he hd h1 ?_)
        rw [if_neg (show ¬ ((Value.ref T == Value.none) = true) from by simp)]
        have fin : wpAny (model X.prog X.w) X.A (setFlight (.ref a) X.env.frame) (fun _ s4 => wpAny (model X.prog X.w) X.A (throw (.ref a) : Sem Flow) (SP X pins D) X.xe s4) X.xe { s' with heap := h3 } := by
          rw [hf]
          refine HandSPX.setFlight_upZ fl3 fun h4 hh4 up4 => wpAny_throw (tk _ _ ?_)
          exact ⟨a, B, sI, pins, σ', H', cls, d, rfl, J, nb, (up.trans up3).trans up4, .inr (.inr (by rw [hs]; exact hh4)), na, os, ag, w⟩
        first
          | exact wpAny_bind (wpAny_pure (wpAny_bind fin))
          | exact wpAny_bind fin
      | @cons x c ts b₀ suite np pos' hds2 l2 hc hsu r ih =>
        intro w
        obtain ⟨b, hb1, hyes, hno⟩ := w
        refine wpAny_handleBy_cons (codeAny_handlers_test ?_) (by intro q; cases q)
        have LM := PySem.W.exm_one (M := model X.prog X.w) (J3.kIn) LT hb1
        refine test hc (LM.here ?_)
        cases b with
        | true =>
          refine codeAny_handlers_suite ?_
          refine HandSPX.lands_againZ fl3 fun h4 fl4 up4 => ?_
          have J4 : Inv X pins σ' H' { s' with heap := h4 } := J.landed nb fl4.1 ((up.trans up3).trans up4) os ag
          obtain ⟨oe4, vs4, he4, hz4, hd4⟩ := fl4.there
          have S4 := J4.suite he4 hd4 na nL nF
          refine wpAny_mono ((hsu a oe4 cls d (X.pn ++ pins) hz4 ⟨_, hd4⟩).run [] _ _ H' _ S4 (hyes rfl a na)) (fun f s6 hsp => ?_) (fun _ _ z => False.elim z)
          cases f with
          | next =>
            obtain ⟨σ6, H6, S6, q6⟩ := hsp
            exact ⟨_, _, S6.unsuite ok, q6⟩
          | brk =>
            obtain ⟨σ6, H6, S6, q6⟩ := hsp
            exact ⟨_, _, S6.unsuite ok, q6⟩
          | cont =>
            obtain ⟨σ6, H6, S6, q6⟩ := hsp
            exact ⟨_, _, S6.unsuite ok, q6⟩
          | ret u =>
            obtain ⟨v6, σ6, H6, S6, r6, q6⟩ := hsp
            exact ⟨_, _, _, S6.unsuite ok, r6, q6⟩
        | false =>
          show wpAny _ X.A (handleBy (.ref a) X.env hds2) _ _ _
          exact ih (hno rfl)
      | @consAs x n i c ts b₀ suite np pos' hds2 l2 hi hln hc hsu r ih =>
        intro w
        obtain ⟨b, hb1, hyes, hno⟩ := w
        have hloc : Loc X.env.scope n := .inl hln
        refine wpAny_handleBy_cons (codeAny_handlers_test ?_) (by intro q; cases q)
        have LM := PySem.W.exm_one (M := model X.prog X.w) (J3.kIn) LT hb1
        refine test hc (LM.here ?_)
        cases b with
        | true =>
          refine codeAny_handlers_suite_as ?_
          refine HandSPX.lands_againZ fl3 fun h4 fl4 up4 => ?_
          have J4 : Inv X pins σ' H' { s' with heap := h4 } := J.landed nb fl4.1 ((up.trans up3).trans up4) os ag
          obtain ⟨oe4, vs4, he4, hz4, hd4⟩ := fl4.there
          have S4 := J4.suite he4 hd4 na nL nF
          refine store_ok (X := X.suite a ((a, oe4) :: (X.pn ++ pins))) (v := .ref a) S4 hN hi hloc rfl (fun s5 S5 => ?_) (.inr hln)
          refine wpAny_mono ((hsu a oe4 cls d (X.pn ++ pins) hz4 ⟨_, hd4⟩).run [] s5 _ H' _ S5 (hyes rfl a na)) (fun f s6 hsp => ?_) (fun _ _ z => False.elim z)
          have end_ : ∀ {σ6 : St} {H6 : Hp} {Q : Shared → Prop}, Inv (X.suite a ((a, oe4) :: (X.pn ++ pins))) [] σ6 H6 s6 → (∀ s7, Inv X pins (σ6.set i none) H6 s7 → Q s7) →
              wpAny (model X.prog X.w) X.A (do bindName X.env n .none; unbindBehindTheSuite X.env n pos') (fun _ s7 => Q s7) X.xe s6 := fun {σ6 H6 Q} S6 hq => gone_ok (S6.unsuite ok) hN hi hln hq
          cases f with
          | next =>
            obtain ⟨σ6, H6, S6, q6⟩ := hsp
            exact end_ S6 fun s7 J7 => ⟨_, _, J7, q6⟩
          | brk =>
            obtain ⟨σ6, H6, S6, q6⟩ := hsp
            exact end_ S6 fun s7 J7 => ⟨_, _, J7, q6⟩
          | cont =>
            obtain ⟨σ6, H6, S6, q6⟩ := hsp
            exact end_ S6 fun s7 J7 => ⟨_, _, J7, q6⟩
          | ret u =>
            obtain ⟨v6, σ6, H6, S6, r6, q6⟩ := hsp
            exact end_ S6 fun s7 J7 => ⟨_, _, _, J7, r6, q6⟩
        | false =>
          show wpAny _ X.A (handleBy (.ref a) X.env hds2) _ _ _
          exact ih (hno rfl)
    exact go hh w
  · cases f with
    | next =>
      obtain ⟨σ', H', J', q⟩ := hsp
      exact wpAny_execs_nil ⟨σ', H', J'.ofTry ok, q⟩
    | brk =>
      obtain ⟨σ', H', J', q⟩ := hsp
      exact ⟨σ', H', J'.ofTry ok, q⟩
    | cont =>
      obtain ⟨σ', H', J', q⟩ := hsp
      exact ⟨σ', H', J'.ofTry ok, q⟩
    | ret u =>
      obtain ⟨v, σ', H', J', r, q⟩ := hsp
      exact ⟨v, σ', H', J'.ofTry ok, r, q⟩
end
def tTryM (K : PySem.W.Frag) (tb : WX → TS) (l : List HdS) : TS := fun D σ H => tb (wMix K (fun _ _ _ _ => False) D l) D σ H
theorem w_tryM {K : PySem.W.Frag} {σ : St} {H : Hp} {nx bk ct : St → Hp → Prop} {rt : VK} {tbb : WX → TS} {l : List HdS} (h : tbb (wMix K (fun _ _ _ _ => False) ⟨nx, rt, bk, ct⟩ l) ⟨nx, rt, bk, ct⟩ σ H) : tTryM K tbb l ⟨nx, rt, bk, ct⟩ σ H := h

local macro_rules | `(tactic| walk_at "s") => `(tactic| with_reducible first
  | refine w_prs ?_ | refine w_star ?_ | refine w_metS ?_)
/-! ### the greatest of a tuple of numbers -/
theorem mx_fold : ∀ (ns : List Int) (n : Int), ns.foldl max n ∈ n :: ns ∧ ∀ y ∈ n :: ns, y ≤ ns.foldl max n
  | [], n => ⟨List.mem_singleton.mpr rfl, fun y hy => by rw [List.mem_singleton.mp hy]; exact Int.le_refl _⟩
  | m :: ns, n => by
    obtain ⟨h1, h2⟩ := mx_fold ns (max n m)
    rw [List.foldl_cons]
    refine ⟨?_, fun y hy => ?_⟩
    · rcases List.mem_cons.mp h1 with h | h
      · rw [h]
        rcases Int.le_total n m with q | q
        · rw [Int.max_eq_right q]
          exact List.mem_cons_of_mem _ (List.mem_cons_self ..)
        · rw [Int.max_eq_left q]
          exact List.mem_cons_self ..
      · exact List.mem_cons_of_mem _ (List.mem_cons_of_mem _ h)
    · have hm := h2 (max n m) (List.mem_cons_self ..)
      rcases List.mem_cons.mp hy with h | h
      · rw [h]
        omega
      · rcases List.mem_cons.mp h with h | h
        · rw [h]
          omega
        · exact h2 y (List.mem_cons_of_mem _ h)
theorem depth_ints : ∀ ns : List Int, PyData.depthAll (ns.map PyData.int) ≤ 1
  | [] => by unfold List.map PyData.depthAll; omega
  | n :: ns => by
    have := depth_ints ns
    rw [List.map_cons]
    unfold PyData.depthAll
    simp only [PyData.depth]
    omega
theorem alike_ints (ns : List Int) : PySem.W.AlikeAll (ns.map PyData.int) := by
  refine ⟨fun x hx y hy => ?_, fun x hx z => ?_⟩
  · obtain ⟨i, _, rfl⟩ := List.mem_map.mp hx
    obtain ⟨j, _, rfl⟩ := List.mem_map.mp hy
    rfl
  · obtain ⟨i, _, rfl⟩ := List.mem_map.mp hx
    cases z
def rMaxT (K : PySem.W.Frag) (vs : List V) (H : Hp) (Q : VK) : Prop := ∃ (a : Addr) (n : Int) (ns : List Int), vs = [V.ref a] ∧ SqT K H a ((n :: ns).map V.int) ∧ Q (.int (ns.foldl max n)) H
theorem cr_maxT {X : Cx} (hu : X.A.units + 64 < cLine) (hc : X.calm = true) : CallR X (.builtin "max") (rMaxT X.K) := by
  intro pins s σ H vs us Q I r h
  obtain ⟨a, n, ns, rfl, ht, q⟩ := h
  obtain ⟨its, rv, hl, _⟩ := I.tuple ht
  rw [Vals.ref1 r]
  have hd := depth_ints (n :: ns)
  refine PySem.W.max_tuple_data (x := .int n) (xs := ns.map PyData.int) (I.ok.hd hc) hl (rv.ints.reads _) (alike_ints (n :: ns)) (by rw [List.map_cons] at hd; omega) fun i v h' tk bs _ hr hk => ?_
  rw [PySem.W.maxD_ints] at hr
  cases hr
  exact ⟨.int _, H, I.kept hk, ⟨_, rfl⟩, q⟩
/-! ### an own == that may say no -/
theorem cmp_ret {P : Value → Shared → Prop} {z : V} {v : Value} {s' : Shared} (r : RelV z v) (h : P v s') : PySem.W.CmpBack P v s' := by
  cases v with
  | notImplemented => exfalso; cases z <;> (first | cases r; done | (obtain ⟨_, h1⟩ := r; cases h1))
  | _ => exact h
def rEqO (C : Addr) (sp : Sp) : R2 := fun x y H Q => ∃ a b dx dy fs gs, x = V.ref a ∧ y = V.ref b ∧ H a = some (.ins C dx fs) ∧ H b = some (.ins C dy gs) ∧ sp [x, y] H Q E0
theorem op_eqO {X : Cx} {C : Addr} {k : Nat} {ps : List Str} {sp : Sp} (c : CalM X.prog X.w X.K X.mg X.base CX0 C "__eq__" k ps sp) (hr : Room k X.A) : OpR X (compareOp .Eq) (rEqO C sp) := by
  obtain ⟨f, fd, F, hm, hb⟩ := c.ex
  intro pins s σ H x y v u Q I rx ry h
  obtain ⟨a, b, dx, dy, fs, gs, rfl, rfl, h1, h2, q⟩ := h
  cases rx
  cases ry
  obtain ⟨_, J1, _⟩ := ins_get I.hok h1
  obtain ⟨_, J2, _⟩ := ins_get I.hok h2
  obtain ⟨_, O1, _⟩ := J1.look
  obtain ⟨_, O2, _⟩ := J2.look
  obtain ⟨_, hF⟩ := I.fr
  show wpAny _ _ (richCompare .Eq (.ref a) (.ref b)) _ _ _
  refine PySem.W.cmp_K (tb := .ref C) (op := .Eq) hr.units0 hF I.ok.mod.kin O1 O2.type (by unfold PySem.W.notFirst; simp) hm.at_ hm.fn ?_
  have hl := F.len _ _ _ _ q
  have hbb := hb s [Value.ref a, Value.ref b] I.kIn (by rw [← hl]; rfl)
  rw [List.append_nil] at hbb
  refine wpAny_call (codeAny_mono (F.run X.A X.stack s H ⟨[.ref a, .ref b], []⟩ [.ref a, .ref b] [.ref a, .ref b] _ E0 hr I.env0 hbb (.cons rfl (.cons rfl .nil)) q) fun r s' hq => ?_)
  cases r with
  | error e => exact False.elim hq
  | ok fl =>
    cases fl with
    | ret w =>
      obtain ⟨z, H', I2, rz, qz⟩ := I.after hq
      exact cmp_ret rz ⟨z, H', I2, rz, qz⟩
    | next => exact False.elim hq
    | brk => exact False.elim hq
    | cont => exact False.elim hq
/-! ### == of rules -/
structure RuleE (Γ : Gm) : Prop where
  ca : PySem.W.findIn Γ.K (.ref Γ.cRule) "__class__" = some (some (.builtin "object.__class__"))
  cn : PySem.W.specialIn Γ.K (.builtin "object.__class__") "__get__" = some (some (.builtin "getset_descriptor.__get__"))
  ct : PySem.W.takesIn Γ.K (.builtin "object.__class__") = some true
  cm : PySem.W.mroIn Γ.K Γ.cRule (.type "object") = some true
theorem w_isiR {Γ : Gm} (F : RuleF Γ) (E : RuleE Γ) {H : Hp} {v : V} {r : R} {Q : VK} (h : RuleAt Γ H v r) (q : Q (.bl true) H) : rIsi Γ.K [v, .ref Γ.cRule] H Q := by
  obtain ⟨p, dx, b, rfl, h2, _, _⟩ := h
  exact ⟨_, _, _, _, true, rfl, .own _, .base (.ins h2 F.cl E.ca E.cn E.ct E.cm), if_pos (beq_self_eq_true _), q⟩
theorem pure_rows : ∀ rows : List (List Int), pureAll (rows.map fun r => PyData.tuple (r.map PyData.int)) = true
  | [] => by unfold List.map pureAll; rfl
  | r :: rows => by rw [List.map_cons]; unfold pureAll; rw [pure_tupI, pure_rows rows]; rfl
theorem flat_rows {n : Nat} : ∀ rows : List (List Int), (∀ r ∈ rows, r.length ≤ 100000) → flatAll (n + 2) (rows.map fun r => PyData.tuple (r.map PyData.int)) = true
  | [], _ => by unfold List.map flatAll; rfl
  | r :: rows, h => by
    rw [List.map_cons]
    unfold flatAll flatN
    rw [flat_rows rows (fun x hx => h x (List.mem_cons_of_mem _ hx)), flat_intsN, List.length_map, decide_eq_true (h r (List.mem_cons_self ..))]
    rfl
def R.rows : R → List (List Int)
  | .tab rows => rows
  | .trm ts => ts.map tri
theorem R.body_rows (r : R) : r.body = .tuple (r.rows.map fun x => .tuple (x.map PyData.int)) := by
  cases r with
  | tab rows => rfl
  | trm ts =>
    show PyData.tuple (ts.map fun t => .tuple ((tri t).map PyData.int)) = .tuple ((ts.map tri).map fun x => .tuple (x.map PyData.int))
    rw [List.map_map]
    rfl
theorem R.rows_small {r : R} (ok : r.ok) : r.rows.length ≤ 100000 ∧ ∀ x ∈ r.rows, x.length ≤ 100000 := by
  cases r with
  | tab rows =>
    refine ⟨Nat.le_of_lt (Nat.lt_of_lt_of_le ok.2.1 (by decide)), fun x hx => ?_⟩
    obtain ⟨i, hi, rfl⟩ := List.mem_iff_getElem.mp hx
    have := (ok.2.2 i _ (List.getElem?_eq_getElem hi)).1
    have := ok.2.1
    omega
  | trm ts =>
    refine ⟨by show (ts.map tri).length ≤ _; rw [List.length_map]; exact Nat.le_trans ok.1 (by decide), fun x hx => ?_⟩
    obtain ⟨t, _, rfl⟩ := List.mem_map.mp hx
    exact show 3 ≤ 100000 from by decide
theorem rows_inj : ∀ {xs ys : List (List Int)}, (xs.map fun x => PyData.tuple (x.map PyData.int)) = (ys.map fun x => PyData.tuple (x.map PyData.int)) → xs = ys
  | [], [], _ => rfl
  | [], _ :: _, h => by cases h
  | _ :: _, [], h => by cases h
  | x :: xs, y :: ys, h => by
    rw [List.map_cons, List.map_cons] at h
    injection h with h1 h2
    injection h1 with h1
    rw [map_int_inj h1, rows_inj h2]
theorem R.eq_of {r r' : R} (h1 : r.kind = r'.kind) (h2 : r.body = r'.body) : r = r' := by
  rw [R.body_rows, R.body_rows] at h2
  injection h2 with h2
  have e := rows_inj h2
  have nk : ¬ (("table" : Str) = "terms") := by decide +kernel
  cases r with
  | tab a =>
    cases r' with
    | tab b => exact congrArg R.tab e
    | trm b => exact absurd h1 nk
  | trm a =>
    cases r' with
    | tab b => exact absurd h1.symm nk
    | trm b =>
      refine congrArg R.trm ?_
      have inj : Function.Injective tri := fun s t h => by
        obtain ⟨s1, s2, s3⟩ := s
        obtain ⟨t1, t2, t3⟩ := t
        simp only [tri, List.cons.injEq, and_true] at h
        obtain ⟨h1, h2, h3⟩ := h
        rw [h1, Int.ofNat.inj h2, Int.ofNat.inj h3]
      exact (List.map_inj_right inj).mp e
def sp_RuleU_eqU (Γ : Gm) : Sp := fun vs H Q _ => ∃ u v r r', vs = [u, v] ∧ RuleAt Γ H u r ∧ RuleAt Γ H v r' ∧ (r = r' → Q (.bl true) H) ∧ (r ≠ r' → Q (.bl false) H)
/-- Rule __eq__: self, other -/
def t_RuleU_eqU (Γ : Gm) : TS := (tRet (tAndV (tCB (rIsi Γ.K) (tCons (tVar 1) (tCons (tC (.ref Γ.cRule)) tNil))) (tAndV (tOp (rEqU Γ.K) (tFld Γ.K (tVar 0) "form") (tFld Γ.K (tVar 1) "form")) (tOp (rEqU Γ.K) (tFld Γ.K (tVar 0) "body") (tFld Γ.K (tVar 1) "body")))))
theorem rd_RuleU_eqU (Γ : Gm) (F : RuleF Γ) (E1 : RuleE Γ) (vs : List V) (H : Hp) (Q : VK) (E : XK) (h : sp_RuleU_eqU Γ vs H Q E) : t_RuleU_eqU Γ ⟨fun _ H' => Q .non H', Q, fun _ _ => False, fun _ _ => False⟩ (startN 2 vs) H := by
  obtain ⟨u, v, r, r', rfl, hu, hv, k1, k2⟩ := h
  unfold t_RuleU_eqU
  walk_at "ss"
  refine w_isiR F E1 hv ?_
  walk_at "ss"
  refine w_form F hu ?_
  walk_at "ss"
  refine w_form F hv ?_
  walk_at "ss"
  by_cases hk : r.kind = r'.kind
  · rw [if_pos (decide_eq_true hk)]
    walk_at "ss"
    refine w_body F hu fun b xs h1 t1 => ?_
    walk_at "ss"
    refine w_body F hv fun b' xs' h2 t2 => ?_
    walk_at "ss"
    have dec : Decidable (r.body = r'.body) := Classical.propDecidable _
    have fl : ∀ {r : R}, r.ok → flatN 45 r.body = true := fun {r} ok => by
      have := R.rows_small ok
      rw [R.body_rows]
      unfold flatN
      rw [flat_rows _ this.2, List.length_map, decide_eq_true this.1]
      rfl
    have pu : ∀ r : R, pureD r.body = true := fun r => by
      rw [R.body_rows]
      unfold pureD
      exact pure_rows _
    obtain ⟨_, _, _, _, _, _, o1⟩ := hu
    obtain ⟨_, _, _, _, _, _, o2⟩ := hv
    refine w_eqD (dec := dec) t1.dv t2.dv (fl o1) (fl o2) (pu _) (pu _) ?_
    by_cases hb : r.body = r'.body
    · rw [decide_eq_true hb]
      exact k1 (R.eq_of hk hb)
    · rw [decide_eq_false hb]
      exact k2 fun z => hb (by rw [z])
  · rw [if_neg (by rw [decide_eq_false hk]; decide)]
    exact k2 fun z => hk (by rw [z])

open _root_.TL (tl len_tl ext_tl tl_ofString tl_append)
/-! ### steps of texts -/
def rJoinU (K : PySem.W.Frag) : V → List V → Hp → VK → Prop := fun x xs H Q => ∃ a p, ∃ ys : List Str, x = .str a ∧ xs = [.ref p] ∧ (SqL K H p (ys.map V.str) ∨ SqT K H p (ys.map V.str)) ∧ (ys.map (·.length)).sum + ys.length * a.length ≤ 16777216 ∧ Q (.str (Txt.join a ys)) H
def rSplitU : V → List V → Hp → VK → Prop := fun x xs H Q => ∃ a b, x = .str a ∧ xs = [.str b] ∧ (b.length == 0) = false ∧ a.length + 2 ≤ sizeLine ∧ rNewStrs (Txt.split a b) H Q
def rItemS : R2 := fun x y H Q => ∃ z i c, x = .str z ∧ y = .int i ∧ 0 ≤ i ∧ i < 2 ^ 63 ∧ i < z.length ∧ z.cps[i.toNat]? = some c ∧ Q (.str ⟨#[c]⟩) H
def rInSign : R2 := fun x y H Q => ∃ (c : Nat) (z : Str), x = .str ⟨#[c]⟩ ∧ y = .str z ∧ Q (.bl (decide (c ∈ z.cps.toList))) H
def rIntS : List V → Hp → VK → Prop := fun xs H Q => ∃ a n, xs = [.str a] ∧ PySem.intText? a = some n ∧ a.length ≤ 640 ∧ Q (.int n) H
def tJoined (ts : List TE) : TE := fun σ H Q => tJs ts Str.empty σ H fun out H1 => Q (.str out) H1
section
variable {K : PySem.W.Frag} {σ : St} {H : Hp} {Q : VK}
theorem w_m1 {r : V → List V → Hp → VK → Prop} {to te : TE} (h : to σ H fun x H1 => (∃ a, x = .str a) ∧ te σ H1 fun y H2 => r x [y] H2 Q) : tM1 r to te σ H Q := h
theorem w_str {x : Str} {A : Prop} (h : A) : (∃ a, V.str x = .str a) ∧ A := ⟨⟨x, rfl⟩, h⟩
theorem w_joinL {a : Str} {p : Addr} {ys : List Str} (hp : H p = some (.lst (ys.map V.str))) (hz : (ys.map (·.length)).sum + ys.length * a.length ≤ 16777216) (q : Q (.str (Txt.join a ys)) H) : rJoinU K (.str a) [.ref p] H Q := ⟨a, p, ys, rfl, rfl, .inl (SqL.of hp), hz, q⟩
theorem w_splitS {a b : Str} (hb : (b.length == 0) = false) (hz : a.length + 2 ≤ 16777216) (q : ∀ p H', H p = none → Same H H' → H' p = some (.lst ((Txt.split a b).map V.str)) → Q (.ref p) H') : rSplitU (.str a) [.str b] H Q := ⟨a, b, rfl, rfl, hb, by rw [sizeLine_eq]; exact hz, fun p hp => q p _ hp (Same.new hp) upd_same⟩
theorem w_itemS {z : Str} {c : Nat} (h : z.cps[0]? = some c) (q : Q (.str ⟨#[c]⟩) H) : rItemS (.str z) (.int 0) H Q := ⟨z, 0, c, rfl, rfl, by decide, by decide, by
  have := (Array.getElem?_eq_some_iff.mp h).1
  show (0 : Int) < (z.cps.size : Nat)
  omega, h, q⟩
theorem w_inSign {c : Nat} {z : Str} (q : Q (.bl (decide (c ∈ z.cps.toList))) H) : rInSign (.str ⟨#[c]⟩) (.str z) H Q := ⟨c, z, rfl, rfl, q⟩
theorem w_intS {a : Str} {n : Int} (h : PySem.intText? a = some n) (hz : a.length ≤ 640) (q : Q (.int n) H) : rIntS [.str a] H Q := ⟨a, n, rfl, h, hz, q⟩
theorem w_lenS {z : Str} (hz : z.length ≤ 16777216) (q : Q (.int (z.length : Nat)) H) : rLen K [.str z] H Q := ⟨.str z, z.length, rfl, ⟨by rw [sizeLine_eq]; exact hz, rfl⟩, q⟩
theorem w_slS {z : Str} {lo hi : Option Int} (hz : z.length ≤ 16777216) (q : Q (.str (cutS z lo hi)) H) : rSlU K (.str z) lo hi H Q := .inr (.inr ⟨z, rfl, by rw [sizeLine_eq]; exact hz, q⟩)
theorem w_iStr {te : TE} {R : It → Hp → Prop} (h : te σ H fun v H1 => ∃ x, v = .str x ∧ R (Its x) H1) : iStr te σ H R := h
theorem w_strS {i : Int} (h : i.natAbs.log2 < 1920) (q : Q (.str (toString i)) H) : rStr1 [.int i] H Q := ⟨i, rfl, h, q⟩
theorem k_lcStr {z : Str} {g : TG} {te : TE} {vs : List Nat} (P : Nat → List V → Hp → Prop) (h0 : ∀ H', Same H H' → P 0 [] H')
    (hs : ∀ i c D acc H', z.cps[i]? = some c → H D = none → Same H H' → H' D = some (.lst acc) → P i acc H' → g (.str ⟨#[c]⟩) (wipe σ vs) H' fun σ2 H2 => wipe σ2 vs = wipe σ vs ∧ te σ2 H2 (lcTurn H D (P (i + 1))))
    (hd : ∀ D acc H', H D = none → Same H H' → H' D = some (.lst acc) → P z.cps.size acc H' → Q (.ref D) H') : lcK (Its z) g tYes te vs σ H Q := fun D hD =>
  lc_it walk_str (fun i H' => lcAt H D (P i) H') ⟨[], hD, Same.new hD, upd_same, h0 _ (Same.new hD)⟩ (fun _ _ _ _ => True.intro)
    (fun i x H' H2 hi ⟨acc, _, e, ha, p⟩ ⟨e2, c, hc, ex⟩ => by
      subst e2 ex
      have := hs i c D acc H2 hc hD e ha p
      refine this) fun H' ⟨acc, _, e, ha, p⟩ => hd D acc H' hD e ha p
end
/-! ### numbers in texts, plain -/
theorem tl_cut1 (z : Str) : tl (cutS z none (some 1)) = (tl z).take 1 := by
  show ((z.cps.toList.drop (HT.sIx z.length 0 none)).take (HT.sIx z.length z.length (some 1) - HT.sIx z.length 0 none)) = _
  have e1 : HT.sIx z.length 0 none = 0 := rfl
  have e2 : HT.sIx z.length z.length (some 1) = min 1 z.length := HT.sIx_nat _ _ 1
  rw [e1, e2, List.drop_zero, Nat.sub_zero]
  show (tl z).take _ = _
  rw [len_tl, Nat.min_comm, ← List.take_take, List.take_of_length_le (by rw [List.length_take]; omega)]
theorem tl_cutT (z : Str) : tl (cutS z (some 1) none) = (tl z).drop 1 := by
  show ((z.cps.toList.drop (HT.sIx z.length 0 (some 1))).take (HT.sIx z.length z.length none - HT.sIx z.length 0 (some 1))) = _
  have e1 : HT.sIx z.length z.length none = z.length := rfl
  have e2 : HT.sIx z.length 0 (some 1) = min 1 z.length := HT.sIx_nat _ _ 1
  rw [e1, e2]
  show ((tl z).drop _).take _ = _
  rw [len_tl]
  cases h : tl z with
  | nil => rfl
  | cons a l =>
    have m : min 1 (a :: l).length = 1 := by rw [List.length_cons]; omega
    rw [m, List.drop_one, List.tail_cons, List.length_cons, Nat.add_sub_cancel, List.take_length]
def isDig (c : Nat) : Bool := decide (48 ≤ c) && decide (c ≤ 57)
theorem dig_mem (c : Nat) : decide (c ∈ (Str.ofString "0123456789").cps.toList) = isDig c := by
  have e : (Str.ofString "0123456789").cps.toList = [48, 49, 50, 51, 52, 53, 54, 55, 56, 57] := by rw [show (Str.ofString "0123456789").cps.toList = tl (Str.ofString "0123456789") from rfl, tl_ofString]; rfl
  unfold isDig
  rw [e, ← Bool.decide_and, decide_eq_decide]
  simp only [List.mem_cons, List.not_mem_nil, or_false]
  omega
/-- the figures of a word -/
def figs (l : List Nat) : List Nat := if l.take 1 = [45] then l.drop 1 else l
def canon (l : List Nat) : Bool := decide (1 ≤ (figs l).length) && decide ((figs l).length ≤ 7) && (figs l).all isDig && !(decide ((figs l).head? = some 48) && !decide (l = [48]))
def valL (l : List Nat) : Int := if l.take 1 = [45] then -((NumText.digitsVal (figs l) : Nat) : Int) else ((NumText.digitsVal (figs l) : Nat) : Int)
/-- the number from lo to hi that a word is -/
def numW (w : Str) (lo hi : Int) : Option Int := if canon (tl w) = true ∧ lo ≤ valL (tl w) ∧ valL (tl w) ≤ hi then some (valL (tl w)) else none
theorem alld {l : List Nat} (h : l.all isDig = true) : NumText.AllDigits l := fun c hc => by
  have := List.all_eq_true.mp h c hc
  unfold isDig at this
  rw [Bool.and_eq_true, decide_eq_true_eq, decide_eq_true_eq] at this
  exact this
theorem int_of {w : Str} (h1 : 1 ≤ (figs (tl w)).length) (h7 : (figs (tl w)).length ≤ 7) (hd : (figs (tl w)).all isDig = true) : PySem.intText? w = some (valL (tl w)) ∧ w.length ≤ 640 := by
  have ad := alld hd
  unfold figs at h1 h7 ad
  unfold valL figs
  by_cases e : (tl w).take 1 = [45]
  · rw [if_pos e] at h1 h7 ad
    rw [if_pos e, if_pos e]
    cases hw : tl w with
    | nil => rw [hw] at e; cases e
    | cons a l =>
      rw [hw] at e h1 h7 ad
      have ea : a = 45 := by simpa using e
      subst ea
      have hl : w.length = l.length + 1 := by rw [len_tl, hw, List.length_cons]
      have h7' : l.length ≤ 7 := h7
      exact ⟨PySem.intText_neg hw ad (fun z => by rw [z] at h1; exact absurd h1 (by decide)) (by omega), by omega⟩
  · rw [if_neg e] at h1 h7 ad
    rw [if_neg e, if_neg e]
    have hl : w.length = (tl w).length := len_tl w
    exact ⟨PySem.intText_digits ad (fun z => by rw [show w.cps.toList = tl w from rfl] at z; rw [z] at h1; exact absurd h1 (by decide)) (by omega), by omega⟩
theorem str_iff (x y : Str) : x = y ↔ tl x = tl y := ⟨fun e => by rw [e], ext_tl⟩
theorem tl_minus : tl (Str.ofString "-") = [45] := by rw [tl_ofString]; rfl
theorem tl_zero : tl (Str.ofString "0") = [48] := by rw [tl_ofString]; rfl
/-! ### number_in -/
def optV : Option Int → V
  | none => .non
  | some n => .int n
def sp_number_in (Γ : Gm) : Sp := fun vs H Q _ => ∃ w lo hi, vs = [.str w, .int lo, .int hi] ∧ w.length ≤ 100000 ∧ ∀ H', Same H H' → Q (optV (numW w lo hi)) H'
/-- number_in: word, low, high, figures, sign -/
def t_number_in (Γ : Gm) : TS := (tSeq (tAsg (tIf (tTest (tOp (rEqU Γ.K) (tSl (rSlU Γ.K) (tVar 0) tNoPart (tPart (tC (.int 1)))) (tC (.str "-")))) (tSl (rSlU Γ.K) (tVar 0) (tPart (tC (.int 1))) tNoPart) (tVar 0)) (gName 3))
  (tSeq (tIfS (tOr (tNot (tTest (tChain rLe rLe (tC (.int 1)) (tCB (rLen Γ.K) (tCons (tVar 3) tNil)) (tC (.int 7))))) (tNot (tB (tCB (rAll Γ.K) (tCons (tLc (iStr (tVar 3)) (gName 4) tYes (tOp rInSign (tVar 4) (tC (.str "0123456789"))) [4]) tNil))))) (tRet (tC .non)) tNext)
  (tSeq (tIfS (tOr (tAnd (tTest (tOp (rEqU Γ.K) (tOp rItemS (tVar 3) (tC (.int 0))) (tC (.str "0")))) (tTest (tOp (rNeU Γ.K) (tVar 0) (tC (.str "0"))))) (tNot (tTest (tChain rLe rLe (tVar 1) (tCB rIntS (tCons (tVar 0) tNil)) (tVar 2))))) (tRet (tC .non)) tNext)
  (tRet (tCB rIntS (tCons (tVar 0) tNil))))))
theorem rd_number_in (Γ : Gm) (vs : List V) (H : Hp) (Q : VK) (E : XK) (h : sp_number_in Γ vs H Q E) : t_number_in Γ ⟨fun _ H' => Q .non H', Q, fun _ _ => False, fun _ _ => False⟩ (startN 5 vs) H := by
  obtain ⟨w, lo, hi, rfl, hz, k⟩ := h
  unfold t_number_in
  walk_at "ss"
  refine w_slS (by omega) ?_
  walk_at "ss"
  have hs : decide (cutS w none (some 1) = Str.ofString "-") = decide ((tl w).take 1 = [45]) := by
    rw [decide_eq_decide, str_iff, tl_cut1, tl_minus]
  rw [hs]
  -- the figures
  have fin : ∀ f : Str, tl f = figs (tl w) → tSeq (tIfS (tOr (tNot (tTest (tChain rLe rLe (tC (.int 1)) (tCB (rLen Γ.K) (tCons (tVar 3) tNil)) (tC (.int 7))))) (tNot (tB (tCB (rAll Γ.K) (tCons (tLc (iStr (tVar 3)) (gName 4) tYes (tOp rInSign (tVar 4) (tC (.str "0123456789"))) [4]) tNil))))) (tRet (tC .non)) tNext)
      (tSeq (tIfS (tOr (tAnd (tTest (tOp (rEqU Γ.K) (tOp rItemS (tVar 3) (tC (.int 0))) (tC (.str "0")))) (tTest (tOp (rNeU Γ.K) (tVar 0) (tC (.str "0"))))) (tNot (tTest (tChain rLe rLe (tVar 1) (tCB rIntS (tCons (tVar 0) tNil)) (tVar 2))))) (tRet (tC .non)) tNext)
      (tRet (tCB rIntS (tCons (tVar 0) tNil)))) ⟨fun _ H' => Q .non H', Q, fun _ _ => False, fun _ _ => False⟩ [some (.str w), some (.int lo), some (.int hi), some (.str f), none] H := by
    intro f hf
    have fl : f.length = (figs (tl w)).length := by rw [len_tl, hf]
    have fle : (figs (tl w)).length ≤ w.length := by
      unfold figs
      split
      · rw [List.length_drop, ← len_tl]; omega
      · rw [← len_tl]; exact Nat.le_refl _
    have no : canon (tl w) = false → Q .non H := fun z => by
      have := k H (Same.refl H)
      unfold numW at this
      rw [if_neg (by rw [z]; simp)] at this
      exact this
    have noH : ∀ H', Same H H' → numW w lo hi = none → Q .non H' := fun H' e z => by
      have := k H' e
      rw [z] at this
      exact this
    walk_at "ss"
    refine w_lenS (by omega) ?_
    walk_at "ss"
    by_cases c1 : 1 ≤ (figs (tl w)).length
    · rw [decide_eq_true (show (1 : Int) ≤ (f.length : Nat) by omega)]
      walk_at "ss"
      by_cases c7 : (figs (tl w)).length ≤ 7
      · rw [decide_eq_true (show ((f.length : Nat) : Int) ≤ 7 by omega)]
        walk_at "ss"
        refine w_iStr ?_
        walk_at "ss"
        refine ⟨f, rfl, ?_⟩
        refine k_lcStr (fun i acc _ => acc = (((tl f).take i).map isDig).map V.bl) (fun _ _ => rfl) ?_ ?_
        · rintro i c D acc H1 hc hD e1 hacc rfl
          walk_at "ss"
          refine ⟨rfl, ?_⟩
          walk_at "ss"
          refine w_inSign ?_
          rw [dig_mem]
          have hc' : (tl f)[i]? = some c := by rw [← hc]; exact Array.getElem?_toList
          refine lcTurn.mk hD e1 hacc (by rw [List.length_map, List.length_map, List.length_take, ← len_tl]; omega) ?_
          rw [take_succ hc', List.map_append, List.map_append]
          rfl
        · rintro D acc H1 hD e1 hacc rfl
          have sz : f.cps.size = (tl f).length := by simp [tl]
          rw [sz, List.take_length] at hacc
          walk_at "ss"
          refine w_all (SqL.of hacc) ?_
          rw [List.all_map, show (id ∘ isDig) = isDig from rfl, hf]
          walk_at "ss"
          by_cases cd : (figs (tl w)).all isDig = true
          · rw [cd]
            walk_at "ss"
            obtain ⟨iw, lw⟩ := int_of c1 c7 cd
            obtain ⟨c0, r0, hcr⟩ : ∃ c r, figs (tl w) = c :: r := by
              cases h0 : figs (tl w) with
              | nil => rw [h0] at c1; exact absurd c1 (by decide)
              | cons c r => exact ⟨c, r, rfl⟩
            have h0 : f.cps[0]? = some c0 := by
              rw [← Array.getElem?_toList]
              show (tl f)[0]? = _
              rw [hf, hcr]
              rfl
            refine w_itemS h0 ?_
            walk_at "ss"
            have e0 : decide ((⟨#[c0]⟩ : Str) = Str.ofString "0") = decide (c0 = 48) := by
              rw [decide_eq_decide, str_iff, tl_zero]
              show [c0] = [48] ↔ _
              simp
            have ew : decide (w = Str.ofString "0") = decide (tl w = [48]) := by rw [decide_eq_decide, str_iff, tl_zero]
            rw [e0]
            have cn : canon (tl w) = !(decide (c0 = 48) && !decide (tl w = [48])) := by
              unfold canon
              rw [decide_eq_true c1, decide_eq_true c7, cd, hcr]
              simp
            by_cases z1 : c0 = 48
            · rw [decide_eq_true z1]
              walk_at "ss"
              rw [ew]
              by_cases z2 : tl w = [48]
              · rw [decide_eq_true z2]
                walk_at "ss"
                have hcn : canon (tl w) = true := by rw [cn, decide_eq_true z1, decide_eq_true z2]; rfl
                refine w_intS iw lw ?_
                walk_at "ss"
                by_cases b1 : lo ≤ valL (tl w)
                · rw [decide_eq_true b1]
                  walk_at "ss"
                  by_cases b2 : valL (tl w) ≤ hi
                  · rw [decide_eq_true b2]
                    walk_at "ss"
                    refine w_intS iw lw ?_
                    have := k H1 e1
                    unfold numW at this
                    rw [if_pos ⟨hcn, b1, b2⟩] at this
                    exact this
                  · rw [decide_eq_false b2]
                    walk_at "ss"
                    exact noH H1 e1 (by unfold numW; rw [if_neg (fun z => b2 z.2.2)])
                · rw [decide_eq_false b1]
                  walk_at "ss"
                  exact noH H1 e1 (by unfold numW; rw [if_neg (fun z => b1 z.2.1)])
              · rw [decide_eq_false z2]
                walk_at "ss"
                exact noH H1 e1 (by unfold numW; rw [if_neg (fun z => by rw [cn, decide_eq_true z1, decide_eq_false z2] at z; cases z.1)])
            · rw [decide_eq_false z1]
              walk_at "ss"
              have hcn : canon (tl w) = true := by rw [cn, decide_eq_false z1]; rfl
              refine w_intS iw lw ?_
              walk_at "ss"
              by_cases b1 : lo ≤ valL (tl w)
              · rw [decide_eq_true b1]
                walk_at "ss"
                by_cases b2 : valL (tl w) ≤ hi
                · rw [decide_eq_true b2]
                  walk_at "ss"
                  refine w_intS iw lw ?_
                  have := k H1 e1
                  unfold numW at this
                  rw [if_pos ⟨hcn, b1, b2⟩] at this
                  exact this
                · rw [decide_eq_false b2]
                  walk_at "ss"
                  exact noH H1 e1 (by unfold numW; rw [if_neg (fun z => b2 z.2.2)])
              · rw [decide_eq_false b1]
                walk_at "ss"
                exact noH H1 e1 (by unfold numW; rw [if_neg (fun z => b1 z.2.1)])
          · have cd' : (figs (tl w)).all isDig = false := by simpa using cd
            rw [cd']
            walk_at "ss"
            exact noH H1 e1 (by unfold numW; rw [if_neg (fun z => by unfold canon at z; rw [cd'] at z; simp at z)])
      · rw [decide_eq_false (show ¬ ((f.length : Nat) : Int) ≤ 7 by omega)]
        walk_at "ss"
        exact no (by unfold canon; rw [decide_eq_false c7]; simp)
    · rw [decide_eq_false (show ¬ (1 : Int) ≤ (f.length : Nat) by omega)]
      walk_at "ss"
      exact no (by unfold canon; rw [decide_eq_false c1]; simp)
  by_cases e : (tl w).take 1 = [45]
  · rw [decide_eq_true e]
    walk_at "ss"
    refine w_slS (by omega) ?_
    walk_at "s"
    refine fin _ ?_
    rw [tl_cutT]
    unfold figs
    rw [if_pos e]
  · rw [decide_eq_false e]
    refine w_iteF ?_
    refine w_var (by with_unfolding_all rfl) ?_
    refine w_gName ?_
    refine fin w ?_
    unfold figs
    rw [if_neg e]

/-! ### rows of words -/
abbrev IW := Nat × Str
def slash : Str := Str.ofString "/"
/-- the rows of words from the index at on, cur being begun; where a row is empty -/
def rowsM : Nat → List IW → List Str → List (List IW) × Option Nat
  | at_, cur, [] => if cur.isEmpty = true then ([], some at_) else ([cur], none)
  | at_, cur, w :: ws => if w = slash then (if cur.isEmpty = true then ([], some at_) else (cur :: (rowsM (at_ + 1) [] ws).1, (rowsM (at_ + 1) [] ws).2)) else rowsM (at_ + 1) (cur ++ [(at_, w)]) ws
def iwD (p : IW) : PyData := .tuple [.int (p.1 : Int), .str p.2]
def RowW (H : Hp) (a : Addr) (row : List IW) : Prop := ∃ xs, H a = some (.lst xs) ∧ TpAll H xs (row.map iwD)
theorem RowW.mono {H H' : Hp} {a : Addr} {row : List IW} (e : Same H H') (h : RowW H a row) : RowW H' a row := by
  obtain ⟨xs, h1, h2⟩ := h
  exact ⟨xs, e _ _ h1, h2.mono e.tups⟩
/-- all but the list at g -/
def ButL (g : Addr) (H H' : Hp) : Prop := ∀ b o, b ≠ g → H b = some o → H' b = some o
theorem ButL.tups {g : Addr} {H H' : Hp} {xs : List V} (e : ButL g H H') (h : H g = some (.lst xs)) : Tups H H' := fun a ys q => e a _ (fun z => by subst z; rw [h] at q; cases q) q
theorem RowW.but {g : Addr} {H H' : Hp} {a : Addr} {row : List IW} {xs : List V} (e : ButL g H H') (hg : H g = some (.lst xs)) (ne : a ≠ g) (h : RowW H a row) : RowW H' a row := by
  obtain ⟨ys, h1, h2⟩ := h
  exact ⟨ys, e _ _ ne h1, h2.mono (e.tups hg)⟩
def RowsAt (H : Hp) (refs : List Addr) (rows : List (List IW)) : Prop := refs.length = rows.length ∧ ∀ (j : Nat) row, rows[j]? = some row → ∃ a, refs[j]? = some a ∧ RowW H a row
theorem RowsAt.mono {H H' : Hp} {refs : List Addr} {rows : List (List IW)} (e : Same H H') (h : RowsAt H refs rows) : RowsAt H' refs rows := ⟨h.1, fun j row hj => let ⟨a, h1, h2⟩ := h.2 j row hj; ⟨a, h1, h2.mono e⟩⟩
theorem RowsAt.nil {H : Hp} : RowsAt H [] [] := ⟨rfl, fun j row h => by simp at h⟩
theorem RowsAt.snoc {H : Hp} {refs : List Addr} {rows : List (List IW)} {c : Addr} {row : List IW} (h : RowsAt H refs rows) (hc : RowW H c row) : RowsAt H (refs ++ [c]) (rows ++ [row]) := by
  refine ⟨by rw [List.length_append, List.length_append, h.1]; rfl, fun j r hj => ?_⟩
  by_cases hl : j < rows.length
  · rw [List.getElem?_append_left hl] at hj
    obtain ⟨a, h1, h2⟩ := h.2 j r hj
    exact ⟨a, by rw [List.getElem?_append_left (by rw [h.1]; exact hl)]; exact h1, h2⟩
  · have lt := (List.getElem?_eq_some_iff.mp hj).1
    rw [List.length_append] at lt
    have ej : j = rows.length := by simp only [List.length_cons, List.length_nil] at lt; omega
    subst ej
    rw [List.getElem?_append_right (Nat.le_refl _), Nat.sub_self] at hj
    cases hj
    exact ⟨c, by rw [← h.1, List.getElem?_append_right (Nat.le_refl _), Nat.sub_self]; rfl, hc⟩
theorem RowsAt.but {g : Addr} {H H' : Hp} {refs : List Addr} {rows : List (List IW)} {xs : List V} (e : ButL g H H') (hg : H g = some (.lst xs)) (ne : g ∉ refs) (h : RowsAt H refs rows) : RowsAt H' refs rows :=
  ⟨h.1, fun j row hj => let ⟨a, h1, h2⟩ := h.2 j row hj; ⟨a, h1, h2.but e hg (fun z => ne (by rw [← z]; exact List.mem_of_getElem? h1))⟩⟩
/-- while the rows are gone through: done before, cur now -/
structure RI (H0 H : Hp) (L : Addr) (rs : List Addr) (c : Addr) (done : List (List IW)) (cur : List IW) : Prop where
  same : Same H0 H
  l : H L = some (.lst ((rs ++ [c]).map V.ref))
  nl : H0 L = none
  nc : H0 c = none
  cL : c ≠ L
  cr : c ∉ rs
  Lr : L ∉ rs
  rows : RowsAt H rs done
  row : RowW H c cur
theorem atI_last1 {α : Type} (l : List α) (x : α) : atI (l ++ [x]) (-1) = some x := by
  unfold atI ixN
  rw [if_neg (by decide), if_pos (by rw [List.length_append]; simp only [List.length_cons, List.length_nil]; omega)]
  show (l ++ [x])[((-1 : Int) + (l ++ [x]).length).toNat]? = _
  rw [show ((-1 : Int) + (l ++ [x]).length).toNat = l.length by rw [List.length_append]; simp only [List.length_cons, List.length_nil]; omega, List.getElem?_append_right (Nat.le_refl _), Nat.sub_self]
  rfl
theorem cutV_drop1 (xs : List V) (x : V) : cutV (xs ++ [x]) none (some (-1)) = xs := by
  unfold cutV HT.sIx
  simp only [Nat.sub_zero, List.drop_zero]
  rw [if_pos (by decide)]
  rw [show ((-1 : Int) + ((xs ++ [x]).length : Nat)).toNat = xs.length by rw [List.length_append]; simp only [List.length_cons, List.length_nil]; omega]
  rw [List.take_append_of_le_length (Nat.le_refl _), List.take_length]
theorem k_itT {J : It} {n : Nat} {G : Hp → Prop} {Y : Nat → Hp → V → Hp → Prop} {g : TG} {t : TS} {nx : St → Hp → Prop} {rt : VK} {σ : St} {H : Hp} (w : Walk J n G Y) (Pv : Nat → St → Hp → Prop) (h0 : Pv 0 σ H) (hG : ∀ i σ H, i ≤ n → Pv i σ H → G H)
    (hs : ∀ i x σ H H', i < n → Pv i σ H → Y i H x H' → g x σ H' fun σ2 H2 => t ⟨Pv (i + 1), rt, nx, Pv (i + 1)⟩ σ2 H2) (hd : ∀ σ H, Pv n σ H → nx σ H) : forK J g t nx rt σ H :=
  for_it w (D := ⟨nx, rt, fun _ _ => False, fun _ _ => False⟩) Pv h0 hG hs hd
theorem k_enLT {K : PySem.W.Frag} {H : Hp} {a : Addr} {xs : List V} {R : It → Hp → Prop} (hx : SqL K H a xs) (h : R (Ite K a) H) : kEnum K [.ref a] H R := .inl ⟨a, xs, rfl, hx, h⟩
def optN : Option Nat → V
  | none => .non
  | some k => .int (k : Int)
def sp_rows_in (Γ : Gm) : Sp := fun vs H Q _ => ∃ a, ∃ ws : List Str, vs = [.ref a] ∧ H a = some (.lst (ws.map V.str)) ∧ ws.length ≤ 90000 ∧ ∀ p l refs H', Same H H' → H' p = some (.tup [.ref l, optN (rowsM 1 [] ws).2]) → H' l = some (.lst (refs.map V.ref)) → RowsAt H' refs (rowsM 1 [] ws).1 → Q (.ref p) H'
/-- rows_in: words, found, at, word -/
def t_rows_in (Γ : Gm) : TS := (tSeq (tAsg (tLst (tCons (tLst tNil) tNil)) (gName 1))
  (tSeq (tFor (iEnumS Γ.K (tCons (tVar 0) tNil)) (gTup Γ.K 2 (gCons (gName 2) (gCons (gName 3) gNil))) (tIfS (tTest (tOp (rNeU Γ.K) (tVar 3) (tC (.str "/")))) (tDrop (tBM Γ.K "list" rAppend (tOp (rIx Γ.K) (tVar 1) (tUn (rU fun i => .int (-i)) (tC (.int 1)))) (tCons (tTup (tCons (tOp (rAddU Γ.K) (tVar 2) (tC (.int 1))) (tCons (tVar 3) tNil))) tNil))) (tIfS (tTest (tOp (rEqU Γ.K) (tCB (rLen Γ.K) (tCons (tOp (rIx Γ.K) (tVar 1) (tUn (rU fun i => .int (-i)) (tC (.int 1)))) tNil)) (tC (.int 0)))) (tRet (tTup (tCons (tSl (rSlU Γ.K) (tVar 1) tNoPart (tPart (tUn (rU fun i => .int (-i)) (tC (.int 1))))) (tCons (tOp (rAddU Γ.K) (tVar 2) (tC (.int 1))) tNil)))) (tDrop (tBM Γ.K "list" rAppend (tVar 1) (tCons (tLst tNil) tNil))))))
  (tRet (tIf (tTest (tOp rGt (tCB (rLen Γ.K) (tCons (tOp (rIx Γ.K) (tVar 1) (tUn (rU fun i => .int (-i)) (tC (.int 1)))) tNil)) (tC (.int 0)))) (tTup (tCons (tVar 1) (tCons (tC .non) tNil))) (tTup (tCons (tSl (rSlU Γ.K) (tVar 1) tNoPart (tPart (tUn (rU fun i => .int (-i)) (tC (.int 1))))) (tCons (tOp (rAddU Γ.K) (tCB (rLen Γ.K) (tCons (tVar 0) tNil)) (tC (.int 1))) tNil)))))))
theorem rd_rows_in (Γ : Gm) (vs : List V) (H : Hp) (Q : VK) (E : XK) (h : sp_rows_in Γ vs H Q E) : t_rows_in Γ ⟨fun _ H' => Q .non H', Q, fun _ _ => False, fun _ _ => False⟩ (startN 4 vs) H := by
  obtain ⟨a, ws, rfl, ha, hz, k⟩ := h
  unfold t_rows_in
  walk_at "ss"
  refine n_lst fun c0 H1 f1 e1 g1 => ?_
  walk_at "ss"
  refine n_lst fun L H2 f2 e2 g2 => ?_
  walk_at "ss"
  have fL : H L = none := by
    cases hh : H L with
    | none => rfl
    | some o => rw [e1 _ _ hh] at f2; cases f2
  have e12 := e1.trans e2
  refine k_enLT (SqL.of (e12 _ _ ha)) ?_
  have ws_get : ∀ {i : Nat} {x : V}, (ws.map V.str)[i]? = some x → ∃ w, ws[i]? = some w ∧ x = .str w := fun {i x} h => by
    rw [List.getElem?_map] at h
    obtain ⟨w, hw, rfl⟩ := Option.map_eq_some_iff.mp h
    exact ⟨w, hw, rfl⟩
  have drop_at : ∀ {i : Nat} {w : Str}, ws[i]? = some w → ws.drop i = w :: ws.drop (i + 1) := fun {i w} h => by
    obtain ⟨lt, e⟩ := List.getElem?_eq_some_iff.mp h
    rw [List.drop_eq_getElem_cons lt, e]
  refine k_itT (walk_enum (K := Γ.K) (a := a) (xs := ws.map V.str)) (fun i σ H' => ∃ x2 x3 rs c done cur, σ = [some (.ref a), some (.ref L), x2, x3] ∧ RI H H' L rs c done cur ∧ rs.length + 1 ≤ i + 1 ∧ cur.length ≤ i ∧ rowsM 1 [] ws = (done ++ (rowsM (i + 1) cur (ws.drop i)).1, (rowsM (i + 1) cur (ws.drop i)).2))
    ⟨_, _, [], c0, [], [], rfl, ⟨e12, g2, fL, f1, ne_of_none g1 f2, by simp, by simp, RowsAt.nil, ⟨[], e2 _ _ g1, .nil⟩⟩, Nat.le_refl _, Nat.le_refl _, by simp⟩ (fun i σ H' _ ⟨_, _, _, _, _, _, _, I, _⟩ => SqL.of (I.same _ _ ha)) ?_ ?_
  · rintro i x σ H3 H4 hi ⟨x2, x3, rs, c, done, cur, rfl, I, l1, l2, m⟩ ⟨T, u, w, rfl, hT, rfl, hu, hw⟩
    cases hu
    obtain ⟨w, hw2, rfl⟩ := ws_get hw
    have eT := Same.new (o := .tup [.int (i : Nat), .str w]) hT
    have I4 : RI H (upd H3 T (.tup [.int (i : Nat), .str w])) L rs c done cur := ⟨I.same.trans eT, eT _ _ I.l, I.nl, I.nc, I.cL, I.cr, I.Lr, I.rows.mono eT, I.row.mono eT⟩
    refine w_gTup (xs := [.int (i : Nat), .str w]) (SqT.of upd_same) rfl ?_
    generalize upd H3 T (.tup [.int (i : Nat), .str w]) = H5 at I4 ⊢
    rw [drop_at hw2] at m
    have il : i < ws.length := (List.getElem?_eq_some_iff.mp hw2).1
    walk_at "ss"
    have hl4 := I4.l
    simp only [List.map_append, List.map_cons, List.map_nil] at hl4
    by_cases es : w = slash
    · rw [show decide (w = Str.ofString "/") = true from decide_eq_true es]
      walk_at "ss"
      refine w_ixL (SqL.of hl4) (atI_last1 _ _) ?_
      obtain ⟨ys, gy, ty⟩ := I4.row
      have ly := ty.length
      rw [List.length_map] at ly
      walk_at "ss"
      refine w_lenL (SqL.of gy) ?_
      walk_at "ss"
      by_cases ec : cur.isEmpty = true
      · have ec' : cur = [] := List.isEmpty_iff.mp ec
        have m' : rowsM 1 [] ws = (done, some (i + 1)) := by
          rw [m]
          simp only [rowsM]
          rw [if_pos es, if_pos ec, List.append_nil]
        rw [decide_eq_true (show ((ys.length : Nat) : Int) = 0 by rw [ly, ec']; rfl)]
        walk_at "ss"
        refine w_slL hl4 fun p H6 f6 e6 g6 => ?_
        rw [cutV_drop1] at g6
        walk_at "ss"
        refine n_tup fun q H7 f7 e7 g7 => ?_
        refine k q p rs H7 (I4.same.trans (e6.trans e7)) ?_ (e7 _ _ g6) ?_
        · rw [m', g7]
          show some (HO.tup [.ref p, .int ((i : Int) + 1)]) = some (.tup [.ref p, .int (((i + 1 : Nat)) : Int)])
          rw [show ((i : Int) + 1) = ((i + 1 : Nat) : Int) by omega]
        · rw [m']
          exact I4.rows.mono (e6.trans e7)
      · have ec' : cur ≠ [] := fun z => ec (by rw [z]; rfl)
        have cp : 0 < cur.length := List.length_pos_iff.mpr ec'
        rw [decide_eq_false (show ¬ ((ys.length : Nat) : Int) = 0 by omega)]
        walk_at "ss"
        refine w_tyL hl4 ?_
        walk_at "ss"
        refine n_lst fun c' H6 f6 e6 g6 => ?_
        walk_at "ss"
        have hl6 := e6 _ _ hl4
        have fc' : H c' = none := by
          cases hh : H c' with
          | none => rfl
          | some o => rw [I4.same _ _ hh] at f6; cases f6
        have nL : c' ≠ L := fun z => by rw [z, I4.l] at f6; cases f6
        have nrs : c' ∉ rs ++ [c] := fun z => by
          rcases List.mem_append.mp z with z | z
          · obtain ⟨j, hj⟩ := List.mem_iff_getElem?.mp z
            have jl : j < done.length := by rw [← I4.rows.1]; exact (List.getElem?_eq_some_iff.mp hj).1
            obtain ⟨a', h1, ⟨zs, h2, _⟩⟩ := I4.rows.2 j _ (List.getElem?_eq_getElem jl)
            rw [hj] at h1
            cases h1
            rw [f6] at h2
            cases h2
          · rw [List.mem_singleton] at z
            rw [z, gy] at f6
            cases f6
        refine w_app hl6 (by rw [List.length_append, List.length_map]; simp only [List.length_cons, List.length_map, List.length_nil]; omega) ?_
        have bt : ButL L H6 (upd H6 L (.lst (rs.map V.ref ++ [.ref c] ++ [.ref c']))) := fun b o n hb => by rw [upd_ne n]; exact hb
        refine ⟨_, _, rs ++ [c], c', done ++ [cur], [], rfl, ⟨Same.mut (I4.same.trans e6) I.nl, ?_, I.nl, fc', nL, nrs, ?_, ?_, ?_⟩, ?_, Nat.zero_le _, ?_⟩
        · rw [upd_same, List.map_append, List.map_append]
          rfl
        · intro z
          rcases List.mem_append.mp z with z | z
          · exact I4.Lr z
          · rw [List.mem_singleton] at z
            exact I4.cL z.symm
        · refine ((I4.rows.snoc ⟨ys, gy, ty⟩).mono e6).but bt hl6 ?_
          intro z
          rcases List.mem_append.mp z with z | z
          · exact I4.Lr z
          · rw [List.mem_singleton] at z
            exact I4.cL z.symm
        · exact RowW.but bt hl6 nL ⟨[], g6, .nil⟩
        · rw [List.length_append]
          simp only [List.length_cons, List.length_nil]
          omega
        · rw [m]
          simp only [rowsM]
          rw [if_pos es, if_neg ec, List.append_assoc]
          rfl
    · rw [show decide (w = Str.ofString "/") = false from decide_eq_false es]
      walk_at "ss"
      refine w_ixL (SqL.of hl4) (atI_last1 _ _) ?_
      obtain ⟨ys, gy, ty⟩ := I4.row
      have ly := ty.length
      rw [List.length_map] at ly
      refine w_tyL gy ?_
      walk_at "ss"
      refine n_tup fun t H6 f6 e6 g6 => ?_
      walk_at "ss"
      have gy6 := e6 _ _ gy
      refine w_app gy6 (by omega) ?_
      have bt : ButL c H6 (upd H6 c (.lst (ys ++ [.ref t]))) := fun b o n hb => by rw [upd_ne n]; exact hb
      refine ⟨_, _, rs, c, done, cur ++ [(i + 1, w)], rfl, ⟨Same.mut (I4.same.trans e6) I.nc, ?_, I.nl, I.nc, I.cL, I.cr, I.Lr, ?_, ?_⟩, by omega, ?_, ?_⟩
      · rw [upd_ne (Ne.symm I.cL)]
        exact e6 _ _ I4.l
      · exact (I4.rows.mono e6).but bt gy6 I.cr
      · refine ⟨_, upd_same, ?_⟩
        rw [List.map_append]
        refine (ty.mono (e6.tups.trans (bt.tups gy6))).append (.cons (.tup (bt.tups gy6 _ _ g6) (.cons ?_ (.cons (.str w) .nil))) .nil)
        have : ((i : Int) + 1) = ((i + 1 : Nat) : Int) := by omega
        rw [this]
        exact .int _
      · rw [List.length_append]
        simp only [List.length_cons, List.length_nil]
        omega
      · rw [m]
        simp only [rowsM]
        rw [if_neg es]
  · rintro σ H3 ⟨x2, x3, rs, c, done, cur, rfl, I, l1, l2, m⟩
    rw [List.length_map, List.drop_length] at m
    rw [List.length_map] at l2
    have hl4 := I.l
    simp only [List.map_append, List.map_cons, List.map_nil] at hl4
    walk_at "ss"
    refine w_ixL (SqL.of hl4) (atI_last1 _ _) ?_
    obtain ⟨ys, gy, ty⟩ := I.row
    have ly := ty.length
    rw [List.length_map] at ly
    walk_at "ss"
    refine w_lenL (SqL.of gy) ?_
    walk_at "ss"
    by_cases ec : cur.isEmpty = true
    · have ec' : cur = [] := List.isEmpty_iff.mp ec
      have m' : rowsM 1 [] ws = (done, some (ws.length + 1)) := by
        rw [m]
        simp only [rowsM]
        rw [if_pos ec, List.append_nil]
      rw [decide_eq_false (show ¬ (0 : Int) < (ys.length : Nat) by rw [ly, ec']; decide)]
      walk_at "ss"
      refine w_slL hl4 fun p H6 f6 e6 g6 => ?_
      rw [cutV_drop1] at g6
      walk_at "ss"
      refine w_lenL (SqL.of ((I.same.trans e6) _ _ ha)) ?_
      walk_at "ss"
      refine n_tup fun q H7 f7 e7 g7 => ?_
      refine k q p rs H7 (I.same.trans (e6.trans e7)) ?_ (e7 _ _ g6) ?_
      · rw [m', g7, List.length_map]
        show some (HO.tup [.ref p, .int (((ws.length : Nat) : Int) + 1)]) = some (.tup [.ref p, .int (((ws.length + 1 : Nat)) : Int)])
        rw [show (((ws.length : Nat) : Int) + 1) = ((ws.length + 1 : Nat) : Int) by omega]
      · rw [m']
        exact I.rows.mono (e6.trans e7)
    · have ec' : cur ≠ [] := fun z => ec (by rw [z]; rfl)
      have cp : 0 < cur.length := List.length_pos_iff.mpr ec'
      have m' : rowsM 1 [] ws = (done ++ [cur], none) := by
        rw [m]
        simp only [rowsM]
        rw [if_neg ec]
      rw [decide_eq_true (show (0 : Int) < (ys.length : Nat) by omega)]
      walk_at "ss"
      refine n_tup fun q H7 f7 e7 g7 => ?_
      refine k q L (rs ++ [c]) H7 (I.same.trans e7) ?_ (e7 _ _ I.l) ?_
      · rw [m']
        exact g7
      · rw [m']
        exact (I.rows.snoc ⟨ys, gy, ty⟩).mono e7

/-! ### what rows of words say, plain -/
inductive Out (α : Type) where
  | er (k : Int)
  | ok (xs : List α)
def Out.pre {α : Type} (xs : List α) : Out α → Out α
  | .er k => .er k
  | .ok ys => .ok (xs ++ ys)
def Out.andThen {α β : Type} (o : Out α) (f : List α → Out β) : Out β := match o with
  | .er k => .er k
  | .ok t => f t
theorem Out.pre_nil {α : Type} (o : Out α) : o.pre [] = o := by cases o <;> rfl
theorem Out.pre_pre {α : Type} (xs ys : List α) (o : Out α) : (o.pre ys).pre xs = o.pre (xs ++ ys) := by
  cases o with
  | er k => rfl
  | ok zs => show Out.ok (xs ++ (ys ++ zs)) = .ok (xs ++ ys ++ zs); rw [List.append_assoc]
/-- the numbers of a row, the p-th word by f p -/
def rowG (f : Nat → Str → Option Int) : Nat → List IW → Out Int
  | _, [] => .ok []
  | p, w :: r => match f p w.2 with
    | none => .er (w.1 : Int)
    | some n => (rowG f (p + 1) r).pre [n]
def fstI : List IW → Int
  | [] => 0
  | w :: _ => (w.1 : Int)
def lastI (row : List IW) : Int := match row.getLast? with
  | none => 0
  | some w => (w.1 : Int)
def rowC (f : Nat → Str → Option Int) (need : Nat) (row : List IW) : Out Int := match rowG f 0 row with
  | .er k => .er k
  | .ok ns => if ns.length < need then .er (lastI row + 1) else .ok ns
def fTerm (p : Nat) (w : Str) : Option Int := if p < 3 then (if p = 0 then numW w (-1000000) 1000000 else numW w 0 4) else none
def fTab (due p : Nat) (w : Str) : Option Int := if p < min due 39 then numW w (-1000000) 1000000 else none
def termsM : Nat → Option Nat → List (List IW) → Out (List Int)
  | i, e, [] => match e with
    | none => .ok []
    | some k => .er (if i < 6 then (k : Int) else (k : Int) - 1)
  | i, e, row :: rs => if i = 6 then .er (fstI row - 1) else (rowC fTerm 3 row).andThen fun t => (termsM (i + 1) e rs).pre [t]
def tableM : Nat → Int → Option Nat → List (List IW) → Out (List Int)
  | due, last, e, [] => match e with
    | some k => .er (if 0 < due then (k : Int) else (k : Int) - 1)
    | none => if 0 < due then .er (last + 1) else .ok []
  | due, _, e, row :: rs => if due = 0 then .er (fstI row - 1) else (rowC (fTab due) due row).andThen fun t => (tableM (due - 1) (lastI row) e rs).pre [t]
def tupI (ns : List Int) : PyData := .tuple (ns.map PyData.int)
abbrev sp_BadTextU_initU (Γ : Gm) : Sp := spOst Γ.cBadText "word"
def t_BadTextU_initU (Γ : Gm) : TS := tOst Γ.K "word" (tVar 0) (tVar 1)
theorem rd_BadTextU_initU (Γ : Gm) (F : ErrF Γ.K Γ.cBadText "word") (vs : List V) (H : Hp) (Q : VK) (E : XK) (h : sp_BadTextU_initU Γ vs H Q E) : t_BadTextU_initU Γ ⟨fun _ H' => Q .non H', Q, fun _ _ => False, fun _ _ => False⟩ (startN 2 vs) H := rd_ost F vs H Q E h
/-- what a bad word comes to -/
def BadAt (Γ : Gm) (H : Hp) (E : XK) (v : V) : Prop := ∀ d H', Same H H' → H' d = some (.xd [("word", v)]) → E (.ref Γ.cBadText) (some d) H'
theorem BadAt.mk {Γ : Gm} {H H1 : Hp} {E : XK} {v : V} (b : BadAt Γ H E v) (e : Same H H1) : kMkO Γ.cBadText (sp_BadTextU_initU Γ) [v] H1 fun cls d H' => E cls d H' := mkO_ost fun d H' _ e2 g => b d H' (e.trans e2) g
theorem ButL.same {g : Addr} {H H1 H2 : Hp} (n : H g = none) (a : Same H H1) (b : ButL g H1 H2) : Same H H2 := fun c o h => b c o (ne_of_none h n) (a c o h)
theorem _root_.L2.Same.butL {g : Addr} {H H' : Hp} (e : Same H H') : ButL g H H' := fun b o _ h => e b o h
theorem ButL.trans {g : Addr} {H H1 H2 : Hp} (a : ButL g H H1) (b : ButL g H1 H2) : ButL g H H2 := fun c o n h => b c o n (a c o n h)
theorem ButL.at {g : Addr} {H H' : Hp} {o : HO} (e : ButL g H H') : ButL g H (upd H' g o) := fun b u n h => by
  rw [upd_ne n]
  exact e b u n h
theorem RowW.get {H : Hp} {a : Addr} {row : List IW} (h : RowW H a row) : ∃ xs, H a = some (.lst xs) ∧ xs.length = row.length ∧ ∀ (i : Nat) (x : V), xs[i]? = some x → ∃ p w, x = .ref p ∧ row[i]? = some w ∧ H p = some (.tup [.int (w.1 : Int), .str w.2]) := by
  obtain ⟨xs, h1, h2⟩ := h
  refine ⟨xs, h1, by rw [h2.length, List.length_map], fun i x hx => ?_⟩
  obtain ⟨d, hd, tx⟩ := h2.get' hx
  rw [List.getElem?_map] at hd
  obtain ⟨w, hw, rfl⟩ := Option.map_eq_some_iff.mp hd
  obtain ⟨p, ys, rfl, hp, ty⟩ := Tp.inv (ds := [.int (w.1 : Int), .str w.2]) tx
  cases ty with
  | cons t1 r =>
    cases r with
    | cons t2 r =>
      cases r
      cases t1
      cases t2
      exact ⟨p, w, rfl, hw, hp⟩
theorem fst_at {H : Hp} {xs : List V} {row : List IW} (hr : row ≠ []) (hl : xs.length = row.length) (h : ∀ (i : Nat) (x : V), xs[i]? = some x → ∃ p w, x = .ref p ∧ row[i]? = some w ∧ H p = some (.tup [.int (w.1 : Int), .str w.2])) : ∃ p s, atI xs 0 = some (.ref p) ∧ H p = some (.tup [.int (fstI row), .str s]) := by
  cases row with
  | nil => exact absurd rfl hr
  | cons w r =>
    cases xs with
    | nil => cases hl
    | cons x xs =>
      obtain ⟨p, w', rfl, hw, hp⟩ := h 0 x rfl
      cases hw
      exact ⟨p, _, atI0 _ _, hp⟩
theorem last_at {H : Hp} {xs : List V} {row : List IW} (hr : row ≠ []) (hl : xs.length = row.length) (h : ∀ (i : Nat) (x : V), xs[i]? = some x → ∃ p w, x = .ref p ∧ row[i]? = some w ∧ H p = some (.tup [.int (w.1 : Int), .str w.2])) : ∃ p s, atI xs (-1) = some (.ref p) ∧ H p = some (.tup [.int (lastI row), .str s]) := by
  have lp : 0 < row.length := List.length_pos_iff.mpr hr
  obtain ⟨x, hx⟩ : ∃ x, xs[xs.length - 1]? = some x := ⟨_, List.getElem?_eq_getElem (by omega)⟩
  obtain ⟨p, w, rfl, hw, hp⟩ := h _ x hx
  refine ⟨p, w.2, ?_, ?_⟩
  · unfold atI ixN
    rw [if_neg (by decide), if_pos (by omega)]
    show xs[((-1 : Int) + xs.length).toNat]? = _
    rw [show ((-1 : Int) + xs.length).toNat = xs.length - 1 by omega]
    exact hx
  · rw [hp]
    have : lastI row = (w.1 : Int) := by
      unfold lastI
      rw [List.getLast?_eq_getElem?, ← hl, hw]
    rw [this]
theorem drop_row {α : Type} {l : List α} {i : Nat} {w : α} (h : l[i]? = some w) : l.drop i = w :: l.drop (i + 1) := by
  obtain ⟨lt, e⟩ := List.getElem?_eq_some_iff.mp h
  rw [List.drop_eq_getElem_cons lt, e]
/-- the numbers from words, the tuple of the row -/
theorem optV_isN {o : Option Int} : decide (optV o = V.non) = o.isNone := by cases o <;> rfl
/-! ### terms_in -/
def sp_terms_in (Γ : Gm) : Sp := fun vs H Q E => ∃ a refs rows e, vs = [.ref a, optN e] ∧ H a = some (.lst (refs.map V.ref)) ∧ RowsAt H refs rows ∧ (∀ row ∈ rows, row ≠ [] ∧ row.length ≤ 90000 ∧ ∀ w ∈ row, w.2.length ≤ 100000) ∧ (∀ k, termsM 0 e rows = .er k → BadAt Γ H E (.int k)) ∧
  ∀ ts, termsM 0 e rows = .ok ts → ∀ v H', Same H H' → Tp H' v (.tuple (ts.map tupI)) → Q v H'
/-- terms_in: rows, empty, found, row, numbers, place, at, word, low, high, number -/
def t_terms_in (Γ : Gm) (E : XK) : TS := (tSeq (tAsg (tLst tNil) (gName 2))
  (tSeq (tFor (iSeq Γ.K (tVar 0)) (gName 3) (tSeq (tIfS (tTest (tOp (rEqU Γ.K) (tCB (rLen Γ.K) (tCons (tVar 2) tNil)) (tC (.int 6)))) (tRaiseO Γ.cBadText (sp_BadTextU_initU Γ) (tCons (tOp rSubI (tOp (rIx Γ.K) (tOp (rIx Γ.K) (tVar 3) (tC (.int 0))) (tC (.int 0))) (tC (.int 1))) tNil) (fun cls d _ H => E cls d H)) tNext)
  (tSeq (tAsg (tLst tNil) (gName 4))
  (tSeq (tFor (iEnumS Γ.K (tCons (tVar 3) tNil)) (gTup Γ.K 2 (gCons (gName 5) (gCons (gTup Γ.K 2 (gCons (gName 6) (gCons (gName 7) gNil))) gNil))) (tSeq (tAsg (tIf (tTest (tOp (rEqU Γ.K) (tVar 5) (tC (.int 0)))) (tTup (tCons (tOp rSubI (tC (.int 0)) (tC (.int 1000000))) (tCons (tC (.int 1000000)) tNil))) (tTup (tCons (tC (.int 0)) (tCons (tC (.int 4)) tNil)))) (gTup Γ.K 2 (gCons (gName 8) (gCons (gName 9) gNil))))
  (tSeq (tAsg (tIf (tTest (tOp rLt (tVar 5) (tC (.int 3)))) (tCal (sp_number_in Γ) E0 (tCons (tVar 7) (tCons (tVar 8) (tCons (tVar 9) tNil)))) (tC .non)) (gName 10))
  (tSeq (tIfS (tTest (tOp rIsU (tVar 10) (tC .non))) (tRaiseO Γ.cBadText (sp_BadTextU_initU Γ) (tCons (tVar 6) tNil) (fun cls d _ H => E cls d H)) tNext)
  (tDrop (tBM Γ.K "list" rAppend (tVar 4) (tCons (tVar 10) tNil)))))))
  (tSeq (tIfS (tTest (tOp rLt (tCB (rLen Γ.K) (tCons (tVar 4) tNil)) (tC (.int 3)))) (tRaiseO Γ.cBadText (sp_BadTextU_initU Γ) (tCons (tOp (rAddU Γ.K) (tOp (rIx Γ.K) (tOp (rIx Γ.K) (tVar 3) (tUn (rU fun i => .int (-i)) (tC (.int 1)))) (tC (.int 0))) (tC (.int 1))) tNil) (fun cls d _ H => E cls d H)) tNext)
  (tDrop (tBM Γ.K "list" rAppend (tVar 2) (tCons (tCB (rTupOf Γ.K) (tCons (tVar 4) tNil)) tNil))))))))
  (tSeq (tIfS (tTest (tOp rNotIsU (tVar 1) (tC .non))) (tRaiseO Γ.cBadText (sp_BadTextU_initU Γ) (tCons (tIf (tTest (tOp rLt (tCB (rLen Γ.K) (tCons (tVar 2) tNil)) (tC (.int 6)))) (tVar 1) (tOp rSubI (tVar 1) (tC (.int 1)))) tNil) (fun cls d _ H => E cls d H)) tNext)
  (tRet (tCB (rTupOf Γ.K) (tCons (tVar 2) tNil))))))
theorem rd_terms_in (Γ : Gm) (vs : List V) (H : Hp) (Q : VK) (E : XK) (h : sp_terms_in Γ vs H Q E) : t_terms_in Γ E ⟨fun _ H' => Q .non H', Q, fun _ _ => False, fun _ _ => False⟩ (startN 11 vs) H := by
  obtain ⟨a, refs, rows, e, rfl, ha, hrows, hsm, kb, kg⟩ := h
  unfold t_terms_in
  walk_at "ss"
  refine n_lst fun F H1 f1 e1 g1 => ?_
  walk_at "ss"
  refine k_seqL (SqL.of (e1 _ _ ha)) ?_
  refine k_list (xs := refs.map V.ref) (fun j σ H' => ∃ x3 x4 x5 x6 x7 x8 x9 x10 ys ts, σ = [some (.ref a), some (optN e), some (.ref F), x3, x4, x5, x6, x7, x8, x9, x10] ∧ Same H H' ∧ H' F = some (.lst ys) ∧ TpAll H' ys (ts.map tupI) ∧ ts.length = j ∧ j ≤ 6 ∧ termsM 0 e rows = (termsM j e (rows.drop j)).pre ts)
    ⟨_, _, _, _, _, _, _, _, [], [], rfl, e1, g1, .nil, rfl, Nat.zero_le _, (Out.pre_nil _).symm⟩ (fun j σ H' _ ⟨_, _, _, _, _, _, _, _, _, _, _, e, _⟩ => SqL.of (e _ _ ha)) ?_ ?_
  · rintro j x σ H2 hx ⟨x3, x4, x5, x6, x7, x8, x9, x10, ys, ts, rfl, e2, gF, tF, lt, l6, m⟩
    rw [List.getElem?_map] at hx
    obtain ⟨rr, hrr, rfl⟩ := Option.map_eq_some_iff.mp hx
    have jl : j < rows.length := by rw [← hrows.1]; exact (List.getElem?_eq_some_iff.mp hrr).1
    have hrow : rows[j]? = some rows[j] := List.getElem?_eq_getElem jl
    obtain ⟨rr', h1, hW⟩ := hrows.2 j _ hrow
    rw [hrr] at h1
    cases h1
    have sm := hsm rows[j] (List.getElem_mem jl)
    rw [drop_row hrow] at m
    generalize rows[j] = row at hrow hW sm m
    obtain ⟨rne, rlen, rsm⟩ := sm
    obtain ⟨xs, gx, lx, hxs⟩ := (hW.mono e2).get
    have lys := tF.length
    rw [List.length_map] at lys
    walk_at "ss"
    refine w_lenL (SqL.of gF) ?_
    walk_at "ss"
    by_cases j6 : j = 6
    · rw [decide_eq_true (show ((ys.length : Nat) : Int) = 6 by omega)]
      walk_at "ss"
      refine w_raiseO ?_
      walk_at "ss"
      obtain ⟨p, s, a1, a2⟩ := fst_at rne lx hxs
      refine w_ixL (SqL.of gx) a1 ?_
      walk_at "ss"
      refine w_ixT (SqT.of a2) (atI0 _ _) ?_
      walk_at "ss"
      have : termsM 0 e rows = .er (fstI row - 1) := by
        rw [m]
        simp only [termsM]
        rw [if_pos j6]
        rfl
      exact (kb _ this).mk e2
    rw [decide_eq_false (show ¬ ((ys.length : Nat) : Int) = 6 by omega)]
    walk_at "ss"
    have m2 : termsM 0 e rows = ((rowC fTerm 3 row).andThen fun t => (termsM (j + 1) e (rows.drop (j + 1))).pre [t]).pre ts := by
      rw [m]
      simp only [termsM]
      rw [if_neg j6]
    refine n_lst fun N H3 f3 e3 g3 => ?_
    walk_at "ss"
    have fN : H N = none := by
      cases hh : H N with
      | none => rfl
      | some o => rw [e2 _ _ hh] at f3; cases f3
    have nF : N ≠ F := fun z => by rw [z, gF] at f3; cases f3
    have gx3 := e3 _ _ gx
    refine k_enLT (SqL.of gx3) ?_
    have nrr : rr ≠ N := ne_of_none gx f3
    refine k_itT (walk_enum (K := Γ.K) (a := rr) (xs := xs)) (fun p σ H' => ∃ x5 x6 x7 x8 x9 x10 ns, σ = [some (.ref a), some (optN e), some (.ref F), some (.ref rr), some (.ref N), x5, x6, x7, x8, x9, x10] ∧ ButL N H3 H' ∧ H' N = some (.lst (ns.map V.int)) ∧ ns.length = p ∧ rowG fTerm 0 row = (rowG fTerm p (row.drop p)).pre ns)
      ⟨_, _, _, _, _, _, [], rfl, fun _ _ _ h => h, g3, rfl, (Out.pre_nil _).symm⟩ (fun p σ H' _ ⟨_, _, _, _, _, _, _, _, b, _⟩ => SqL.of (b _ _ nrr gx3)) ?_ ?_
    · rintro p x σ H4 H5 hp ⟨x5', x6', x7', x8', x9', x10', ns, rfl, b4, gN, ln, mg⟩ ⟨T, u, v, rfl, hT, rfl, hu, hv⟩
      cases hu
      obtain ⟨q, w, rfl, hw, hq⟩ := hxs p v hv
      have eT := Same.new (o := .tup [.int (p : Nat), .ref q]) hT
      have hq4 : H4 q = some (.tup [.int (w.1 : Int), .str w.2]) := b4 _ _ (fun z => by rw [z] at hq; rw [hq] at f3; cases f3) (e3 _ _ hq)
      have wz := rsm w (List.mem_of_getElem? hw)
      refine w_gTup (xs := [.int (p : Nat), .ref q]) (SqT.of upd_same) rfl ?_
      have b5 := b4.trans (eT.butL (g := N))
      have gN5 := eT _ _ gN
      have hq5 := eT _ _ hq4
      generalize upd H4 T (.tup [.int (p : Nat), .ref q]) = H6 at b5 gN5 hq5 ⊢
      refine w_gCons ?_
      refine w_gName ?_
      refine w_gCons ?_
      refine w_gTup (SqT.of hq5) rfl ?_
      walk_at "ss"
      have mg' : rowG fTerm 0 row = (match fTerm p w.2 with
          | none => Out.er (w.1 : Int)
          | some n => (rowG fTerm (p + 1) (row.drop (p + 1))).pre [n]).pre ns := by
        rw [mg, drop_row hw]
        rfl
      have s5 : Same H H6 := ButL.same fN (e2.trans e3) b5
      -- the bounds, then the number
      have body : ∀ (lo hi : Int) (H7 : Hp), Same H6 H7 → (p < 3 → numW w.2 lo hi = fTerm p w.2) →
          tSeq (tAsg (tIf (tTest (tOp rLt (tVar 5) (tC (.int 3)))) (tCal (sp_number_in Γ) E0 (tCons (tVar 7) (tCons (tVar 8) (tCons (tVar 9) tNil)))) (tC .non)) (gName 10))
            (tSeq (tIfS (tTest (tOp rIsU (tVar 10) (tC .non))) (tRaiseO Γ.cBadText (sp_BadTextU_initU Γ) (tCons (tVar 6) tNil) (fun cls d _ H => E cls d H)) tNext)
            (tDrop (tBM Γ.K "list" rAppend (tVar 4) (tCons (tVar 10) tNil))))
          ⟨fun σ H' => ∃ x5 x6 x7 x8 x9 x10 ns, σ = [some (.ref a), some (optN e), some (.ref F), some (.ref rr), some (.ref N), x5, x6, x7, x8, x9, x10] ∧ ButL N H3 H' ∧ H' N = some (.lst (ns.map V.int)) ∧ ns.length = p + 1 ∧ rowG fTerm 0 row = (rowG fTerm (p + 1) (row.drop (p + 1))).pre ns, Q,
            tSeq (tIfS (tTest (tOp rLt (tCB (rLen Γ.K) (tCons (tVar 4) tNil)) (tC (.int 3)))) (tRaiseO Γ.cBadText (sp_BadTextU_initU Γ) (tCons (tOp (rAddU Γ.K) (tOp (rIx Γ.K) (tOp (rIx Γ.K) (tVar 3) (tUn (rU fun i => .int (-i)) (tC (.int 1)))) (tC (.int 0))) (tC (.int 1))) tNil) (fun cls d _ H => E cls d H)) tNext)
              (tDrop (tBM Γ.K "list" rAppend (tVar 2) (tCons (tCB (rTupOf Γ.K) (tCons (tVar 4) tNil)) tNil)))
              ⟨fun σ H' => ∃ x3 x4 x5 x6 x7 x8 x9 x10 ys ts, σ = [some (.ref a), some (optN e), some (.ref F), x3, x4, x5, x6, x7, x8, x9, x10] ∧ Same H H' ∧ H' F = some (.lst ys) ∧ TpAll H' ys (ts.map tupI) ∧ ts.length = j + 1 ∧ j + 1 ≤ 6 ∧ termsM 0 e rows = (termsM (j + 1) e (rows.drop (j + 1))).pre ts, Q,
                tSeq (tIfS (tTest (tOp rNotIsU (tVar 1) (tC .non))) (tRaiseO Γ.cBadText (sp_BadTextU_initU Γ) (tCons (tIf (tTest (tOp rLt (tCB (rLen Γ.K) (tCons (tVar 2) tNil)) (tC (.int 6)))) (tVar 1) (tOp rSubI (tVar 1) (tC (.int 1)))) tNil) (fun cls d _ H => E cls d H)) tNext) (tRet (tCB (rTupOf Γ.K) (tCons (tVar 2) tNil))) ⟨fun _ H' => Q .non H', Q, fun _ _ => False, fun _ _ => False⟩,
                fun σ H' => ∃ x3 x4 x5 x6 x7 x8 x9 x10 ys ts, σ = [some (.ref a), some (optN e), some (.ref F), x3, x4, x5, x6, x7, x8, x9, x10] ∧ Same H H' ∧ H' F = some (.lst ys) ∧ TpAll H' ys (ts.map tupI) ∧ ts.length = j + 1 ∧ j + 1 ≤ 6 ∧ termsM 0 e rows = (termsM (j + 1) e (rows.drop (j + 1))).pre ts⟩,
            fun σ H' => ∃ x5 x6 x7 x8 x9 x10 ns, σ = [some (.ref a), some (optN e), some (.ref F), some (.ref rr), some (.ref N), x5, x6, x7, x8, x9, x10] ∧ ButL N H3 H' ∧ H' N = some (.lst (ns.map V.int)) ∧ ns.length = p + 1 ∧ rowG fTerm 0 row = (rowG fTerm (p + 1) (row.drop (p + 1))).pre ns⟩
          [some (.ref a), some (optN e), some (.ref F), some (.ref rr), some (.ref N), some (.int (p : Nat)), some (.int (w.1 : Int)), some (.str w.2), some (.int lo), some (.int hi), x10'] H7 := by
        intro lo hi H7 e7 hf
        have b7 := b5.trans (e7.butL (g := N))
        have gN7 := e7 _ _ gN5
        have bad : fTerm p w.2 = none → ∀ H8, Same H7 H8 → kMkO Γ.cBadText (sp_BadTextU_initU Γ) [.int (w.1 : Int)] H8 fun cls d H' => E cls d H' := fun z H8 e8 => by
          have : termsM 0 e rows = .er (w.1 : Int) := by
            rw [m2]
            unfold rowC
            rw [mg', z]
            rfl
          exact (kb _ this).mk (s5.trans (e7.trans e8))
        walk_at "ss"
        by_cases p3 : p < 3
        · rw [decide_eq_true (show ((p : Nat) : Int) < 3 by omega)]
          walk_at "ss"
          refine ⟨w.2, lo, hi, rfl, wz, fun H8 e8 => ?_⟩
          rw [hf p3]
          walk_at "ss"
          rw [optV_isN]
          cases hn : fTerm p w.2 with
          | none =>
            refine w_ifY rfl ?_
            refine w_raiseO ?_
            walk_at "ss"
            exact bad hn H8 e8
          | some n =>
            refine w_ifN rfl ?_
            walk_at "ss"
            have gN8 := e8 _ _ gN7
            refine w_tyL gN8 ?_
            show tVar 10 _ _ _
            refine w_var (by with_unfolding_all rfl) ?_
            walk_at "ss"
            refine w_app gN8 (by rw [List.length_map]; omega) ?_
            refine ⟨_, _, _, _, _, _, ns ++ [n], rfl, (b7.trans e8.butL).at, ?_, by rw [List.length_append, ln]; rfl, ?_⟩
            · rw [upd_same, List.map_append]
              rfl
            · rw [mg', hn]
              exact Out.pre_pre _ _ _
        · have z : fTerm p w.2 = none := by unfold fTerm; rw [if_neg p3]
          rw [decide_eq_false (show ¬ ((p : Nat) : Int) < 3 by omega)]
          walk_at "ss"
          rw [decide_eq_true rfl]
          walk_at "ss"
          refine w_raiseO ?_
          walk_at "ss"
          exact bad z H7 (Same.refl H7)
      by_cases p0 : p = 0
      · rw [decide_eq_true (show ((p : Nat) : Int) = 0 by omega)]
        walk_at "ss"
        refine n_tup fun t7 H7 f7 e7 g7 => ?_
        refine w_gTup (SqT.of g7) rfl ?_
        refine w_gCons ?_
        refine w_gName ?_
        refine w_gCons ?_
        refine w_gName ?_
        refine w_gNil ?_
        exact body (0 - 1000000) 1000000 H7 e7 fun p3 => by unfold fTerm; rw [if_pos p3, if_pos p0]; rfl
      · rw [decide_eq_false (show ¬ ((p : Nat) : Int) = 0 by omega)]
        walk_at "ss"
        refine n_tup fun t7 H7 f7 e7 g7 => ?_
        refine w_gTup (SqT.of g7) rfl ?_
        refine w_gCons ?_
        refine w_gName ?_
        refine w_gCons ?_
        refine w_gName ?_
        refine w_gNil ?_
        exact body 0 4 H7 e7 fun p3 => by unfold fTerm; rw [if_pos p3, if_neg p0]
    · rintro σ H4 ⟨x5', x6', x7', x8', x9', x10', ns, rfl, b4, gN, ln, mg⟩
      rw [lx] at ln mg
      rw [List.drop_length] at mg
      have mg' : rowG fTerm 0 row = .ok ns := by rw [mg]; show Out.ok (ns ++ []) = _; rw [List.append_nil]
      have s4 : Same H H4 := ButL.same fN (e2.trans e3) b4
      walk_at "ss"
      refine w_lenL (SqL.of gN) ?_
      walk_at "ss"
      rw [List.length_map]
      by_cases n3 : ns.length < 3
      · rw [decide_eq_true (show ((ns.length : Nat) : Int) < 3 by omega)]
        walk_at "ss"
        refine w_raiseO ?_
        walk_at "ss"
        obtain ⟨p, s, a1, a2⟩ := last_at rne lx hxs
        have npN : p ≠ N := fun z => by rw [z] at a2; rw [a2] at f3; cases f3
        refine w_ixL (SqL.of (b4 _ _ nrr gx3)) a1 ?_
        walk_at "ss"
        refine w_ixT (SqT.of (b4 _ _ npN (e3 _ _ a2))) (atI0 _ _) ?_
        walk_at "ss"
        have : termsM 0 e rows = .er (lastI row + 1) := by
          rw [m2]
          unfold rowC
          rw [mg']
          simp only
          rw [if_pos n3]
          rfl
        exact (kb _ this).mk s4
      · rw [decide_eq_false (show ¬ ((ns.length : Nat) : Int) < 3 by omega)]
        walk_at "ss"
        have gF4 : H4 F = some (.lst ys) := b4 _ _ (Ne.symm nF) (e3 _ _ gF)
        refine w_tyL gF4 ?_
        walk_at "ss"
        refine w_tupL (SqL.of gN) fun t5 H5 f5 e5 g5 => ?_
        walk_at "ss"
        have gF5 := e5 _ _ gF4
        refine w_app gF5 (by omega) ?_
        have bF : ButL F H5 (upd H5 F (.lst (ys ++ [.ref t5]))) := fun b o n hb => by rw [upd_ne n]; exact hb
        have fF : H F = none := f1
        refine ⟨_, _, _, _, _, _, _, _, ys ++ [.ref t5], ts ++ [ns], rfl, Same.mut (s4.trans e5) fF, upd_same, ?_, by rw [List.length_append, lt]; rfl, by omega, ?_⟩
        · rw [List.map_append]
          have tb : Tups H2 H4 := fun b zs hz => b4 _ _ (fun z => by rw [z] at hz; rw [hz] at f3; cases f3) (e3 _ _ hz)
          refine (tF.mono (tb.trans (e5.tups.trans (bF.tups gF5)))).append (.cons (.tup (bF.tups gF5 _ _ g5) (TpAll.of_ints _ _)) .nil)
        · rw [m2]
          unfold rowC
          rw [mg']
          simp only
          rw [if_neg n3]
          exact Out.pre_pre _ _ _
  · rintro σ H2 ⟨x3, x4, x5, x6, x7, x8, x9, x10, ys, ts, rfl, e2, gF, tF, lt, l6, m⟩
    rw [List.length_map, hrows.1, List.drop_length] at m
    rw [List.length_map, hrows.1] at lt l6
    have lys := tF.length
    rw [List.length_map] at lys
    cases e with
    | none =>
      have m' : termsM 0 none rows = .ok ts := by rw [m]; show Out.ok (ts ++ []) = _; rw [List.append_nil]
      show tSeq _ _ _ [some (.ref a), some .non, some (.ref F), x3, x4, x5, x6, x7, x8, x9, x10] _
      walk_at "ss"
      rw [decide_eq_true rfl]
      walk_at "ss"
      refine w_tupL (SqL.of gF) fun t5 H5 f5 e5 g5 => ?_
      exact kg ts m' _ H5 (e2.trans e5) (.tup g5 (tF.mono e5.tups))
    | some k =>
      have m' : termsM 0 (some k) rows = .er (if rows.length < 6 then (k : Int) else (k : Int) - 1) := by rw [m]; rfl
      show tSeq _ _ _ [some (.ref a), some (.int (k : Int)), some (.ref F), x3, x4, x5, x6, x7, x8, x9, x10] _
      walk_at "ss"
      rw [decide_eq_false (fun z => nomatch z)]
      walk_at "ss"
      refine w_raiseO ?_
      walk_at "ss"
      refine w_lenL (SqL.of gF) ?_
      walk_at "ss"
      by_cases r6 : rows.length < 6
      · rw [if_pos r6] at m'
        rw [decide_eq_true (show ((ys.length : Nat) : Int) < 6 by omega)]
        walk_at "ss"
        exact (kb _ m').mk e2
      · rw [if_neg r6] at m'
        rw [decide_eq_false (show ¬ ((ys.length : Nat) : Int) < 6 by omega)]
        walk_at "ss"
        exact (kb _ m').mk e2

/-! ### table_in -/
def due0 : List (List IW) → Nat
  | [] => 1
  | row :: _ => row.length
/-- the last index of the row ahead of the j-th -/
def lastB (rows : List (List IW)) : Nat → Int
  | 0 => 0
  | j + 1 => lastI (rows.getD j [])
def tabM (e : Option Nat) (rows : List (List IW)) : Out (List Int) := tableM (due0 rows) 0 e rows
def sp_table_in (Γ : Gm) : Sp := fun vs H Q E => ∃ a refs rows e, vs = [.ref a, optN e] ∧ H a = some (.lst (refs.map V.ref)) ∧ RowsAt H refs rows ∧ (∀ row ∈ rows, row ≠ [] ∧ row.length ≤ 90000 ∧ ∀ w ∈ row, w.2.length ≤ 100000) ∧ (rows = [] → e ≠ none) ∧ rows.length ≤ 90000 ∧
  (∀ k, tabM e rows = .er k → BadAt Γ H E (.int k)) ∧ ∀ ts, tabM e rows = .ok ts → ∀ v H', Same H H' → Tp H' v (.tuple (ts.map tupI)) → Q v H'
/-- table_in: rows, empty, found, due, row, numbers, place, at, word, number -/
def t_table_in (Γ : Gm) (E : XK) : TS := (tSeq (tPar 2 3 (tCons (tLst tNil) (tCons (tIf (tTest (tOp rGt (tCB (rLen Γ.K) (tCons (tVar 0) tNil)) (tC (.int 0)))) (tCB (rLen Γ.K) (tCons (tOp (rIx Γ.K) (tVar 0) (tC (.int 0))) tNil)) (tC (.int 1))) tNil)))
  (tSeq (tFor (iSeq Γ.K (tVar 0)) (gName 4) (tSeq (tIfS (tTest (tOp (rEqU Γ.K) (tVar 3) (tC (.int 0)))) (tRaiseO Γ.cBadText (sp_BadTextU_initU Γ) (tCons (tOp rSubI (tOp (rIx Γ.K) (tOp (rIx Γ.K) (tVar 4) (tC (.int 0))) (tC (.int 0))) (tC (.int 1))) tNil) (fun cls d _ H => E cls d H)) tNext)
  (tSeq (tAsg (tLst tNil) (gName 5))
  (tSeq (tFor (iEnumS Γ.K (tCons (tVar 4) tNil)) (gTup Γ.K 2 (gCons (gName 6) (gCons (gTup Γ.K 2 (gCons (gName 7) (gCons (gName 8) gNil))) gNil))) (tSeq (tAsg (tIf (tTest (tOp rLt (tVar 6) (tCB rMin2 (tCons (tVar 3) (tCons (tOp rSubI (tC (.int 40)) (tC (.int 1))) tNil))))) (tCal (sp_number_in Γ) E0 (tCons (tVar 8) (tCons (tOp rSubI (tC (.int 0)) (tC (.int 1000000))) (tCons (tC (.int 1000000)) tNil)))) (tC .non)) (gName 9))
  (tSeq (tIfS (tTest (tOp rIsU (tVar 9) (tC .non))) (tRaiseO Γ.cBadText (sp_BadTextU_initU Γ) (tCons (tVar 7) tNil) (fun cls d _ H => E cls d H)) tNext)
  (tDrop (tBM Γ.K "list" rAppend (tVar 5) (tCons (tVar 9) tNil))))))
  (tSeq (tIfS (tTest (tOp rLt (tCB (rLen Γ.K) (tCons (tVar 5) tNil)) (tVar 3))) (tRaiseO Γ.cBadText (sp_BadTextU_initU Γ) (tCons (tOp (rAddU Γ.K) (tOp (rIx Γ.K) (tOp (rIx Γ.K) (tVar 4) (tUn (rU fun i => .int (-i)) (tC (.int 1)))) (tC (.int 0))) (tC (.int 1))) tNil) (fun cls d _ H => E cls d H)) tNext)
  (tSeq (tDrop (tBM Γ.K "list" rAppend (tVar 2) (tCons (tCB (rTupOf Γ.K) (tCons (tVar 5) tNil)) tNil)))
  (tAug 3 (tC (.int 1)) (ipI fun i j => i - j))))))))
  (tSeq (tIfS (tTest (tOp rNotIsU (tVar 1) (tC .non))) (tRaiseO Γ.cBadText (sp_BadTextU_initU Γ) (tCons (tIf (tTest (tOp rGt (tVar 3) (tC (.int 0)))) (tVar 1) (tOp rSubI (tVar 1) (tC (.int 1)))) tNil) (fun cls d _ H => E cls d H)) tNext)
  (tSeq (tIfS (tTest (tOp rGt (tVar 3) (tC (.int 0)))) (tRaiseO Γ.cBadText (sp_BadTextU_initU Γ) (tCons (tOp (rAddU Γ.K) (tOp (rIx Γ.K) (tOp (rIx Γ.K) (tOp (rIx Γ.K) (tVar 0) (tUn (rU fun i => .int (-i)) (tC (.int 1)))) (tUn (rU fun i => .int (-i)) (tC (.int 1)))) (tC (.int 0))) (tC (.int 1))) tNil) (fun cls d _ H => E cls d H)) tNext)
  (tRet (tCB (rTupOf Γ.K) (tCons (tVar 2) tNil)))))))
theorem rd_table_in (Γ : Gm) (vs : List V) (H : Hp) (Q : VK) (E : XK) (h : sp_table_in Γ vs H Q E) : t_table_in Γ E ⟨fun _ H' => Q .non H', Q, fun _ _ => False, fun _ _ => False⟩ (startN 10 vs) H := by
  obtain ⟨a, refs, rows, e, rfl, ha, hrows, hsm, hne, hrl, kb, kg⟩ := h
  unfold t_table_in
  walk_at "ss"
  refine n_lst fun F H1 f1 e1 g1 => ?_
  walk_at "ss"
  have ha1 := e1 _ _ ha
  refine w_lenL (SqL.of ha1) ?_
  walk_at "ss"
  have hrows1 := hrows.mono e1
  -- the loop, once the number that is due is known
  have loop : kSeq Γ.K (.ref a) H1 fun J H1 => forK J (gName 4) (tSeq (tIfS (tTest (tOp (rEqU Γ.K) (tVar 3) (tC (.int 0)))) (tRaiseO Γ.cBadText (sp_BadTextU_initU Γ) (tCons (tOp rSubI (tOp (rIx Γ.K) (tOp (rIx Γ.K) (tVar 4) (tC (.int 0))) (tC (.int 0))) (tC (.int 1))) tNil) (fun cls d _ H => E cls d H)) tNext)
      (tSeq (tAsg (tLst tNil) (gName 5))
      (tSeq (tFor (iEnumS Γ.K (tCons (tVar 4) tNil)) (gTup Γ.K 2 (gCons (gName 6) (gCons (gTup Γ.K 2 (gCons (gName 7) (gCons (gName 8) gNil))) gNil))) (tSeq (tAsg (tIf (tTest (tOp rLt (tVar 6) (tCB rMin2 (tCons (tVar 3) (tCons (tOp rSubI (tC (.int 40)) (tC (.int 1))) tNil))))) (tCal (sp_number_in Γ) E0 (tCons (tVar 8) (tCons (tOp rSubI (tC (.int 0)) (tC (.int 1000000))) (tCons (tC (.int 1000000)) tNil)))) (tC .non)) (gName 9))
      (tSeq (tIfS (tTest (tOp rIsU (tVar 9) (tC .non))) (tRaiseO Γ.cBadText (sp_BadTextU_initU Γ) (tCons (tVar 7) tNil) (fun cls d _ H => E cls d H)) tNext)
      (tDrop (tBM Γ.K "list" rAppend (tVar 5) (tCons (tVar 9) tNil))))))
      (tSeq (tIfS (tTest (tOp rLt (tCB (rLen Γ.K) (tCons (tVar 5) tNil)) (tVar 3))) (tRaiseO Γ.cBadText (sp_BadTextU_initU Γ) (tCons (tOp (rAddU Γ.K) (tOp (rIx Γ.K) (tOp (rIx Γ.K) (tVar 4) (tUn (rU fun i => .int (-i)) (tC (.int 1)))) (tC (.int 0))) (tC (.int 1))) tNil) (fun cls d _ H => E cls d H)) tNext)
      (tSeq (tDrop (tBM Γ.K "list" rAppend (tVar 2) (tCons (tCB (rTupOf Γ.K) (tCons (tVar 5) tNil)) tNil)))
      (tAug 3 (tC (.int 1)) (ipI fun i j => i - j)))))))
      ((tSeq (tIfS (tTest (tOp rNotIsU (tVar 1) (tC .non))) (tRaiseO Γ.cBadText (sp_BadTextU_initU Γ) (tCons (tIf (tTest (tOp rGt (tVar 3) (tC (.int 0)))) (tVar 1) (tOp rSubI (tVar 1) (tC (.int 1)))) tNil) (fun cls d _ H => E cls d H)) tNext)
      (tSeq (tIfS (tTest (tOp rGt (tVar 3) (tC (.int 0)))) (tRaiseO Γ.cBadText (sp_BadTextU_initU Γ) (tCons (tOp (rAddU Γ.K) (tOp (rIx Γ.K) (tOp (rIx Γ.K) (tOp (rIx Γ.K) (tVar 0) (tUn (rU fun i => .int (-i)) (tC (.int 1)))) (tUn (rU fun i => .int (-i)) (tC (.int 1)))) (tC (.int 0))) (tC (.int 1))) tNil) (fun cls d _ H => E cls d H)) tNext)
      (tRet (tCB (rTupOf Γ.K) (tCons (tVar 2) tNil))))) ⟨fun _ H' => Q .non H', Q, fun _ _ => False, fun _ _ => False⟩) Q
      [some (.ref a), some (optN e), some (.ref F), some (.int (due0 rows : Nat)), none, none, none, none, none, none] H1 := by
    refine k_seqL (SqL.of ha1) ?_
    refine k_list (xs := refs.map V.ref) (fun j σ H' => ∃ x4 x5 x6 x7 x8 x9 ys ts, σ = [some (.ref a), some (optN e), some (.ref F), some (.int ((due0 rows - j : Nat) : Int)), x4, x5, x6, x7, x8, x9] ∧ Same H H' ∧ H' F = some (.lst ys) ∧ TpAll H' ys (ts.map tupI) ∧ ts.length = j ∧ j ≤ due0 rows ∧ tabM e rows = (tableM (due0 rows - j) (lastB rows j) e (rows.drop j)).pre ts)
      ⟨_, _, _, _, _, _, [], [], rfl, e1, g1, .nil, rfl, Nat.zero_le _, (Out.pre_nil _).symm⟩ (fun j σ H' _ ⟨_, _, _, _, _, _, _, _, _, e, _⟩ => SqL.of (e _ _ ha)) ?_ ?_
    · rintro j x σ H2 hx ⟨x4, x5, x6, x7, x8, x9, ys, ts, rfl, e2, gF, tF, lt, ljd, m⟩
      rw [List.getElem?_map] at hx
      obtain ⟨rr, hrr, rfl⟩ := Option.map_eq_some_iff.mp hx
      have jl : j < rows.length := by rw [← hrows.1]; exact (List.getElem?_eq_some_iff.mp hrr).1
      have hrow : rows[j]? = some rows[j] := List.getElem?_eq_getElem jl
      obtain ⟨rr', h1, hW⟩ := hrows.2 j _ hrow
      rw [hrr] at h1
      cases h1
      have sm := hsm rows[j] (List.getElem_mem jl)
      have lB : lastB rows (j + 1) = lastI rows[j] := by
        show lastI (rows.getD j []) = _
        rw [List.getD_eq_getElem?_getD, hrow]
        rfl
      rw [drop_row hrow] at m
      generalize rows[j] = row at hrow hW sm m lB
      obtain ⟨rne, rlen, rsm⟩ := sm
      obtain ⟨xs, gx, lx, hxs⟩ := (hW.mono e2).get
      have lys := tF.length
      rw [List.length_map] at lys
      generalize hdue : due0 rows - j = due at m ⊢
      walk_at "ss"
      by_cases d0 : due = 0
      · rw [decide_eq_true (show ((due : Nat) : Int) = 0 by omega)]
        walk_at "ss"
        refine w_raiseO ?_
        walk_at "ss"
        obtain ⟨p, s, a1, a2⟩ := fst_at rne lx hxs
        refine w_ixL (SqL.of gx) a1 ?_
        walk_at "ss"
        refine w_ixT (SqT.of a2) (atI0 _ _) ?_
        walk_at "ss"
        have : tabM e rows = .er (fstI row - 1) := by
          rw [m]
          simp only [tableM]
          rw [if_pos d0]
          rfl
        exact (kb _ this).mk e2
      rw [decide_eq_false (show ¬ ((due : Nat) : Int) = 0 by omega)]
      walk_at "ss"
      have m2 : tabM e rows = ((rowC (fTab due) due row).andThen fun t => (tableM (due - 1) (lastI row) e (rows.drop (j + 1))).pre [t]).pre ts := by
        rw [m]
        simp only [tableM]
        rw [if_neg d0]
      refine n_lst fun N H3 f3 e3 g3 => ?_
      walk_at "ss"
      have fN : H N = none := by
        cases hh : H N with
        | none => rfl
        | some o => rw [e2 _ _ hh] at f3; cases f3
      have nF : N ≠ F := fun z => by rw [z, gF] at f3; cases f3
      have gx3 := e3 _ _ gx
      refine k_enLT (SqL.of gx3) ?_
      have nrr : rr ≠ N := ne_of_none gx f3
      refine k_itT (walk_enum (K := Γ.K) (a := rr) (xs := xs)) (fun p σ H' => ∃ x6 x7 x8 x9 ns, σ = [some (.ref a), some (optN e), some (.ref F), some (.int (due : Nat)), some (.ref rr), some (.ref N), x6, x7, x8, x9] ∧ ButL N H3 H' ∧ H' N = some (.lst (ns.map V.int)) ∧ ns.length = p ∧ rowG (fTab due) 0 row = (rowG (fTab due) p (row.drop p)).pre ns)
        ⟨_, _, _, _, [], rfl, fun _ _ _ h => h, g3, rfl, (Out.pre_nil _).symm⟩ (fun p σ H' _ ⟨_, _, _, _, _, _, b, _⟩ => SqL.of (b _ _ nrr gx3)) ?_ ?_
      · rintro p x σ H4 H5 hp ⟨x6', x7', x8', x9', ns, rfl, b4, gN, ln, mg⟩ ⟨T, u, v, rfl, hT, rfl, hu, hv⟩
        cases hu
        obtain ⟨q, w, rfl, hw, hq⟩ := hxs p v hv
        have eT := Same.new (o := .tup [.int (p : Nat), .ref q]) hT
        have hq4 : H4 q = some (.tup [.int (w.1 : Int), .str w.2]) := b4 _ _ (fun z => by rw [z] at hq; rw [hq] at f3; cases f3) (e3 _ _ hq)
        have wz := rsm w (List.mem_of_getElem? hw)
        refine w_gTup (xs := [.int (p : Nat), .ref q]) (SqT.of upd_same) rfl ?_
        have b5 := b4.trans (eT.butL (g := N))
        have gN5 := eT _ _ gN
        have hq5 := eT _ _ hq4
        generalize upd H4 T (.tup [.int (p : Nat), .ref q]) = H6 at b5 gN5 hq5 ⊢
        refine w_gCons ?_
        refine w_gName ?_
        refine w_gCons ?_
        refine w_gTup (SqT.of hq5) rfl ?_
        walk_at "ss"
        have mg' : rowG (fTab due) 0 row = (match fTab due p w.2 with
            | none => Out.er (w.1 : Int)
            | some n => (rowG (fTab due) (p + 1) (row.drop (p + 1))).pre [n]).pre ns := by
          rw [mg, drop_row hw]
          rfl
        have s5 : Same H H6 := ButL.same fN (e2.trans e3) b5
        have bad : fTab due p w.2 = none → ∀ H8, Same H6 H8 → kMkO Γ.cBadText (sp_BadTextU_initU Γ) [.int (w.1 : Int)] H8 fun cls d H' => E cls d H' := fun z H8 e8 => by
          have : tabM e rows = .er (w.1 : Int) := by
            rw [m2]
            unfold rowC
            rw [mg', z]
            rfl
          exact (kb _ this).mk (s5.trans e8)
        by_cases p3 : p < min due 39
        · rw [decide_eq_true (show ((p : Nat) : Int) < (if (40 : Int) - 1 < ((due : Nat) : Int) then 40 - 1 else ((due : Nat) : Int)) by split <;> omega)]
          walk_at "ss"
          refine ⟨w.2, 0 - 1000000, 1000000, rfl, wz, fun H8 e8 => ?_⟩
          have hf : numW w.2 (0 - 1000000) 1000000 = fTab due p w.2 := by unfold fTab; rw [if_pos p3]; rfl
          rw [hf]
          walk_at "ss"
          rw [optV_isN]
          cases hn : fTab due p w.2 with
          | none =>
            refine w_ifY rfl ?_
            refine w_raiseO ?_
            walk_at "ss"
            exact bad hn H8 e8
          | some n =>
            refine w_ifN rfl ?_
            walk_at "ss"
            have gN8 := e8 _ _ gN5
            refine w_tyL gN8 ?_
            show tVar 9 _ _ _
            refine w_var (by with_unfolding_all rfl) ?_
            walk_at "ss"
            refine w_app gN8 (by rw [List.length_map]; omega) ?_
            refine ⟨_, _, _, _, ns ++ [n], rfl, (b5.trans e8.butL).at, ?_, by rw [List.length_append, ln]; rfl, ?_⟩
            · rw [upd_same, List.map_append]
              rfl
            · rw [mg', hn]
              exact Out.pre_pre _ _ _
        · have z : fTab due p w.2 = none := by unfold fTab; rw [if_neg p3]
          rw [decide_eq_false (show ¬ ((p : Nat) : Int) < (if (40 : Int) - 1 < ((due : Nat) : Int) then 40 - 1 else ((due : Nat) : Int)) by split <;> omega)]
          walk_at "ss"
          rw [decide_eq_true rfl]
          walk_at "ss"
          refine w_raiseO ?_
          walk_at "ss"
          exact bad z H6 (Same.refl H6)
      · rintro σ H4 ⟨x6', x7', x8', x9', ns, rfl, b4, gN, ln, mg⟩
        rw [lx] at ln mg
        rw [List.drop_length] at mg
        have mg' : rowG (fTab due) 0 row = .ok ns := by rw [mg]; show Out.ok (ns ++ []) = _; rw [List.append_nil]
        have s4 : Same H H4 := ButL.same fN (e2.trans e3) b4
        walk_at "ss"
        refine w_lenL (SqL.of gN) ?_
        walk_at "ss"
        rw [List.length_map]
        by_cases n3 : ns.length < due
        · rw [decide_eq_true (show ((ns.length : Nat) : Int) < (due : Nat) by omega)]
          walk_at "ss"
          refine w_raiseO ?_
          walk_at "ss"
          obtain ⟨p, s, a1, a2⟩ := last_at rne lx hxs
          have npN : p ≠ N := fun z => by rw [z] at a2; rw [a2] at f3; cases f3
          refine w_ixL (SqL.of (b4 _ _ nrr gx3)) a1 ?_
          walk_at "ss"
          refine w_ixT (SqT.of (b4 _ _ npN (e3 _ _ a2))) (atI0 _ _) ?_
          walk_at "ss"
          have : tabM e rows = .er (lastI row + 1) := by
            rw [m2]
            unfold rowC
            rw [mg']
            simp only
            rw [if_pos n3]
            rfl
          exact (kb _ this).mk s4
        · rw [decide_eq_false (show ¬ ((ns.length : Nat) : Int) < (due : Nat) by omega)]
          walk_at "ss"
          have gF4 : H4 F = some (.lst ys) := b4 _ _ (Ne.symm nF) (e3 _ _ gF)
          refine w_tyL gF4 ?_
          walk_at "ss"
          refine w_tupL (SqL.of gN) fun t5 H5 f5 e5 g5 => ?_
          walk_at "ss"
          have gF5 := e5 _ _ gF4
          refine w_app gF5 (by omega) ?_
          have bF : ButL F H5 (upd H5 F (.lst (ys ++ [.ref t5]))) := fun b o n hb => by rw [upd_ne n]; exact hb
          walk_at "ss"
          refine ⟨some (.ref rr), some (.ref N), x6', x7', x8', x9', ys ++ [.ref t5], ts ++ [ns], ?_, Same.mut (s4.trans e5) f1, upd_same, ?_, by rw [List.length_append, lt]; rfl, by omega, ?_⟩
          · rw [show ((due : Nat) : Int) - 1 = ((due0 rows - (j + 1) : Nat) : Int) by omega]
            rfl
          · rw [List.map_append]
            have tb : Tups H2 H4 := fun b zs hz => b4 _ _ (fun z => by rw [z] at hz; rw [hz] at f3; cases f3) (e3 _ _ hz)
            refine (tF.mono (tb.trans (e5.tups.trans (bF.tups gF5)))).append (.cons (.tup (bF.tups gF5 _ _ g5) (TpAll.of_ints _ _)) .nil)
          · rw [m2, lB, show due0 rows - (j + 1) = due - 1 by omega]
            unfold rowC
            rw [mg']
            simp only
            rw [if_neg n3]
            exact Out.pre_pre _ _ _
    · rintro σ H2 ⟨x4, x5, x6, x7, x8, x9, ys, ts, rfl, e2, gF, tF, lt, ljd, m⟩
      rw [List.length_map, hrows.1, List.drop_length] at m
      rw [List.length_map, hrows.1] at lt ljd ⊢
      generalize hdue : due0 rows - rows.length = due at m ⊢
      have lys := tF.length
      rw [List.length_map] at lys
      cases e with
      | some k =>
        have m' : tabM (some k) rows = .er (if 0 < due then (k : Int) else (k : Int) - 1) := by rw [m]; rfl
        show tSeq _ _ _ [some (.ref a), some (.int (k : Int)), some (.ref F), _, x4, x5, x6, x7, x8, x9] _
        walk_at "ss"
        rw [decide_eq_false (fun z => nomatch z)]
        walk_at "ss"
        refine w_raiseO ?_
        walk_at "ss"
        by_cases r6 : 0 < due
        · rw [if_pos r6] at m'
          rw [decide_eq_true (show (0 : Int) < (due : Nat) by omega)]
          walk_at "ss"
          exact (kb _ m').mk e2
        · rw [if_neg r6] at m'
          rw [decide_eq_false (show ¬ (0 : Int) < (due : Nat) by omega)]
          walk_at "ss"
          exact (kb _ m').mk e2
      | none =>
        show tSeq _ _ _ [some (.ref a), some .non, some (.ref F), _, x4, x5, x6, x7, x8, x9] _
        walk_at "ss"
        rw [decide_eq_true rfl]
        walk_at "ss"
        by_cases r6 : 0 < due
        · have m' : tabM none rows = .er (lastB rows rows.length + 1) := by
            rw [m]
            simp only [tableM]
            rw [if_pos r6]
            rfl
          rw [decide_eq_true (show (0 : Int) < (due : Nat) by omega)]
          walk_at "ss"
          refine w_raiseO ?_
          walk_at "ss"
          have rne : rows ≠ [] := fun z => hne z rfl
          have rp : 0 < rows.length := List.length_pos_iff.mpr rne
          obtain ⟨rr, hrr, hW⟩ := hrows.2 (rows.length - 1) _ (List.getElem?_eq_getElem (by omega))
          have sm := hsm rows[rows.length - 1] (List.getElem_mem (by omega))
          have lB : lastB rows rows.length = lastI rows[rows.length - 1] := by
            obtain ⟨z, hz⟩ : ∃ z, rows.length = z + 1 := ⟨rows.length - 1, by omega⟩
            have : lastB rows rows.length = lastI (rows.getD (rows.length - 1) []) := by rw [hz]; rfl
            rw [this, List.getD_eq_getElem?_getD, List.getElem?_eq_getElem (by omega)]
            rfl
          obtain ⟨xs, gx, lx, hxs⟩ := (hW.mono e2).get
          obtain ⟨p, s, a1, a2⟩ := last_at sm.1 lx hxs
          refine w_ixL (SqL.of (e2 _ _ ha)) (v := .ref rr) ?_ ?_
          · unfold atI ixN
            rw [if_neg (by decide), if_pos (by rw [List.length_map, hrows.1]; omega)]
            show (refs.map V.ref)[((-1 : Int) + (refs.map V.ref).length).toNat]? = _
            rw [show ((-1 : Int) + (refs.map V.ref).length).toNat = rows.length - 1 by rw [List.length_map, hrows.1]; omega, List.getElem?_map, hrr]
            rfl
          walk_at "ss"
          refine w_ixL (SqL.of gx) a1 ?_
          walk_at "ss"
          refine w_ixT (SqT.of a2) (atI0 _ _) ?_
          walk_at "ss"
          rw [← lB]
          exact (kb _ m').mk e2
        · have m' : tabM none rows = .ok ts := by
            rw [m]
            simp only [tableM]
            rw [if_neg r6]
            show Out.ok (ts ++ []) = _
            rw [List.append_nil]
          rw [decide_eq_false (show ¬ (0 : Int) < (due : Nat) by omega)]
          walk_at "ss"
          refine w_tupL (SqL.of gF) fun t5 H5 f5 e5 g5 => ?_
          exact kg ts m' _ H5 (e2.trans e5) (.tup g5 (tF.mono e5.tups))
  cases hr : rows with
  | nil =>
    rw [hr] at loop hrows
    have hl : refs.length = 0 := hrows.1
    rw [List.length_map, hl, decide_eq_false (show ¬ (0 : Int) < ((0 : Nat) : Int) by omega)]
    refine w_iteF ?_
    walk_at "ss"
    exact loop
  | cons row rs =>
    rw [hr] at loop hrows hrows1 hsm
    have hl : refs.length = rs.length + 1 := hrows.1
    obtain ⟨rr, hrr, hW⟩ := hrows1.2 0 row rfl
    obtain ⟨xs, gx, lx, _⟩ := hW.get
    rw [decide_eq_true (show (0 : Int) < ((refs.map V.ref).length : Nat) by rw [List.length_map]; omega)]
    refine w_iteT ?_
    walk_at "ss"
    refine w_ixL (SqL.of ha1) (v := .ref rr) (atI_of (by decide) (by show (refs.map V.ref)[0]? = _; rw [List.getElem?_map, hrr]; rfl)) ?_
    walk_at "ss"
    refine w_lenL (SqL.of gx) ?_
    rw [lx]
    walk_at "ss"
    exact loop

open _root_.TL (tl len_tl ext_tl tl_ofString tl_append spl spl_nil spl_hit spl_miss pre split_spl kind_ok)
/-! ### reading, plain -/
def sp1 : Str := Str.ofString " "
def splitW (t : Str) : List Str := Txt.split t sp1
inductive RdO where
  | bad (k : Int)
  | rule (r : R)
def Out.toRd (o : Out (List Int)) (f : List (List Int) → R) : RdO := match o with
  | .er k => .bad k
  | .ok ts => .rule (f ts)
def triOf (l : List Int) : Int × Nat × Nat := (l.getD 0 0, (l.getD 1 0).toNat, (l.getD 2 0).toNat)
def readW : List Str → RdO
  | [] => .bad 0
  | w :: r => if w = "table" then (tabM (rowsM 1 [] r).2 (rowsM 1 [] r).1).toRd R.tab else if w = "terms" then (if r = [] then .rule (.trm []) else (termsM 0 (rowsM 1 [] r).2 (rowsM 1 [] r).1).toRd fun ts => .trm (ts.map triOf)) else .bad 0
theorem tl_sp1 : tl sp1 = [32] := by rw [show sp1 = Str.ofString " " from rfl, tl_ofString]; rfl
theorem sp1_kind : sp1.cps.all (· < 256) = true := by
  rw [← Array.all_toList]
  show (tl sp1).all _ = true
  rw [tl_sp1]
  rfl
theorem splitW_spl (t : Str) : (splitW t).map tl = spl [32] 0 [] (tl t) := by
  have := split_spl t sp1 (by rw [tl_sp1]; simp) (kind_ok sp1_kind)
  rw [tl_sp1] at this
  exact this
theorem pre32 (c : Nat) (r : List Nat) : pre [32] (c :: r) = decide (c = 32) := by
  show ((c :: r).take 1 == [32]) = _
  rw [show (c :: r).take 1 = [c] from rfl]
  by_cases h : c = 32
  · subst h; rfl
  · rw [decide_eq_false h]
    exact beq_false_of_ne (fun z => h (by injection z))
theorem spl_c32 (acc r : List Nat) : spl [32] 0 acc (32 :: r) = acc :: spl [32] 0 [] r := spl_hit (by rw [pre32]; rfl)
theorem spl_cN {c : Nat} (h : c ≠ 32) (acc r : List Nat) : spl [32] 0 acc (c :: r) = spl [32] 0 (acc ++ [c]) r := spl_miss (by rw [pre32, decide_eq_false h])
theorem spl_sz : ∀ (l acc : List Nat), spl [32] 0 acc l ≠ [] ∧ (spl [32] 0 acc l).length ≤ l.length + 1 ∧ ∀ p ∈ spl [32] 0 acc l, p.length ≤ acc.length + l.length
  | [], acc => by
    rw [spl_nil]
    exact ⟨by simp, Nat.le_refl _, fun p hp => by rw [List.mem_singleton.mp hp]; exact Nat.le_refl _⟩
  | c :: r, acc => by
    by_cases h : c = 32
    · subst h
      rw [spl_c32]
      obtain ⟨_, h2, h3⟩ := spl_sz r []
      refine ⟨by simp, by rw [List.length_cons, List.length_cons]; omega, fun p hp => ?_⟩
      rcases List.mem_cons.mp hp with z | z
      · rw [z]; omega
      · have := h3 p z
        rw [List.length_nil] at this
        rw [List.length_cons]
        omega
    · rw [spl_cN h]
      obtain ⟨h1, h2, h3⟩ := spl_sz r (acc ++ [c])
      refine ⟨h1, by rw [List.length_cons]; omega, fun p hp => ?_⟩
      have := h3 p hp
      rw [List.length_append] at this
      simp only [List.length_cons, List.length_nil] at this ⊢
      omega
theorem splitW_sz (t : Str) : splitW t ≠ [] ∧ (splitW t).length ≤ t.length + 1 ∧ ∀ w ∈ splitW t, w.length ≤ t.length := by
  have e := splitW_spl t
  obtain ⟨h1, h2, h3⟩ := spl_sz (tl t) []
  rw [← e] at h1 h2 h3
  rw [List.length_map, ← len_tl] at h2
  refine ⟨fun z => h1 (by rw [z]; rfl), h2, fun w hw => ?_⟩
  have := h3 (tl w) (List.mem_map_of_mem hw)
  rw [List.length_nil, ← len_tl, ← len_tl] at this
  omega
theorem spl_mem : ∀ (l acc : List Nat), ∀ p ∈ spl [32] 0 acc l, ∀ c ∈ p, c ∈ acc ∨ c ∈ l
  | [], acc => by
    rw [spl_nil]
    exact fun p hp c hc => .inl (by rw [← List.mem_singleton.mp hp]; exact hc)
  | c :: r, acc => by
    by_cases h : c = 32
    · subst h
      rw [spl_c32]
      intro p hp d hd
      rcases List.mem_cons.mp hp with z | z
      · rw [z] at hd; exact .inl hd
      · rcases spl_mem r [] p z d hd with q | q
        · simp at q
        · exact .inr (List.mem_cons_of_mem _ q)
    · rw [spl_cN h]
      intro p hp d hd
      rcases spl_mem r (acc ++ [c]) p hp d hd with q | q
      · rcases List.mem_append.mp q with q | q
        · exact .inl q
        · rw [List.mem_singleton] at q
          rw [q]
          exact .inr (List.mem_cons_self ..)
      · exact .inr (List.mem_cons_of_mem _ q)
def cpsOk (t : Str) : Prop := ∀ c ∈ tl t, c < 0x110000
theorem cpsOk.strOk {t : Str} (h : cpsOk t) : PyData.strOk t = true := by
  unfold PyData.strOk
  rw [← Array.all_toList]
  exact List.all_eq_true.mpr fun c hc => decide_eq_true (h c hc)
theorem splitW_cps {t : Str} (h : cpsOk t) : ∀ w ∈ splitW t, cpsOk w := fun w hw c hc => by
  have : tl w ∈ spl [32] 0 [] (tl t) := by rw [← splitW_spl]; exact List.mem_map_of_mem hw
  rcases spl_mem _ _ _ this c hc with z | z
  · simp at z
  · exact h c z
theorem rowsM_facts : ∀ (ws : List Str) (at_ : Nat) (cur : List IW), (∀ row ∈ (rowsM at_ cur ws).1, row ≠ [] ∧ row.length ≤ cur.length + ws.length ∧ ∀ w ∈ row, w ∈ cur ∨ w.2 ∈ ws) ∧ ((rowsM at_ cur ws).1 = [] → (rowsM at_ cur ws).2 ≠ none) ∧ (rowsM at_ cur ws).1.length ≤ ws.length + 1
  | [], at_, cur => by
    simp only [rowsM]
    by_cases h : cur.isEmpty = true
    · rw [if_pos h]
      exact ⟨fun _ z => by simp at z, fun _ z => by simp at z, Nat.zero_le _⟩
    · rw [if_neg h]
      refine ⟨fun row z => ?_, fun z => by simp at z, Nat.le_refl _⟩
      rw [List.mem_singleton.mp z]
      exact ⟨fun z => h (by rw [z]; rfl), Nat.le_refl _, fun w hw => .inl hw⟩
  | w :: ws, at_, cur => by
    simp only [rowsM]
    by_cases hs : w = slash
    · rw [if_pos hs]
      by_cases h : cur.isEmpty = true
      · rw [if_pos h]
        exact ⟨fun _ z => by simp at z, fun _ z => by simp at z, Nat.zero_le _⟩
      · rw [if_neg h]
        obtain ⟨h1, h2, h3⟩ := rowsM_facts ws (at_ + 1) []
        refine ⟨fun row z => ?_, fun z => by simp at z, by simp only [List.length_cons]; omega⟩
        rcases List.mem_cons.mp z with z | z
        · rw [z]
          exact ⟨fun z => h (by rw [z]; rfl), by omega, fun w hw => .inl hw⟩
        · obtain ⟨q1, q2, q3⟩ := h1 row z
          refine ⟨q1, by simp only [List.length_cons, List.length_nil] at q2 ⊢; omega, fun u hu => ?_⟩
          rcases q3 u hu with z | z
          · simp at z
          · exact .inr (List.mem_cons_of_mem _ z)
    · rw [if_neg hs]
      obtain ⟨h1, h2, h3⟩ := rowsM_facts ws (at_ + 1) (cur ++ [(at_, w)])
      refine ⟨fun row z => ?_, h2, by rw [List.length_cons]; omega⟩
      obtain ⟨q1, q2, q3⟩ := h1 row z
      refine ⟨q1, by rw [List.length_append] at q2; simp only [List.length_cons, List.length_nil] at q2 ⊢; omega, fun u hu => ?_⟩
      rcases q3 u hu with z | z
      · rcases List.mem_append.mp z with z | z
        · exact .inl z
        · rw [List.mem_singleton] at z
          rw [z]
          exact .inr (List.mem_cons_self ..)
      · exact .inr (List.mem_cons_of_mem _ z)
theorem numW_bd {w : Str} {lo hi n : Int} (h : numW w lo hi = some n) : lo ≤ n ∧ n ≤ hi := by
  unfold numW at h
  split at h
  · rename_i c
    cases h
    exact c.2
  · cases h
theorem rowG_ok {f : Nat → Str → Option Int} : ∀ {row : List IW} {p : Nat} {ns : List Int}, rowG f p row = .ok ns → ns.length = row.length ∧ ∀ (i : Nat) (n : Int), ns[i]? = some n → ∃ w, row[i]? = some w ∧ f (p + i) w.2 = some n
  | [], p, ns, h => by
    simp only [rowG] at h
    cases h
    exact ⟨rfl, fun i n z => by simp at z⟩
  | w :: r, p, ns, h => by
    simp only [rowG] at h
    cases hf : f p w.2 with
    | none => rw [hf] at h; cases h
    | some m =>
      rw [hf] at h
      simp only at h
      cases hr : rowG f (p + 1) r with
      | er k => rw [hr] at h; cases h
      | ok ms =>
        rw [hr] at h
        cases h
        obtain ⟨h1, h2⟩ := rowG_ok hr
        refine ⟨by show ms.length + 1 = _; rw [h1]; rfl, fun i n z => ?_⟩
        cases i with
        | zero =>
          cases z
          exact ⟨w, rfl, hf⟩
        | succ i =>
          obtain ⟨u, a, b⟩ := h2 i n z
          exact ⟨u, a, by rw [show p + (i + 1) = p + 1 + i by omega]; exact b⟩
theorem rowC_ok {f : Nat → Str → Option Int} {need : Nat} {row : List IW} {ns : List Int} (h : rowC f need row = .ok ns) : rowG f 0 row = .ok ns ∧ need ≤ ns.length := by
  unfold rowC at h
  cases hr : rowG f 0 row with
  | er k => rw [hr] at h; cases h
  | ok ms =>
    rw [hr] at h
    simp only at h
    split at h
    · cases h
    · cases h
      exact ⟨rfl, by omega⟩
theorem rowC_tab {due : Nat} {row : List IW} {ns : List Int} (hd : due ≠ 0) (h : rowC (fTab due) due row = .ok ns) : ns.length = due ∧ due ≤ 39 ∧ ∀ n ∈ ns, -1000000 ≤ n ∧ n ≤ 1000000 := by
  obtain ⟨h1, h2⟩ := rowC_ok h
  obtain ⟨_, h4⟩ := rowG_ok h1
  have hf : ∀ i n, ns[i]? = some n → i < min due 39 ∧ -1000000 ≤ n ∧ n ≤ 1000000 := fun i n hi => by
    obtain ⟨w, _, hw⟩ := h4 i n hi
    rw [Nat.zero_add] at hw
    unfold fTab at hw
    split at hw
    · exact ⟨by assumption, numW_bd hw⟩
    · cases hw
  have hl := (hf (ns.length - 1) _ (List.getElem?_eq_getElem (by omega))).1
  refine ⟨by omega, by omega, fun n hn => ?_⟩
  obtain ⟨i, hi⟩ := List.mem_iff_getElem?.mp hn
  exact (hf i n hi).2
theorem tableM_ok : ∀ {rows : List (List IW)} {due : Nat} {last : Int} {e : Option Nat} {ts : List (List Int)}, tableM due last e rows = .ok ts → ts.length = due ∧ (due ≠ 0 → due ≤ 39) ∧ ∀ i r, ts[i]? = some r → r.length = due - i ∧ ∀ n ∈ r, -1000000 ≤ n ∧ n ≤ 1000000
  | [], due, last, e, ts, h => by
    simp only [tableM] at h
    cases e with
    | some k => cases h
    | none =>
      simp only at h
      split at h
      · cases h
      · cases h
        have : due = 0 := by omega
        exact ⟨this.symm, fun z => absurd this z, fun i r z => by simp at z⟩
  | row :: rows, due, last, e, ts, h => by
    simp only [tableM] at h
    split at h
    · cases h
    · rename_i hd
      cases hr : rowC (fTab due) due row with
      | er k => rw [hr] at h; cases h
      | ok ns =>
        rw [hr] at h
        change Out.pre [ns] (tableM (due - 1) (lastI row) e rows) = _ at h
        cases ht : tableM (due - 1) (lastI row) e rows with
        | er k => rw [ht] at h; cases h
        | ok us =>
          rw [ht] at h
          cases h
          obtain ⟨a1, a2, a3⟩ := rowC_tab hd hr
          obtain ⟨b1, b2, b3⟩ := tableM_ok ht
          refine ⟨by show us.length + 1 = _; omega, fun _ => a2, fun i r hi => ?_⟩
          cases i with
          | zero =>
            cases hi
            exact ⟨a1, a3⟩
          | succ i =>
            obtain ⟨c1, c2⟩ := b3 i r hi
            exact ⟨by omega, c2⟩
theorem tabM_ok {e : Option Nat} {rows : List (List IW)} {ts : List (List Int)} (h : tabM e rows = .ok ts) (hr : ∀ row ∈ rows, row ≠ []) : (R.tab ts).ok := by
  obtain ⟨h1, h2, h3⟩ := tableM_ok h
  have hp : due0 rows ≠ 0 := by
    cases rows with
    | nil => exact fun z => nomatch z
    | cons row rs => exact fun z => hr row (List.mem_cons_self ..) (List.length_eq_zero_iff.mp z)
  have := h2 hp
  refine ⟨by omega, by omega, fun i r hi => ?_⟩
  rw [h1]
  exact h3 i r hi
theorem rowC_term {row : List IW} {ns : List Int} (h : rowC fTerm 3 row = .ok ns) : tri (triOf ns) = ns ∧ -1000000 ≤ (triOf ns).1 ∧ (triOf ns).1 ≤ 1000000 ∧ (triOf ns).2.1 ≤ 4 ∧ (triOf ns).2.2 ≤ 4 := by
  obtain ⟨h1, h2⟩ := rowC_ok h
  obtain ⟨_, h4⟩ := rowG_ok h1
  have hf : ∀ i n, ns[i]? = some n → i < 3 ∧ (i = 0 → -1000000 ≤ n ∧ n ≤ 1000000) ∧ (i ≠ 0 → 0 ≤ n ∧ n ≤ 4) := fun i n hi => by
    obtain ⟨w, _, hw⟩ := h4 i n hi
    rw [Nat.zero_add] at hw
    unfold fTerm at hw
    split at hw
    · split at hw
      · exact ⟨by assumption, fun _ => numW_bd hw, fun z => absurd (by assumption) z⟩
      · exact ⟨by assumption, fun z => absurd z (by assumption), fun _ => numW_bd hw⟩
    · cases hw
  match ns, h2, hf with
  | [a, b, c], _, hf =>
    have ha := (hf 0 a rfl).2.1 rfl
    have hb := (hf 1 b rfl).2.2 (by decide)
    have hc := (hf 2 c rfl).2.2 (by decide)
    refine ⟨?_, ha.1, ha.2, ?_, ?_⟩
    · show [a, ((b.toNat : Nat) : Int), ((c.toNat : Nat) : Int)] = [a, b, c]
      rw [Int.toNat_of_nonneg hb.1, Int.toNat_of_nonneg hc.1]
    · show b.toNat ≤ 4
      omega
    · show c.toNat ≤ 4
      omega
  | a :: b :: c :: d :: r, _, hf => exact absurd (hf 3 d rfl).1 (by decide)
  | [], h2, _ => exact absurd h2 (by simp)
  | [_], h2, _ => exact absurd h2 (by simp)
  | [_, _], h2, _ => exact absurd h2 (by simp)
theorem termsM_ok : ∀ {rows : List (List IW)} {i : Nat} {e : Option Nat} {ts : List (List Int)}, i ≤ 6 → termsM i e rows = .ok ts → i + ts.length ≤ 6 ∧ ∀ ns ∈ ts, tri (triOf ns) = ns ∧ -1000000 ≤ (triOf ns).1 ∧ (triOf ns).1 ≤ 1000000 ∧ (triOf ns).2.1 ≤ 4 ∧ (triOf ns).2.2 ≤ 4
  | [], i, e, ts, h6, h => by
    simp only [termsM] at h
    cases e with
    | some k => cases h
    | none =>
      cases h
      exact ⟨h6, fun _ z => by simp at z⟩
  | row :: rows, i, e, ts, h6, h => by
    simp only [termsM] at h
    split at h
    · cases h
    · cases hr : rowC fTerm 3 row with
      | er k => rw [hr] at h; cases h
      | ok ns =>
        rw [hr] at h
        change Out.pre [ns] (termsM (i + 1) e rows) = _ at h
        cases ht : termsM (i + 1) e rows with
        | er k => rw [ht] at h; cases h
        | ok us =>
          rw [ht] at h
          cases h
          obtain ⟨b1, b2⟩ := termsM_ok (by omega) ht
          refine ⟨by show i + (us.length + 1) ≤ 6; omega, fun m hm => ?_⟩
          rcases List.mem_cons.mp hm with z | z
          · rw [z]
            exact rowC_term hr
          · exact b2 m z
theorem trm_ok {e : Option Nat} {rows : List (List IW)} {ts : List (List Int)} (h : termsM 0 e rows = .ok ts) : (R.trm (ts.map triOf)).ok ∧ (R.trm (ts.map triOf)).body = .tuple (ts.map tupI) := by
  obtain ⟨h1, h2⟩ := termsM_ok (Nat.zero_le _) h
  refine ⟨⟨by rw [List.length_map]; omega, fun t ht => ?_⟩, ?_⟩
  · obtain ⟨ns, hn, rfl⟩ := List.mem_map.mp ht
    exact (h2 ns hn).2
  · show PyData.tuple ((ts.map triOf).map fun t => .tuple ((tri t).map PyData.int)) = _
    rw [List.map_map]
    refine congrArg PyData.tuple (List.map_congr_left fun ns hn => ?_)
    show PyData.tuple ((tri (triOf ns)).map PyData.int) = .tuple (ns.map PyData.int)
    rw [(h2 ns hn).1]
/-! ### read -/
theorem lit_cps {s : String} (h : (s.toList.map Char.toNat).all (· < 0x110000) = true) : cpsOk (Str.ofString s) := fun c hc => by
  rw [tl_ofString] at hc
  exact of_decide_eq_true (List.all_eq_true.mp h c hc)
theorem w_mkRuleX {Γ : Gm} {H : Hp} {Q : VK} {E : XK} {v : V} (r : R) (hv : Tp H v r.body) (ok : r.ok) (k : ∀ p H', Same H H' → RuleAt Γ H' (.ref p) r → Q (.ref p) H') : kMak Γ.cRule (sp_RuleU_initU Γ) E [.str r.kind, v] H Q := by
  have hr := ruleOf_body ok
  intro x dx hx hdx ne
  have e1 : Same H (upd (upd H dx (.own x)) x (.ins Γ.cRule dx [])) := (Same.new hdx).mut hx
  refine ⟨x, dx, _, .str r.kind, v, r.body, rfl, upd_same, .str _, (hv.mono (Same.tups e1)).dv, ⟨(fun z => by rw [hr] at z; cases z), ?_⟩⟩
  intro r' s b hr' es ev _ _ _ H' keep h'
  cases es
  rw [hr] at hr'
  cases hr'
  subst ev
  have keep' : Same H H' := fun c o ho => keep c o (fun z => by rw [z, hx] at ho; cases ho) (e1 c o ho)
  exact ⟨rfl, k x H' keep' ⟨x, dx, b, rfl, h', hv.mono (Same.tups keep'), ok⟩⟩
theorem dvs_strs {H : Hp} : ∀ ws : List Str, DvAll H (ws.map V.str) (ws.map PyData.str)
  | [] => .nil
  | w :: ws => .cons (.str w) (dvs_strs ws)
theorem flat_strs {n : Nat} : ∀ ws : List Str, flatAll (n + 1) (ws.map PyData.str) = true
  | [] => by unfold List.map flatAll; rfl
  | m :: ns => by rw [List.map_cons]; unfold flatAll flatN; rw [flat_strs ns]; rfl
theorem pure_strs : ∀ ws : List Str, (∀ w ∈ ws, cpsOk w) → pureAll (ws.map PyData.str) = true
  | [], _ => by unfold List.map pureAll; rfl
  | n :: ns, h => by rw [List.map_cons]; unfold pureAll pureD; rw [pure_strs ns (fun w hw => h w (List.mem_cons_of_mem _ hw)), (h n (List.mem_cons_self ..)).strOk]; rfl
theorem map_str_inj : ∀ {xs ys : List Str}, xs.map PyData.str = ys.map PyData.str → xs = ys
  | [], [], _ => rfl
  | [], _ :: _, h => by cases h
  | _ :: _, [], h => by cases h
  | x :: xs, y :: ys, h => by
    rw [List.map_cons, List.map_cons] at h
    injection h with h1 h2
    injection h1 with h1
    rw [h1, map_str_inj h2]
/-- lists of texts, alike or not -/
theorem w_eqSs {K : PySem.W.Frag} {H : Hp} {Q : VK} {p q : Addr} {xs ys : List Str} (hp : H p = some (.lst (xs.map V.str))) (hq : H q = some (.lst (ys.map V.str))) (h1 : xs.length ≤ 100000) (h2 : ys.length ≤ 100000) (o1 : ∀ w ∈ xs, cpsOk w) (o2 : ∀ w ∈ ys, cpsOk w) (k : Q (.bl (decide (xs = ys))) H) : rEqU K (.ref p) (.ref q) H Q := by
  letI dec : Decidable (PyData.list (xs.map PyData.str) = .list (ys.map PyData.str)) := decidable_of_iff (xs = ys) ⟨fun e => by rw [e], fun e => by injection e with e; exact map_str_inj e⟩
  refine w_eqD (dec := dec) (.lst hp (dvs_strs xs)) (.lst hq (dvs_strs ys)) ?_ ?_ ?_ ?_ ?_
  · unfold flatN; rw [flat_strs, List.length_map, decide_eq_true h1]; rfl
  · unfold flatN; rw [flat_strs, List.length_map, decide_eq_true h2]; rfl
  · unfold pureD; exact pure_strs xs o1
  · unfold pureD; exact pure_strs ys o2
  · by_cases e : xs = ys
    · rw [decide_eq_true e] at k
      rw [decide_eq_true (by rw [e])]
      exact k
    · rw [decide_eq_false e] at k
      rw [decide_eq_false (fun z => e (by injection z with z; exact map_str_inj z))]
      exact k
theorem cutV_tail (x : V) (xs : List V) : cutV (x :: xs) (some 1) none = xs := by
  unfold cutV
  have e1 : HT.sIx (x :: xs).length (x :: xs).length none = (x :: xs).length := rfl
  have e2 : HT.sIx (x :: xs).length 0 (some 1) = min 1 (x :: xs).length := HT.sIx_nat _ _ 1
  rw [e1, e2, Nat.min_eq_left (by simp)]
  show List.take _ xs = _
  rw [List.length_cons, Nat.add_sub_cancel, List.take_length]
theorem nk_tt : ¬ (("table" : Str) = "terms") := by decide +kernel
def sp_read (Γ : Gm) : Sp := fun vs H Q E => ∃ v, vs = [v] ∧ Tag Γ.K H v ∧ ((isTy H "str" v = false ∧ BadAt Γ H E .non) ∨ ∃ t, v = .str t ∧ t.length ≤ 80000 ∧ cpsOk t ∧ (∀ k, readW (splitW t) = .bad k → BadAt Γ H E (.int k)) ∧ ∀ r, readW (splitW t) = .rule r → ∀ p H', Same H H' → RuleAt Γ H' (.ref p) r → Q (.ref p) H')
/-- read: text, words, rows, empty -/
def t_read (Γ : Gm) (E : XK) : TS := (tSeq (tIfS (tNot (tB (tCB (rIsi Γ.K) (tCons (tVar 0) (tCons (tC (.ty "str")) tNil))))) (tRaiseO Γ.cBadText (sp_BadTextU_initU Γ) (tCons (tC .non) tNil) (fun cls d _ H => E cls d H)) tNext)
  (tSeq (tAsg (tM1 rSplitU (tVar 0) (tC (.str " "))) (gName 1))
  (tSeq (tIfS (tTest (tOp (rNotInU Γ.K) (tOp (rIx Γ.K) (tVar 1) (tC (.int 0))) (tTup (tCons (tC (.str "table")) (tCons (tC (.str "terms")) tNil))))) (tRaiseO Γ.cBadText (sp_BadTextU_initU Γ) (tCons (tC (.int 0)) tNil) (fun cls d _ H => E cls d H)) tNext)
  (tSeq (tIfS (tTest (tOp (rEqU Γ.K) (tVar 1) (tLst (tCons (tC (.str "terms")) tNil)))) (tRet (tMak Γ.cRule (sp_RuleU_initU Γ) E (tCons (tC (.str "terms")) (tCons (tTup tNil) tNil)))) tNext)
  (tSeq (tAsg (tCal (sp_rows_in Γ) E0 (tCons (tSl (rSlU Γ.K) (tVar 1) (tPart (tC (.int 1))) tNoPart) tNil)) (gTup Γ.K 2 (gCons (gName 2) (gCons (gName 3) gNil))))
  (tRet (tMak Γ.cRule (sp_RuleU_initU Γ) E (tCons (tOp (rIx Γ.K) (tVar 1) (tC (.int 0))) (tCons (tIf (tTest (tOp (rEqU Γ.K) (tOp (rIx Γ.K) (tVar 1) (tC (.int 0))) (tC (.str "table")))) (tCal (sp_table_in Γ) E (tCons (tVar 2) (tCons (tVar 3) tNil))) (tCal (sp_terms_in Γ) E (tCons (tVar 2) (tCons (tVar 3) tNil)))) tNil)))))))))
theorem rd_read (Γ : Gm) (vs : List V) (H : Hp) (Q : VK) (E : XK) (h : sp_read Γ vs H Q E) : t_read Γ E ⟨fun _ H' => Q .non H', Q, fun _ _ => False, fun _ _ => False⟩ (startN 4 vs) H := by
  obtain ⟨v, rfl, ht, h⟩ := h
  unfold t_read
  walk_at "ss"
  refine w_isi ht (by decide) ?_
  walk_at "ss"
  rcases h with ⟨hn, b⟩ | ⟨t, rfl, hz, ct, kb, kg⟩
  · rw [hn]
    walk_at "ss"
    refine w_raiseO ?_
    walk_at "ss"
    exact b.mk (Same.refl H)
  rw [show isTy H "str" (.str t) = true from rfl]
  walk_at "ss"
  refine w_m1 ?_
  walk_at "ss"
  refine w_str ?_
  walk_at "ss"
  refine w_splitS (b := sp1) (by rw [len_tl, tl_sp1]; rfl) (by omega) fun p H1 f1 e1 g1 => ?_
  obtain ⟨sne, sl, sw⟩ := splitW_sz t
  have sc := splitW_cps ct
  change H1 p = some (.lst ((splitW t).map V.str)) at g1
  generalize splitW t = ws at g1 sne sl sw sc kb kg
  obtain ⟨w, r, rfl⟩ : ∃ w r, ws = w :: r := by
    cases ws with
    | nil => exact absurd rfl sne
    | cons w r => exact ⟨w, r, rfl⟩
  rw [List.length_cons] at sl
  have g1' := g1
  rw [List.map_cons] at g1'
  walk_at "ss"
  refine w_ixL (SqL.of g1') (atI0 _ _) ?_
  walk_at "ss"
  refine n_tup fun q H2 f2 e2 g2 => ?_
  refine w_in2 (w_inT (SqT.of g2) rfl rfl ?_)
  rw [if_pos rfl, inV_str]
  have e12 := e1.trans e2
  by_cases w0 : w = "table" ∨ w = "terms"
  · rw [show (decide (w = Str.ofString "table") || decide (w = Str.ofString "terms")) = true by rw [Bool.or_eq_true, decide_eq_true_eq, decide_eq_true_eq]; exact w0]
    walk_at "ss"
    refine n_lst fun q2 H3 f3 e3 g3 => ?_
    have e13 := e12.trans e3
    have g13 := e3 _ _ (e2 _ _ g1)
    have g13' := e3 _ _ (e2 _ _ g1')
    refine w_eqSs (ys := [("terms" : Str)]) g13 g3 ?_ ?_ sc ?_ ?_
    · rw [List.length_cons]; omega
    · exact show 1 ≤ 100000 by decide
    · intro w hw
      rw [List.mem_singleton.mp hw]
      exact lit_cps rfl
    by_cases w2 : w :: r = [("terms" : Str)]
    · rw [decide_eq_true w2]
      walk_at "ss"
      refine n_tup fun b H4 f4 e4 g4 => ?_
      refine w_mkRuleX (.trm []) (.tup g4 .nil) ⟨Nat.zero_le _, fun _ z => by simp at z⟩ fun p6 H6 e6 hr => ?_
      refine kg _ ?_ p6 H6 (e13.trans (e4.trans e6)) hr
      injection w2 with z1 z2
      rw [z1, z2]
      simp only [readW]
      rw [if_neg (fun z => nk_tt z.symm)]
      simp
    · rw [decide_eq_false w2]
      walk_at "ss"
      refine w_slL g13' fun p4 H4 f4 e4 g4 => ?_
      have cut : cutV (V.str w :: r.map V.str) (some 1) none = r.map V.str := by
        exact cutV_tail _ _
      rw [cut] at g4
      walk_at "ss"
      refine ⟨p4, r, rfl, g4, by omega, fun pp l refs H5 e5 gp gl hrows => ?_⟩
      refine w_gTup (SqT.of gp) rfl ?_
      walk_at "ss"
      have e45 := e4.trans e5
      have e15 := e13.trans e45
      refine w_ixL (SqL.of (e45 _ _ g13')) (atI0 _ _) ?_
      walk_at "ss"
      refine w_ixL (SqL.of (e45 _ _ g13')) (atI0 _ _) ?_
      walk_at "ss"
      obtain ⟨rf1, rf2, rf3⟩ := rowsM_facts r 1 []
      have hsm : ∀ row ∈ (rowsM 1 [] r).1, row ≠ [] ∧ row.length ≤ 90000 ∧ ∀ w ∈ row, w.2.length ≤ 100000 := fun row hrow => by
        obtain ⟨a1, a2, a3⟩ := rf1 row hrow
        refine ⟨a1, by rw [List.length_nil] at a2; omega, fun u hu => ?_⟩
        rcases a3 u hu with z | z
        · simp at z
        · have := sw u.2 (List.mem_cons_of_mem _ z)
          omega
      by_cases w1 : w = "table"
      · rw [decide_eq_true w1]
        walk_at "ss"
        have rd : readW (w :: r) = (tabM (rowsM 1 [] r).2 (rowsM 1 [] r).1).toRd R.tab := by simp only [readW]; rw [if_pos w1]
        rw [rd] at kb kg
        refine ⟨l, refs, _, _, rfl, gl, hrows, hsm, rf2, by omega, fun k hk => ?_, fun ts hts v H6 e6 tv => ?_⟩
        · have b := kb k (by rw [hk]; rfl)
          exact fun d H' e h => b d H' (e15.trans e) h
        · walk_at "ss"
          rw [w1]
          refine w_mkRuleX (.tab ts) ?_ (tabM_ok hts fun row hrow => (hsm row hrow).1) fun p7 H7 e7 hr => ?_
          · exact tv
          · exact kg _ (by rw [hts]; rfl) p7 H7 (e15.trans (e6.trans e7)) hr
      · have w3 := w0.resolve_left w1
        rw [decide_eq_false w1]
        walk_at "ss"
        have rd : readW (w :: r) = (termsM 0 (rowsM 1 [] r).2 (rowsM 1 [] r).1).toRd fun ts => .trm (ts.map triOf) := by
          simp only [readW]
          rw [if_neg w1, if_pos w3, if_neg (fun z => w2 (by rw [z, w3]))]
        rw [rd] at kb kg
        refine ⟨l, refs, _, _, rfl, gl, hrows, hsm, fun k hk => ?_, fun ts hts v H6 e6 tv => ?_⟩
        · have b := kb k (by rw [hk]; rfl)
          exact fun d H' e h => b d H' (e15.trans e) h
        · walk_at "ss"
          rw [w3]
          obtain ⟨o1, o2⟩ := trm_ok hts
          refine w_mkRuleX (.trm (ts.map triOf)) (by rw [o2]; exact tv) o1 fun p7 H7 e7 hr => ?_
          exact kg _ (by rw [hts]; rfl) p7 H7 (e15.trans (e6.trans e7)) hr
  · rw [show (decide (w = Str.ofString "table") || decide (w = Str.ofString "terms")) = false by rw [Bool.or_eq_false_iff, decide_eq_false_iff_not, decide_eq_false_iff_not]; exact ⟨fun z => w0 (.inl z), fun z => w0 (.inr z)⟩]
    walk_at "ss"
    refine w_raiseO ?_
    walk_at "ss"
    refine (kb 0 ?_).mk e12
    simp only [readW]
    rw [if_neg (fun z => w0 (.inl z)), if_neg (fun z => w0 (.inr z))]

open _root_.TL (tl len_tl ext_tl tl_ofString tl_append spl spl_join joinL tl_join join_eq map_tl_inj numL tl_num numL_lt numL_step numL_digits numL_ne numL_free numL_val numL_len)
/-! ### texts of numbers -/
def nStr (n : Int) : Str := Str.ofString (toString n)
theorem tl_nStr (n : Int) : tl (nStr n) = if n < 0 then 45 :: numL n.natAbs else numL n.natAbs := by
  unfold nStr
  cases n with
  | ofNat k =>
    rw [if_neg (show ¬ (Int.ofNat k : Int) < 0 by have : (Int.ofNat k) = (k : Int) := rfl; omega)]
    exact tl_num k
  | negSucc m =>
    rw [if_pos (Int.negSucc_lt_zero m)]
    have e : toString (Int.negSucc m) = "-" ++ Nat.repr (m + 1) := rfl
    rw [e, tl_ofString, String.toList_append, List.map_append]
    have e2 := tl_num (m + 1)
    rw [tl_ofString] at e2
    show [45] ++ ((toString ((m + 1 : Nat) : Int)).toList).map Char.toNat = 45 :: numL (m + 1)
    rw [e2]
    rfl
theorem numL_head (n : Nat) : (numL n).head? = some 48 → n = 0 := by
  induction n using Nat.strongRecOn with
  | _ n ih =>
    by_cases h : n < 10
    · rw [numL_lt h]
      intro z
      injection z with z
      omega
    · rw [numL_step (by omega)]
      intro z
      have ne := numL_ne (n / 10)
      have : (numL (n / 10)).head? = some 48 := by
        cases hn : numL (n / 10) with
        | nil => exact absurd hn ne
        | cons c r => rw [hn] at z; exact z
      have := ih (n / 10) (by omega) this
      omega
theorem numL_dig (n : Nat) : (numL n).all isDig = true := List.all_eq_true.mpr fun c hc => by
  have := numL_digits n c hc
  unfold isDig
  rw [decide_eq_true this.1, decide_eq_true this.2]
  rfl
theorem numL_no {n s : Nat} (h : s < 48 ∨ 57 < s) : (numL n).take 1 ≠ [s] := fun z => numL_free (n := n) h (List.mem_of_mem_take (by rw [z]; exact List.mem_singleton.mpr rfl))
theorem figs_nStr (n : Int) : figs (tl (nStr n)) = numL n.natAbs := by
  rw [tl_nStr]
  unfold figs
  split
  · rw [if_pos (show List.take 1 (45 :: numL n.natAbs) = [45] from rfl)]; rfl
  · rw [if_neg (numL_no (.inl (by decide)))]
theorem valL_nStr (n : Int) : valL (tl (nStr n)) = n := by
  unfold valL
  rw [figs_nStr, numL_val, tl_nStr]
  split
  · rw [if_pos (show List.take 1 (45 :: numL n.natAbs) = [45] from rfl)]; omega
  · rw [if_neg (numL_no (.inl (by decide)))]; omega
theorem canon_nStr {n : Int} (h : n.natAbs < 10000000) : canon (tl (nStr n)) = true := by
  unfold canon
  have h7 : (numL n.natAbs).length ≤ 7 := numL_len (by decide) (by omega)
  have h1 : 1 ≤ (numL n.natAbs).length := List.length_pos_iff.mpr (numL_ne _)
  rw [figs_nStr, decide_eq_true h1, decide_eq_true h7, numL_dig]
  by_cases hh : (numL n.natAbs).head? = some 48
  · have := numL_head _ hh
    have e : n = 0 := by omega
    subst e
    rw [show tl (nStr 0) = [48] by rw [tl_nStr]; exact numL_lt (by decide), decide_eq_true rfl]
    simp
  · rw [decide_eq_false hh]
    rfl
theorem numW_nStr {n lo hi : Int} (h : n.natAbs < 10000000) (h1 : lo ≤ n) (h2 : n ≤ hi) : numW (nStr n) lo hi = some n := by
  unfold numW
  rw [valL_nStr, if_pos ⟨canon_nStr h, h1, h2⟩]
theorem nStr_len {n : Int} (h : n.natAbs < 10000000) : (nStr n).length ≤ 8 := by
  have h7 : (numL n.natAbs).length ≤ 7 := numL_len (by decide) (by omega)
  rw [len_tl, tl_nStr]
  split
  · rw [List.length_cons]; omega
  · omega
theorem nStr_free {n : Int} {s : Nat} (h : s < 48 ∨ 57 < s) (h2 : s ≠ 45) : s ∉ tl (nStr n) := by
  rw [tl_nStr]
  split
  · exact fun z => by
      rcases List.mem_cons.mp z with z | z
      · exact h2 z
      · exact numL_free h z
  · exact numL_free h
theorem nStr_ne (n : Int) : tl (nStr n) ≠ [] := by
  rw [tl_nStr]
  split
  · simp
  · exact numL_ne _
theorem nStr_ascii (n : Int) : ∀ c ∈ tl (nStr n), c < 128 := by
  rw [tl_nStr]
  intro c hc
  split at hc
  · rcases List.mem_cons.mp hc with z | z
    · omega
    · have := numL_digits _ c z; omega
  · have := numL_digits _ c hc; omega
/-! ### texts of rules -/
def slS : Str := Str.ofString " / "
theorem tl_slS : tl slS = [32, 47, 32] := by rw [show slS = Str.ofString " / " from rfl, tl_ofString]; rfl
theorem tl_slash : tl slash = [47] := by rw [show slash = Str.ofString "/" from rfl, tl_ofString]; rfl
def rowT (row : List Int) : Str := Txt.join sp1 (row.map nStr)
def rowsT (rows : List (List Int)) : Str := Txt.join slS (rows.map rowT)
def textOf (r : R) : Str := Txt.join sp1 (r.kind :: (if r.rows.length > 0 then [rowsT r.rows] else []))
def wjoin : List (List Int) → List Str
  | [] => []
  | [row] => row.map nStr
  | row :: r2 :: rs => row.map nStr ++ slash :: wjoin (r2 :: rs)
def wordsOf (r : R) : List Str := r.kind :: wjoin r.rows
theorem tlj (y : Str) (ps : List Str) : tl (Txt.join y ps) = joinL (tl y) (ps.map tl) := by rw [join_eq, tl_join]
theorem joinL_app (S : List Nat) : ∀ {a b : List (List Nat)}, a ≠ [] → b ≠ [] → joinL S (a ++ b) = joinL S a ++ (S ++ joinL S b)
  | [], _, h, _ => absurd rfl h
  | [p], [], _, h => absurd rfl h
  | [p], q :: r, _, _ => rfl
  | p :: q :: r, b, _, hb => by
    show p ++ (S ++ joinL S ((q :: r) ++ b)) = (p ++ (S ++ joinL S (q :: r))) ++ (S ++ joinL S b)
    rw [joinL_app S (by simp) hb, List.append_assoc, List.append_assoc]
theorem wjoin_ne : ∀ {rows : List (List Int)}, rows ≠ [] → (∀ r ∈ rows, r ≠ []) → wjoin rows ≠ []
  | [], h, _ => absurd rfl h
  | [row], _, h => fun z => h row (List.mem_cons_self ..) (List.map_eq_nil_iff.mp z)
  | row :: r2 :: rs, _, _ => fun z => by
    have := congrArg List.length z
    simp only [wjoin, List.length_append, List.length_cons, List.length_nil] at this
    omega
theorem tl_rowsT : ∀ {rows : List (List Int)}, (∀ r ∈ rows, r ≠ []) → tl (rowsT rows) = joinL [32] ((wjoin rows).map tl)
  | [], _ => by
    unfold rowsT
    rw [tlj]
    rfl
  | [row], _ => by
    unfold rowsT
    rw [tlj]
    show tl (rowT row) = _
    unfold rowT
    rw [tlj, tl_sp1]
    rfl
  | row :: r2 :: rs, h => by
    have ih := tl_rowsT (rows := r2 :: rs) fun r hr => h r (List.mem_cons_of_mem _ hr)
    unfold rowsT at ih ⊢
    rw [tlj] at ih ⊢
    show tl (rowT row) ++ (tl slS ++ joinL (tl slS) (((r2 :: rs).map rowT).map tl)) = _
    rw [ih, tl_slS]
    simp only [wjoin]
    have hw : (wjoin (r2 :: rs)).map tl ≠ [] := fun z => wjoin_ne (by simp) (fun r hr => h r (List.mem_cons_of_mem _ hr)) (List.map_eq_nil_iff.mp z)
    have h0 : (row.map nStr).map tl ≠ [] := fun z => h row (List.mem_cons_self ..) (List.map_eq_nil_iff.mp (List.map_eq_nil_iff.mp z))
    rw [List.map_append, List.map_cons, joinL_app [32] h0 (by simp), tl_slash, show ([47] :: (wjoin (r2 :: rs)).map tl) = [[47]] ++ (wjoin (r2 :: rs)).map tl from rfl, joinL_app [32] (by simp) hw]
    unfold rowT
    rw [tlj, tl_sp1]
    rfl
theorem tl_textOf {r : R} (h : ∀ x ∈ r.rows, x ≠ []) : tl (textOf r) = joinL [32] ((wordsOf r).map tl) := by
  unfold textOf wordsOf
  rw [tlj, tl_sp1]
  by_cases hl : r.rows.length > 0
  · rw [if_pos hl]
    have hne : r.rows ≠ [] := fun z => by rw [z] at hl; cases hl
    have hw : (wjoin r.rows).map tl ≠ [] := fun z => wjoin_ne hne h (List.map_eq_nil_iff.mp z)
    show tl r.kind ++ ([32] ++ tl (rowsT r.rows)) = _
    rw [tl_rowsT h, List.map_cons, show (tl r.kind :: (wjoin r.rows).map tl) = [tl r.kind] ++ (wjoin r.rows).map tl from rfl, joinL_app [32] (by simp) hw]
    rfl
  · rw [if_neg hl, List.length_eq_zero_iff.mp (by omega : r.rows.length = 0)]
    rfl
theorem wjoin_mem : ∀ {rows : List (List Int)} {w : Str}, w ∈ wjoin rows → w = slash ∨ ∃ n, w = nStr n
  | [], w, h => by simp [wjoin] at h
  | [row], w, h => by
    obtain ⟨n, _, rfl⟩ := List.mem_map.mp h
    exact .inr ⟨n, rfl⟩
  | row :: r2 :: rs, w, h => by
    simp only [wjoin] at h
    rcases List.mem_append.mp h with h | h
    · obtain ⟨n, _, rfl⟩ := List.mem_map.mp h
      exact .inr ⟨n, rfl⟩
    · rcases List.mem_cons.mp h with h | h
      · exact .inl h
      · exact wjoin_mem h
theorem tl_kind (r : R) : tl r.kind = [116, 97, 98, 108, 101] ∨ tl r.kind = [116, 101, 114, 109, 115] := by
  cases r with
  | tab _ => left; show tl (Str.ofString "table") = _; rw [tl_ofString]; rfl
  | trm _ => right; show tl (Str.ofString "terms") = _; rw [tl_ofString]; rfl
theorem wordsOf_ok (r : R) : ∀ w ∈ wordsOf r, 32 ∉ tl w ∧ ∀ c ∈ tl w, c < 128 := by
  intro w hw
  rcases List.mem_cons.mp hw with h | h
  · rw [h]
    rcases tl_kind r with e | e <;> rw [e] <;> decide
  · rcases wjoin_mem h with h | ⟨n, h⟩
    · rw [h, tl_slash]; decide
    · rw [h]; exact ⟨nStr_free (.inl (by decide)) (by decide), nStr_ascii n⟩
theorem split_textOf {r : R} (h : ∀ x ∈ r.rows, x ≠ []) : splitW (textOf r) = wordsOf r := by
  refine map_tl_inj ?_
  rw [splitW_spl, tl_textOf h]
  refine spl_join (fun z => by cases List.map_eq_nil_iff.mp z) fun p hp => ?_
  obtain ⟨w, hw, rfl⟩ := List.mem_map.mp hp
  exact (wordsOf_ok r w hw).1
theorem joinL_mem {S : List Nat} : ∀ {ps : List (List Nat)} {c : Nat}, c ∈ joinL S ps → c ∈ S ∨ ∃ p ∈ ps, c ∈ p
  | [], c, h => by cases h
  | [p], c, h => .inr ⟨p, List.mem_cons_self .., h⟩
  | p :: q :: r, c, h => by
    rcases List.mem_append.mp h with h | h
    · exact .inr ⟨p, List.mem_cons_self .., h⟩
    · rcases List.mem_append.mp h with h | h
      · exact .inl h
      · rcases joinL_mem h with h | ⟨x, hx, h⟩
        · exact .inl h
        · exact .inr ⟨x, List.mem_cons_of_mem _ hx, h⟩
theorem joinL_len {S : List Nat} {m : Nat} : ∀ {ps : List (List Nat)}, (∀ p ∈ ps, p.length ≤ m) → (joinL S ps).length ≤ ps.length * (m + S.length)
  | [], _ => Nat.zero_le _
  | [p], h => by
    have := h p (List.mem_cons_self ..)
    show p.length ≤ 1 * _
    omega
  | p :: q :: r, h => by
    have h1 := h p (List.mem_cons_self ..)
    have h2 := joinL_len (S := S) (ps := q :: r) fun x hx => h x (List.mem_cons_of_mem _ hx)
    show (p ++ (S ++ joinL S (q :: r))).length ≤ _
    rw [List.length_append, List.length_append, List.length_cons, Nat.succ_mul]
    omega
theorem ascii_textOf {r : R} (h : ∀ x ∈ r.rows, x ≠ []) : ∀ c ∈ tl (textOf r), c < 128 := by
  intro c hc
  rw [tl_textOf h] at hc
  rcases joinL_mem hc with h | ⟨p, hp, h⟩
  · rw [List.mem_singleton.mp h]; decide
  · obtain ⟨w, hw, rfl⟩ := List.mem_map.mp hp
    exact (wordsOf_ok r w hw).2 c h
/-- small rows -/
structure RowsB (rows : List (List Int)) : Prop where
  len : rows.length ≤ 39
  row : ∀ x ∈ rows, x ≠ [] ∧ x.length ≤ 39 ∧ ∀ n ∈ x, n.natAbs ≤ 1000000
theorem R.rowsB {r : R} (ok : r.ok) : RowsB r.rows := by
  cases r with
  | tab rows =>
    obtain ⟨h1, h2, h3⟩ := ok
    refine ⟨by show rows.length ≤ 39; omega, fun x hx => ?_⟩
    obtain ⟨i, hi⟩ := List.mem_iff_getElem?.mp hx
    obtain ⟨a, b⟩ := h3 i x hi
    have hl := (List.getElem?_eq_some_iff.mp hi).1
    refine ⟨fun z => by rw [z] at a; simp only [List.length_nil] at a; have : i < rows.length := hl; omega, by omega, fun n hn => ?_⟩
    have := b n hn
    omega
  | trm ts =>
    obtain ⟨h1, h2⟩ := ok
    refine ⟨by show (ts.map tri).length ≤ 39; rw [List.length_map]; omega, fun x hx => ?_⟩
    obtain ⟨t, ht, rfl⟩ := List.mem_map.mp hx
    obtain ⟨a, b, c, d⟩ := h2 t ht
    refine ⟨by simp, show 3 ≤ 39 by decide, fun n hn => ?_⟩
    simp only [List.mem_cons, List.not_mem_nil, or_false] at hn
    rcases hn with rfl | rfl | rfl <;> omega
theorem rowT_len {row : List Int} (h : row.length ≤ 39) (hn : ∀ n ∈ row, n.natAbs ≤ 1000000) : (rowT row).length ≤ 351 := by
  unfold rowT
  rw [len_tl, tlj, tl_sp1]
  have := joinL_len (S := [32]) (m := 8) (ps := (row.map nStr).map tl) fun p hp => by
    obtain ⟨w, hw, rfl⟩ := List.mem_map.mp hp
    obtain ⟨n, hn2, rfl⟩ := List.mem_map.mp hw
    rw [← len_tl]
    exact nStr_len (by have := hn n hn2; omega)
  rw [List.length_map, List.length_map] at this
  simp only [List.length_cons, List.length_nil] at this
  omega
theorem rowsT_len {rows : List (List Int)} (h : RowsB rows) : (rowsT rows).length ≤ 14000 := by
  unfold rowsT
  rw [len_tl, tlj, tl_slS]
  have := joinL_len (S := [32, 47, 32]) (m := 351) (ps := (rows.map rowT).map tl) fun p hp => by
    obtain ⟨w, hw, rfl⟩ := List.mem_map.mp hp
    obtain ⟨x, hx, rfl⟩ := List.mem_map.mp hw
    rw [← len_tl]
    exact rowT_len (h.row x hx).2.1 (h.row x hx).2.2
  rw [List.length_map, List.length_map] at this
  simp only [List.length_cons, List.length_nil] at this
  have := h.len
  omega
theorem textOf_len {r : R} (h : RowsB r.rows) : (textOf r).length ≤ 14010 := by
  unfold textOf
  have hk : (tl r.kind).length ≤ 5 := by rcases tl_kind r with e | e <;> rw [e] <;> decide
  rw [len_tl, tlj, tl_sp1]
  by_cases hl : r.rows.length > 0
  · rw [if_pos hl]
    show (tl r.kind ++ ([32] ++ tl (rowsT r.rows))).length ≤ _
    have := rowsT_len h
    rw [len_tl] at this
    rw [List.length_append, List.length_append]
    simp only [List.length_cons, List.length_nil]
    omega
  · rw [if_neg hl]
    show (tl r.kind).length ≤ _
    omega
/-! ### the texts, read -/
def idx : Nat → List Str → List IW
  | _, [] => []
  | k, w :: ws => (k, w) :: idx (k + 1) ws
theorem idx_snd : ∀ (k : Nat) (ws : List Str), (idx k ws).map (·.2) = ws
  | _, [] => rfl
  | k, w :: ws => by show w :: _ = _; rw [idx_snd (k + 1) ws]
theorem rowsM_words : ∀ (ws : List Str) (k : Nat) (cur : List IW) (rest : List Str), (∀ w ∈ ws, w ≠ slash) → rowsM k cur (ws ++ rest) = rowsM (k + ws.length) (cur ++ idx k ws) rest
  | [], k, cur, rest, _ => by
    show rowsM k cur rest = rowsM k (cur ++ []) rest
    rw [List.append_nil]
  | w :: ws, k, cur, rest, h => by
    show rowsM k cur (w :: (ws ++ rest)) = _
    simp only [rowsM]
    rw [if_neg (h w (List.mem_cons_self ..)), rowsM_words ws (k + 1) _ rest fun x hx => h x (List.mem_cons_of_mem _ hx), List.append_assoc]
    show rowsM (k + 1 + ws.length) (cur ++ (k, w) :: idx (k + 1) ws) rest = rowsM (k + (ws.length + 1)) _ rest
    rw [show k + 1 + ws.length = k + (ws.length + 1) by omega]
    rfl
theorem nStr_slash (n : Int) : nStr n ≠ slash := fun z => by
  have := nStr_free (n := n) (s := 47) (.inl (by decide)) (by decide)
  rw [z, tl_slash] at this
  exact this (List.mem_singleton.mpr rfl)
theorem map_slash (row : List Int) : ∀ w ∈ row.map nStr, w ≠ slash := fun w hw => by
  obtain ⟨n, _, rfl⟩ := List.mem_map.mp hw
  exact nStr_slash n
theorem idx_emp {k : Nat} {ws : List Str} (h : ws ≠ []) : ¬ (([] : List IW) ++ idx k ws).isEmpty = true := by
  cases ws with
  | nil => exact absurd rfl h
  | cons w ws => exact fun z => by cases z
theorem rowsM_wjoin : ∀ (rows : List (List Int)) (k : Nat), rows ≠ [] → (∀ r ∈ rows, r ≠ []) → ∃ Z : List (List IW), rowsM k [] (wjoin rows) = (Z, none) ∧ Z.map (fun z => z.map (·.2)) = rows.map fun r => r.map nStr
  | [], _, h, _ => absurd rfl h
  | [row], k, _, h => by
    have hr : row.map nStr ≠ [] := fun z => h row (List.mem_cons_self ..) (List.map_eq_nil_iff.mp z)
    refine ⟨[idx k (row.map nStr)], ?_, by show [(idx k (row.map nStr)).map (·.2)] = _; rw [idx_snd]; rfl⟩
    have := rowsM_words (row.map nStr) k [] [] (map_slash row)
    rw [List.append_nil] at this
    show rowsM k [] (row.map nStr) = _
    rw [this]
    simp only [rowsM]
    rw [if_neg (idx_emp hr)]
    rfl
  | row :: r2 :: rs, k, _, h => by
    have hr : row.map nStr ≠ [] := fun z => h row (List.mem_cons_self ..) (List.map_eq_nil_iff.mp z)
    obtain ⟨Z, h1, h2⟩ := rowsM_wjoin (r2 :: rs) (k + (row.map nStr).length + 1) (by simp) fun r hr => h r (List.mem_cons_of_mem _ hr)
    refine ⟨idx k (row.map nStr) :: Z, ?_, by rw [List.map_cons, h2, idx_snd]; rfl⟩
    simp only [wjoin]
    rw [rowsM_words (row.map nStr) k [] _ (map_slash row)]
    simp only [rowsM]
    rw [if_pos True.intro, if_neg (idx_emp hr), h1]
    rfl
theorem rowG_of {f : Nat → Str → Option Int} : ∀ {row : List IW} {p : Nat} {ns : List Int}, row.map (·.2) = ns.map nStr → (∀ (i : Nat) (n : Int), ns[i]? = some n → f (p + i) (nStr n) = some n) → rowG f p row = .ok ns
  | [], p, [], _, _ => rfl
  | [], p, _ :: _, h, _ => by cases h
  | _ :: _, p, [], h, _ => by cases h
  | w :: row, p, n :: ns, h, hf => by
    rw [List.map_cons, List.map_cons] at h
    injection h with h1 h2
    simp only [rowG]
    rw [h1, show f p (nStr n) = some n from hf 0 n rfl]
    simp only
    rw [rowG_of h2 fun i m hi => by rw [show p + 1 + i = p + (i + 1) by omega]; exact hf (i + 1) m hi]
    rfl
theorem rowC_of {f : Nat → Str → Option Int} {need : Nat} {row : List IW} {ns : List Int} (h : row.map (·.2) = ns.map nStr) (hf : ∀ (i : Nat) (n : Int), ns[i]? = some n → f i (nStr n) = some n) (hl : need ≤ ns.length) : rowC f need row = .ok ns := by
  unfold rowC
  rw [rowG_of h fun i n hi => by rw [Nat.zero_add]; exact hf i n hi]
  simp only
  rw [if_neg (by omega)]
theorem tableM_of : ∀ {Z : List (List IW)} {rows : List (List Int)} {due : Nat} {last : Int}, Z.map (fun z => z.map (·.2)) = rows.map (fun r => r.map nStr) → rows.length = due → due ≤ 39 → (∀ (i : Nat) (r : List Int), rows[i]? = some r → r.length = due - i ∧ ∀ n ∈ r, -1000000 ≤ n ∧ n ≤ 1000000) → tableM due last none Z = .ok rows
  | [], [], due, last, _, hl, _, _ => by
    simp only [tableM]
    rw [if_neg (by rw [← hl]; simp)]
  | [], _ :: _, _, _, h, _, _, _ => by cases h
  | _ :: _, [], _, _, h, _, _, _ => by cases h
  | z :: Z, row :: rows, due, last, h, hl, h39, hr => by
    rw [List.map_cons, List.map_cons] at h
    injection h with h1 h2
    rw [List.length_cons] at hl
    obtain ⟨a, b⟩ := hr 0 row rfl
    simp only [tableM]
    rw [if_neg (by omega), rowC_of (need := due) h1 ?_ (by omega)]
    · show Out.pre [row] (tableM (due - 1) (lastI z) none Z) = _
      rw [tableM_of h2 (by omega) (by omega) fun i r hi => ?_]
      · rfl
      · obtain ⟨c, d⟩ := hr (i + 1) r hi
        exact ⟨by omega, d⟩
    · intro i n hi
      have hil := (List.getElem?_eq_some_iff.mp hi).1
      have hb := b n (List.mem_of_getElem? hi)
      unfold fTab
      rw [if_pos (by omega)]
      exact numW_nStr (by omega) hb.1 hb.2
theorem termsM_of : ∀ {Z : List (List IW)} {ts : List (Int × Nat × Nat)} {i : Nat}, Z.map (fun z => z.map (·.2)) = (ts.map tri).map (fun r => r.map nStr) → i + ts.length ≤ 6 → (∀ t ∈ ts, -1000000 ≤ t.1 ∧ t.1 ≤ 1000000 ∧ t.2.1 ≤ 4 ∧ t.2.2 ≤ 4) → termsM i none Z = .ok (ts.map tri)
  | [], [], i, _, _, _ => rfl
  | [], _ :: _, _, h, _, _ => by cases h
  | _ :: _, [], _, h, _, _ => by cases h
  | z :: Z, t :: ts, i, h, hl, hr => by
    rw [List.map_cons, List.map_cons, List.map_cons] at h
    injection h with h1 h2
    rw [List.length_cons] at hl
    obtain ⟨a, b, c, d⟩ := hr t (List.mem_cons_self ..)
    simp only [termsM]
    rw [if_neg (by omega), rowC_of (need := 3) h1 ?_ (by simp)]
    · show Out.pre [tri t] (termsM (i + 1) none Z) = _
      rw [termsM_of h2 (by omega) fun t ht => hr t (List.mem_cons_of_mem _ ht)]
      rfl
    · intro j n hj
      unfold fTerm
      match j, hj with
      | 0, hj =>
        cases hj
        rw [if_pos (by decide), if_pos rfl]
        exact numW_nStr (by omega) a b
      | 1, hj =>
        cases hj
        rw [if_pos (by decide), if_neg (by decide)]
        exact numW_nStr (by omega) (by omega) (by omega)
      | 2, hj =>
        cases hj
        rw [if_pos (by decide), if_neg (by decide)]
        exact numW_nStr (by omega) (by omega) (by omega)
      | j + 3, hj => cases hj
theorem triOf_tri (t : Int × Nat × Nat) : triOf (tri t) = t := rfl
theorem readW_words {r : R} (ok : r.ok) : readW (wordsOf r) = .rule r := by
  have B := R.rowsB ok
  cases r with
  | tab rows =>
    obtain ⟨h1, h2, h3⟩ := ok
    have hne : rows ≠ [] := fun z => by rw [z] at h1; exact absurd h1 (by decide)
    obtain ⟨Z, e1, e2⟩ := rowsM_wjoin rows 1 hne fun x hx => (B.row x hx).1
    show readW (Str.ofString "table" :: wjoin rows) = _
    simp only [readW]
    rw [if_pos True.intro, e1]
    have hd : due0 Z = rows.length := by
      cases rows with
      | nil => exact absurd rfl hne
      | cons row rs =>
        cases Z with
        | nil => cases e2
        | cons z Z =>
          rw [List.map_cons, List.map_cons] at e2
          injection e2 with e2 _
          have := congrArg List.length e2
          rw [List.length_map, List.length_map] at this
          show z.length = _
          rw [this]
          exact (h3 0 row rfl).1
    show (tabM none Z).toRd R.tab = _
    unfold tabM
    rw [hd, tableM_of e2 rfl (by omega) h3]
    rfl
  | trm ts =>
    obtain ⟨h1, h2⟩ := ok
    show readW (Str.ofString "terms" :: wjoin (ts.map tri)) = _
    simp only [readW]
    rw [if_neg (fun z => nk_tt z.symm), if_pos True.intro]
    cases hts : ts with
    | nil => rfl
    | cons t us =>
      rw [← hts]
      have hne : ts.map tri ≠ [] := by rw [hts]; simp
      obtain ⟨Z, e1, e2⟩ := rowsM_wjoin (ts.map tri) 1 hne fun x hx => (B.row x hx).1
      rw [if_neg (wjoin_ne hne fun x hx => (B.row x hx).1), e1]
      show ((termsM 0 none Z).toRd fun ts => R.trm (ts.map triOf)) = _
      rw [termsM_of e2 (by omega) h2]
      show RdO.rule (R.trm ((ts.map tri).map triOf)) = _
      rw [List.map_map]
      have : (triOf ∘ tri) = id := funext triOf_tri
      rw [this, List.map_id]
theorem readW_textOf {r : R} (ok : r.ok) : readW (splitW (textOf r)) = .rule r := by
  rw [split_textOf fun x hx => ((R.rowsB ok).row x hx).1]
  exact readW_words ok
theorem textOf_inj {r r' : R} (ok : r.ok) (ok' : r'.ok) (h : textOf r = textOf r') : r = r' := by
  have e := readW_textOf ok
  rw [h, readW_textOf ok'] at e
  injection e with e
  exact e.symm
/-! ### write -/
/-- the texts of rows, by a comprehension: what its turn is asked -/
theorem row_inv {H : Hp} {xs : List V} {rows : List (List Int)} (h : TpAll H xs (rows.map tupI)) {i : Nat} {x : V} (hi : xs[i]? = some x) : ∃ c row, x = .ref c ∧ rows[i]? = some row ∧ H c = some (.tup (row.map V.int)) := by
  obtain ⟨d, hd, tx⟩ := h.get' hi
  rw [List.getElem?_map] at hd
  obtain ⟨row, hrow, rfl⟩ := Option.map_eq_some_iff.mp hd
  obtain ⟨c, ys, rfl, hc, ty⟩ := Tp.inv (ds := row.map PyData.int) tx
  have := ty.ints
  subst this
  exact ⟨c, row, rfl, hrow, hc⟩
theorem join_sum {xs : List Str} {m : Nat} (h : ∀ x ∈ xs, x.length ≤ m) : (xs.map (·.length)).sum ≤ xs.length * m := by
  induction xs with
  | nil => exact Nat.zero_le _
  | cons x xs ih =>
    have h1 := h x (List.mem_cons_self ..)
    have h2 := ih fun y hy => h y (List.mem_cons_of_mem _ hy)
    rw [List.map_cons, List.sum_cons, List.length_cons, Nat.succ_mul]
    omega
theorem log2_small {n : Int} (h : n.natAbs ≤ 1000000) : n.natAbs.log2 < 1920 := by
  by_cases z : n.natAbs = 0
  · rw [z]; decide
  · rw [Nat.log2_lt z]
    exact Nat.lt_of_le_of_lt h (Nat.lt_of_lt_of_le (show 1000000 < 2 ^ 20 by decide) (Nat.pow_le_pow_right (by decide) (by decide)))
def sp_write (Γ : Gm) : Sp := fun vs H Q _ => ∃ v r, vs = [v] ∧ RuleAt Γ H v r ∧ ∀ H', Same H H' → Q (.str (textOf r)) H'
/-- write: rule, rows, row, number -/
def t_write (Γ : Gm) : TS := (tSeq (tAsg (tLc (iSeq Γ.K (tFld Γ.K (tVar 0) "body")) (gName 2) tYes (tM1 (rJoinU Γ.K) (tC (.str " ")) (tLc (iSeq Γ.K (tVar 2)) (gName 3) tYes (tCB rStr1 (tCons (tVar 3) tNil)) [3])) [2]) (gName 1))
  (tRet (tM1 (rJoinU Γ.K) (tC (.str " ")) (tLst (tCons (tFld Γ.K (tVar 0) "form") (StX.tStar Γ.K (tIf (tTest (tOp rGt (tCB (rLen Γ.K) (tCons (tVar 1) tNil)) (tC (.int 0)))) (tLst (tCons (tM1 (rJoinU Γ.K) (tJoined [(tC (.str " ")), (tFmt (tC (.str "/"))), (tC (.str " "))]) (tVar 1)) tNil)) (tLst tNil)) tNil))))))
theorem rd_write (Γ : Gm) (F : RuleF Γ) (vs : List V) (H : Hp) (Q : VK) (E : XK) (h : sp_write Γ vs H Q E) : t_write Γ ⟨fun _ H' => Q .non H', Q, fun _ _ => False, fun _ _ => False⟩ (startN 4 vs) H := by
  obtain ⟨v, r, rfl, hr, k⟩ := h
  have B : RowsB r.rows := by obtain ⟨p, dx, b, _, _, _, ok⟩ := hr; exact R.rowsB ok
  unfold t_write
  walk_at "ss"
  refine w_body F hr fun b xs hb tb => ?_
  walk_at "ss"
  obtain ⟨b', xs', eb, hb', txs⟩ := Tp.inv (ds := r.rows.map tupI) (by rw [R.body_rows] at tb; exact tb)
  cases eb
  rw [hb] at hb'
  cases hb'
  refine k_seqT (SqT.of hb) ?_
  refine k_lcTup (fun i acc _ => acc = ((r.rows.take i).map rowT).map V.str) (SqT.of hb) (fun _ _ => rfl) ?_ ?_
  · rintro i x D acc H1 hi hD e1 hacc rfl
    obtain ⟨c, row, rfl, hrow, hc⟩ := row_inv txs hi
    have Br := B.row row (List.mem_of_getElem? hrow)
    walk_at "ss"
    refine ⟨rfl, ?_⟩
    refine w_m1 ?_
    walk_at "ss"
    refine w_str ?_
    walk_at "ss"
    refine k_seqT (SqT.of (e1 _ _ hc)) ?_
    refine k_lcTup (fun j acc _ => acc = ((row.take j).map nStr).map V.str) (SqT.of (e1 _ _ hc)) (fun _ _ => rfl) ?_ ?_
    · rintro j y D2 acc2 H2 hj hD2 e2 hacc2 rfl
      rw [List.getElem?_map] at hj
      obtain ⟨n, hn, rfl⟩ := Option.map_eq_some_iff.mp hj
      have jl := (List.getElem?_eq_some_iff.mp hn).1
      walk_at "ss"
      refine ⟨rfl, ?_⟩
      walk_at "ss"
      refine w_strS (log2_small (Br.2.2 n (List.mem_of_getElem? hn))) ?_
      refine lcTurn.mk hD2 e2 hacc2 (by have := Br.2.1; rw [List.length_map, List.length_map, List.length_take]; omega) ?_
      rw [take_succ hn, List.map_append, List.map_append]
      rfl
    · rintro D2 acc2 H2 hD2 e2 hacc2 rfl
      rw [List.length_map, List.take_length] at hacc2
      walk_at "ss"
      refine w_joinL hacc2 ?_ ?_
      · have := join_sum (xs := row.map nStr) (m := 8) fun w hw => by
          obtain ⟨n, hn, rfl⟩ := List.mem_map.mp hw
          exact nStr_len (by have := Br.2.2 n hn; omega)
        rw [List.length_map] at this ⊢
        have := Br.2.1
        have e1 : (Str.ofString " ").length = 1 := by show sp1.length = 1; rw [len_tl, tl_sp1]; rfl
        rw [e1]
        omega
      · have il := (List.getElem?_eq_some_iff.mp hrow).1
        have := B.len
        refine lcTurn.mk hD (e1.trans e2) (e2 _ _ hacc) (by rw [List.length_map, List.length_map, List.length_take]; omega) ?_
        rw [take_succ hrow, List.map_append, List.map_append]
        rfl
  · rintro D acc H1 hD e1 hacc rfl
    have lx : xs.length = r.rows.length := by rw [txs.length, List.length_map]
    rw [lx, List.take_length] at hacc
    walk_at "ss"
    refine w_m1 ?_
    walk_at "ss"
    refine w_str ?_
    walk_at "ss"
    refine w_form F (hr.mono e1) ?_
    refine w_star ?_
    walk_at "ss"
    refine w_lenL (SqL.of hacc) ?_
    walk_at "ss"
    rw [List.length_map, List.length_map]
    have hk : r.kind.length ≤ 5 := by rw [len_tl]; rcases tl_kind r with e | e <;> rw [e] <;> decide
    have s1 : (Str.ofString " ").length = 1 := by show sp1.length = 1; rw [len_tl, tl_sp1]; rfl
    have s3 : slS.length = 3 := by rw [len_tl, tl_slS]; rfl
    have BL := B.len
    by_cases hp : 0 < r.rows.length
    · rw [decide_eq_true (show (0 : Int) < (r.rows.length : Nat) by omega)]
      walk_at "ss"
      refine w_m1 ?_
      have sls : Str.empty ++ Str.ofString " " ++ Str.ofString "/" ++ Str.ofString " " = slS := by
        refine ext_tl ?_
        rw [tl_append, tl_append, tl_append, tl_slS, show tl (Str.ofString "/") = [47] from tl_slash, show tl (Str.ofString " ") = [32] from tl_sp1]
        rfl
      have sz : slS.length ≤ sizeLine := by rw [s3]; decide
      have b1 : (Str.empty ++ Str.ofString " ").length ≤ sizeLine := by
        rw [len_tl, tl_append, show tl (Str.ofString " ") = [32] from tl_sp1]; decide
      have b2 : (Str.empty ++ Str.ofString " " ++ Str.ofString "/").length ≤ sizeLine := by
        rw [len_tl, tl_append, tl_append, show tl (Str.ofString "/") = [47] from tl_slash, show tl (Str.ofString " ") = [32] from tl_sp1]; decide
      have b0 : (Str.ofString "/").length ≤ sizeLine := by rw [len_tl, show tl (Str.ofString "/") = [47] from tl_slash]; decide
      refine ⟨_, rfl, b1, .inl ⟨_, rfl, b0, ⟨_, rfl, b2, ⟨_, rfl, by rw [sls]; exact sz, ?_⟩⟩⟩⟩
      show _ ∧ _
      rw [sls]
      refine w_str ?_
      walk_at "ss"
      refine w_joinL hacc ?_ ?_
      · have := join_sum (xs := r.rows.map rowT) (m := 351) fun w hw => by
          obtain ⟨x, hx, rfl⟩ := List.mem_map.mp hw
          exact rowT_len (B.row x hx).2.1 (B.row x hx).2.2
        rw [List.length_map] at this ⊢
        rw [s3]
        omega
      walk_at "ss"
      refine n_lst fun q H2 f2 e2 g2 => ?_
      refine ⟨q, _, rfl, .inr (SqL.of g2), ?_⟩
      walk_at "ss"
      refine n_lst (fun q3 H3 f3 e3 g3 => ?_) (by simp)
      refine w_joinL (ys := [r.kind, rowsT r.rows]) g3 ?_ ?_
      · have := rowsT_len B
        rw [s1]
        simp only [List.map_cons, List.map_nil, List.sum_cons, List.sum_nil, List.length_cons, List.length_nil]
        omega
      · have := k H3 (e1.trans (e2.trans e3))
        unfold textOf at this
        rw [if_pos hp] at this
        exact this
    · rw [decide_eq_false (show ¬ (0 : Int) < (r.rows.length : Nat) by omega)]
      walk_at "ss"
      refine n_lst fun q H2 f2 e2 g2 => ?_
      refine ⟨q, _, rfl, .inr (SqL.of g2), ?_⟩
      walk_at "ss"
      refine n_lst fun q3 H3 f3 e3 g3 => ?_
      refine w_joinL (ys := [r.kind]) g3 ?_ ?_
      · rw [s1]
        simp only [List.map_cons, List.map_nil, List.sum_cons, List.sum_nil, List.length_cons, List.length_nil]
        omega
      · have := k H3 (e1.trans (e2.trans e3))
        unfold textOf at this
        rw [if_neg hp] at this
        exact this

open _root_.TL (tl len_tl ext_tl tl_ofString tl_append)
/-! ### more of texts: list(text), text * number, a sign that is not in a text -/
def signsOf (z : Str) : List V := z.cps.toList.map fun c => V.str ⟨#[c]⟩
def rListS : List V → Hp → VK → Prop := fun xs H Q => ∃ z : Str, xs = [.str z] ∧ z.length ≤ sizeLine ∧ ∀ l, H l = none → Q (.ref l) (upd H l (.lst (signsOf z)))
def rMulS : R2 := fun x y H Q => ∃ z n, x = .str z ∧ y = .int n ∧ PySem.MulOk z n ∧ Q (.str (Txt.mul z n)) H
def rNotInSign : R2 := fun x y H Q => ∃ (c : Nat) (z : Str), x = .str ⟨#[c]⟩ ∧ y = .str z ∧ Q (.bl (!decide (c ∈ z.cps.toList))) H
section
variable {X : Cx}
theorem op_mulS : OpR X (binaryOp .Mult) rMulS := by
  intro pins s σ H x y v u Q I rx ry h
  obtain ⟨z, n, rfl, rfl, ok, q⟩ := h
  obtain ⟨t, rfl⟩ := rx
  obtain ⟨t', rfl⟩ := ry
  exact PySem.SB.mul ok fun t' k => ⟨.str _, H, I.tok _, ⟨_, rfl⟩, q⟩
theorem call_listS (hc : X.calm = true) : CallR X (.type "list") rListS := by
  intro pins s σ H xs us Q I r h
  obtain ⟨z, rfl, hz, q⟩ := h
  obtain ⟨u, rfl, rx⟩ := vals1 r
  obtain ⟨t, rfl⟩ := rx
  refine PySem.call_list_str (I.ok.hd hc) z t (fun h' tk acc c' hk e' hi => ?_) hz
  refine ⟨.ref s.heap.objs.size, _, I.laid hk (Nat.le_refl _) (show ObjOk X.prog X.w _ _ _ (.lst (signsOf z)) from ⟨?_, acc.toList, c', ?_, ?_⟩), rfl, q _ I.fresh⟩
  · unfold signsOf
    rw [List.length_map, Array.length_toList]
    exact hz
  · refine L2.vals_of_at (by unfold signsOf; rw [List.length_map, Array.length_toList, Array.length_toList]; exact hi.1.symm) fun j x u hx hu => ?_
    unfold signsOf at hx
    rw [List.getElem?_map, Array.getElem?_toList] at hx
    obtain ⟨c, hc, rfl⟩ := Option.map_eq_some_iff.mp hx
    obtain ⟨c2, t2, h1, h2⟩ := hi.2 j u (by rw [← hu, Array.getElem?_toList])
    rw [hc] at h1
    cases h1
    exact ⟨t2, h2⟩
  · rw [Array.toArray_toList]; exact e'
end

open _root_.TL (tl len_tl ext_tl tl_ofString tl_append)
/-! ### the word that is told, word by word -/
def termS : Nat → Nat → Nat → List Str → Option Int
  | _, p, k, [] => if p = 3 then none else some (k : Int)
  | i, p, k, w :: ws => if p = 3 then (if w = slash then (if i + 1 = 6 then some (k : Int) else termS (i + 1) 0 (k + 1) ws) else some (k : Int)) else if (fTerm p w).isSome = true then termS i (p + 1) (k + 1) ws else some (k : Int)
def numT (w : Str) : Option Int := numW w (-1000000) 1000000
def tabS : Bool → Nat → Nat → Nat → List Str → Option Int
  | true, _, p, k, [] => if p = 1 then none else some (k : Int)
  | false, due, p, k, [] => if p = due ∧ due = 1 then none else some (k : Int)
  | first, due, p, k, w :: ws => if w = slash then (if p = 0 ∨ (first = false ∧ p < due) ∨ (first = true ∧ p = 1) ∨ due = 1 then some (k : Int) else tabS false ((if first = true then p else due) - 1) 0 (k + 1) ws) else if p = due ∨ (numT w).isSome = false then some (k : Int) else tabS first due (p + 1) (k + 1) ws
theorem tabS_slash (first : Bool) (due p k : Nat) (ws : List Str) : tabS first due p k (slash :: ws) = if p = 0 ∨ (first = false ∧ p < due) ∨ (first = true ∧ p = 1) ∨ due = 1 then some (k : Int) else tabS false ((if first = true then p else due) - 1) 0 (k + 1) ws := by
  cases first <;> (rw [tabS]; exact if_pos rfl)
theorem tabS_word (first : Bool) (due p k : Nat) {w : Str} (ws : List Str) (h : w ≠ slash) : tabS first due p k (w :: ws) = if p = due ∨ (numT w).isSome = false then some (k : Int) else tabS first due (p + 1) (k + 1) ws := by
  cases first <;> (rw [tabS]; exact if_neg h)
def wrongW : List Str → Option Int
  | [] => some 0
  | w :: r => if w = "table" then tabS true 39 0 1 r else if w = "terms" then (if r = [] then none else termS 0 0 1 r) else some 0
/-! rows of words -/
theorem rowsM_cur : ∀ (ws : List Str) (k : Nat) (cur : List IW), cur ≠ [] → ∃ more rest, (rowsM k cur ws).1 = (cur ++ more) :: rest
  | [], k, cur, h => by
    simp only [rowsM]
    rw [if_neg (fun z => h (List.isEmpty_iff.mp z))]
    exact ⟨[], [], by rw [List.append_nil]⟩
  | w :: ws, k, cur, h => by
    simp only [rowsM]
    by_cases hs : w = slash
    · rw [if_pos hs, if_neg (fun z => h (List.isEmpty_iff.mp z))]
      exact ⟨[], _, by rw [List.append_nil]⟩
    · rw [if_neg hs]
      obtain ⟨more, rest, e⟩ := rowsM_cur ws (k + 1) (cur ++ [(k, w)]) (by simp)
      exact ⟨(k, w) :: more, rest, by rw [e, List.append_assoc]; rfl⟩
theorem emp : ([] : List IW).isEmpty = true := rfl
/-- what follows a sign: the next row begins there, or it is empty there -/
theorem rowsM_next (ws : List Str) (k : Nat) : ((rowsM k [] ws).1 = [] ∧ (rowsM k [] ws).2 = some k) ∨ ∃ w more rest, (rowsM k [] ws).1 = ((k, w) :: more) :: rest := by
  cases ws with
  | nil =>
    left
    simp only [rowsM]
    exact ⟨by rw [if_pos emp], by rw [if_pos emp]⟩
  | cons w ws =>
    simp only [rowsM]
    by_cases hs : w = slash
    · rw [if_pos hs, if_pos emp]
      exact .inl ⟨rfl, rfl⟩
    · rw [if_neg hs]
      right
      obtain ⟨more, rest, e⟩ := rowsM_cur ws (k + 1) ([] ++ [(k, w)]) (by simp)
      exact ⟨w, more, rest, by rw [e]; rfl⟩
def errOf : Out (List Int) → Option Int
  | .er k => some k
  | .ok _ => none
theorem errOf_pre (xs : List (List Int)) (o : Out (List Int)) : errOf (o.pre xs) = errOf o := by cases o <;> rfl
/-- words that are good so far -/
def Good (f : Nat → Str → Option Int) (cur : List IW) : Prop := ∀ (q : Nat) (w : IW), cur[q]? = some w → (f q w.2).isSome = true
theorem rowG_good {f : Nat → Str → Option Int} : ∀ (cur : List IW) (p : Nat) (more : List IW), (∀ (q : Nat) (w : IW), cur[q]? = some w → (f (p + q) w.2).isSome = true) → ∃ ns, ns.length = cur.length ∧ rowG f p (cur ++ more) = (rowG f (p + cur.length) more).pre ns
  | [], p, more, _ => ⟨[], rfl, (Out.pre_nil _).symm⟩
  | w :: cur, p, more, h => by
    obtain ⟨ns, e1, e2⟩ := rowG_good cur (p + 1) more fun q u hq => by rw [show p + 1 + q = p + (q + 1) by omega]; exact h (q + 1) u hq
    obtain ⟨n, hn⟩ := Option.isSome_iff_exists.mp (h 0 w rfl)
    refine ⟨n :: ns, by rw [List.length_cons, e1]; rfl, ?_⟩
    show rowG f p (w :: (cur ++ more)) = _
    simp only [rowG]
    rw [show f p w.2 = some n from hn]
    simp only
    rw [e2, Out.pre_pre, List.length_cons, show p + 1 + cur.length = p + (cur.length + 1) by omega]
    rfl
theorem rowC_bad {f : Nat → Str → Option Int} {need : Nat} {cur more : List IW} {k : Nat} {w : Str} (g : Good f cur) (hb : (f cur.length w).isSome = false) : rowC f need (cur ++ (k, w) :: more) = .er (k : Int) := by
  obtain ⟨ns, _, e⟩ := rowG_good cur 0 ((k, w) :: more) fun q u hq => by rw [Nat.zero_add]; exact g q u hq
  unfold rowC
  rw [e, Nat.zero_add]
  simp only [rowG]
  rw [show f cur.length w = none from by cases hx : f cur.length w with | none => rfl | some n => rw [hx] at hb; cases hb]
  rfl
theorem rowC_good {f : Nat → Str → Option Int} {need : Nat} {cur : List IW} (g : Good f cur) : (cur.length < need → rowC f need cur = .er (lastI cur + 1)) ∧ (need ≤ cur.length → ∃ ns, rowC f need cur = .ok ns) := by
  obtain ⟨ns, e1, e⟩ := rowG_good cur 0 [] fun q u hq => by rw [Nat.zero_add]; exact g q u hq
  rw [List.append_nil] at e
  have e' : rowG f 0 cur = .ok ns := by rw [e]; show Out.ok (ns ++ []) = _; rw [List.append_nil]
  unfold rowC
  rw [e']
  simp only
  exact ⟨fun h => by rw [if_pos (by omega)], fun h => ⟨ns, by rw [if_neg (by omega)]⟩⟩
theorem lastI_snoc (cur : List IW) (k : Nat) (w : Str) : lastI (cur ++ [(k, w)]) = (k : Int) := by
  unfold lastI
  rw [List.getLast?_concat]
theorem Good.snoc {f : Nat → Str → Option Int} {cur : List IW} {k : Nat} {w : Str} (g : Good f cur) (h : (f cur.length w).isSome = true) : Good f (cur ++ [(k, w)]) := fun q u hq => by
  by_cases hl : q < cur.length
  · rw [List.getElem?_append_left hl] at hq
    exact g q u hq
  · have lt := (List.getElem?_eq_some_iff.mp hq).1
    rw [List.length_append] at lt
    have e : q = cur.length := by simp only [List.length_cons, List.length_nil] at lt; omega
    subst e
    rw [List.getElem?_append_right (Nat.le_refl _), Nat.sub_self] at hq
    cases hq
    exact h
theorem numW_slash (lo hi : Int) : numW slash lo hi = none := by
  unfold numW
  rw [if_neg]
  rw [tl_slash]
  exact fun z => by simp [canon, figs, isDig] at z
theorem fTerm_slash (p : Nat) : fTerm p slash = none := by
  unfold fTerm
  split
  · split <;> exact numW_slash _ _
  · rfl
/-! ### terms -/
theorem termsM_6 {ws : List Str} {k : Nat} : errOf (termsM 6 (rowsM (k + 1) [] ws).2 (rowsM (k + 1) [] ws).1) = some (k : Int) := by
  rcases rowsM_next ws (k + 1) with ⟨h1, h2⟩ | ⟨w, more, rest, h⟩
  · rw [h1, h2]
    simp only [termsM, errOf]
    rw [if_neg (by decide)]
    congr 1
    omega
  · rw [h]
    simp only [termsM]
    rw [if_pos True.intro]
    show some (((k + 1 : Nat) : Int) - 1) = _
    congr 1
    omega
theorem terms_eq : ∀ (ws : List Str) (i k : Nat) (cur : List IW), i < 6 → cur.length ≤ 3 → Good fTerm cur → (cur ≠ [] → lastI cur + 1 = (k : Int)) → errOf (termsM i (rowsM k cur ws).2 (rowsM k cur ws).1) = termS i cur.length k ws
  | [], i, k, cur, hi, h3, g, hl => by
    simp only [rowsM, termS]
    by_cases hc : cur = []
    · subst hc
      rw [if_pos emp]
      simp only [termsM, errOf]
      rw [if_pos hi, if_neg (by simp)]
    · rw [if_neg (fun z => hc (List.isEmpty_iff.mp z))]
      have c1 : 0 < cur.length := List.length_pos_iff.mpr hc
      simp only [termsM]
      rw [if_neg (by omega)]
      by_cases c3 : cur.length = 3
      · obtain ⟨ns, e⟩ := (rowC_good (need := 3) g).2 (by omega)
        rw [if_pos c3, e]
        rfl
      · rw [if_neg c3, (rowC_good (need := 3) g).1 (by omega)]
        show some (lastI cur + 1) = _
        rw [hl hc]
  | w :: ws, i, k, cur, hi, h3, g, hl => by
    simp only [termS]
    by_cases hs : w = slash
    · subst hs
      by_cases hc : cur = []
      · subst hc
        simp only [rowsM]
        rw [if_pos True.intro, if_pos emp]
        simp only [termsM, errOf]
        rw [if_pos hi, if_neg (by simp), fTerm_slash]
        rfl
      · have c1 : 0 < cur.length := List.length_pos_iff.mpr hc
        have hr : rowsM k cur (slash :: ws) = (cur :: (rowsM (k + 1) [] ws).1, (rowsM (k + 1) [] ws).2) := by
          simp only [rowsM]
          rw [if_pos True.intro, if_neg (fun z => hc (List.isEmpty_iff.mp z))]
        rw [hr]
        simp only [termsM]
        rw [if_neg (by omega)]
        by_cases c3 : cur.length = 3
        · obtain ⟨ns, e⟩ := (rowC_good (need := 3) g).2 (by omega)
          rw [if_pos c3, if_pos True.intro, e]
          show errOf ((termsM (i + 1) _ _).pre [ns]) = _
          rw [errOf_pre]
          by_cases c6 : i + 1 = 6
          · rw [if_pos c6, c6]
            exact termsM_6
          · rw [if_neg c6]
            exact terms_eq ws (i + 1) (k + 1) [] (by omega) (Nat.zero_le _) (fun q u hq => by simp at hq) (fun z => absurd rfl z)
        · rw [if_neg c3, (rowC_good (need := 3) g).1 (by omega), fTerm_slash]
          show some (lastI cur + 1) = some _
          rw [hl hc]
    · have hr : rowsM k cur (w :: ws) = rowsM (k + 1) (cur ++ [(k, w)]) ws := by
        simp only [rowsM]
        rw [if_neg hs]
      rw [hr]
      have bad : (fTerm cur.length w).isSome = false → errOf (termsM i (rowsM (k + 1) (cur ++ [(k, w)]) ws).2 (rowsM (k + 1) (cur ++ [(k, w)]) ws).1) = some (k : Int) := fun z => by
        obtain ⟨more, rest, e⟩ := rowsM_cur ws (k + 1) (cur ++ [(k, w)]) (by simp)
        rw [e]
        simp only [termsM]
        rw [if_neg (by omega), List.append_assoc]
        show errOf ((rowC fTerm 3 (cur ++ (k, w) :: more)).andThen _) = _
        rw [rowC_bad g z]
        rfl
      by_cases c3 : cur.length = 3
      · rw [if_pos c3, if_neg hs]
        exact bad (by rw [c3]; rfl)
      · rw [if_neg c3]
        by_cases hn : (fTerm cur.length w).isSome = true
        · rw [if_pos hn]
          have := terms_eq ws i (k + 1) (cur ++ [(k, w)]) hi (by rw [List.length_append]; simp only [List.length_cons, List.length_nil]; omega) (g.snoc hn) (fun _ => by rw [lastI_snoc]; omega)
          rw [List.length_append] at this
          exact this
        · rw [if_neg hn]
          exact bad (by simpa using hn)
/-! ### tables -/
theorem tableM_0 {ws : List Str} {k : Nat} {last : Int} : errOf (tableM 0 last (rowsM (k + 1) [] ws).2 (rowsM (k + 1) [] ws).1) = some (k : Int) := by
  rcases rowsM_next ws (k + 1) with ⟨h1, h2⟩ | ⟨w, more, rest, h⟩
  · rw [h1, h2]
    simp only [tableM, errOf]
    rw [if_neg (by decide)]
    congr 1
    omega
  · rw [h]
    simp only [tableM]
    rw [if_pos True.intro]
    show some (((k + 1 : Nat) : Int) - 1) = _
    congr 1
    omega
def GoodT (cur : List IW) : Prop := ∀ w ∈ cur, (numT w.2).isSome = true
theorem GoodT.tab {cur : List IW} (g : GoodT cur) {due : Nat} (h : cur.length ≤ min due 39) : Good (fTab due) cur := fun q w hq => by
  have lt := (List.getElem?_eq_some_iff.mp hq).1
  unfold fTab
  rw [if_pos (by omega)]
  exact g w (List.mem_of_getElem? hq)
theorem GoodT.snoc {cur : List IW} {k : Nat} {w : Str} (g : GoodT cur) (h : (numT w).isSome = true) : GoodT (cur ++ [(k, w)]) := fun u hu => by
  rcases List.mem_append.mp hu with z | z
  · exact g u z
  · rw [List.mem_singleton] at z
    rw [z]
    exact h
theorem table_eq : ∀ (ws : List Str) (due k : Nat) (last : Int) (cur : List IW), 1 ≤ due → due ≤ 39 → cur.length ≤ due → GoodT cur → (cur ≠ [] → lastI cur + 1 = (k : Int)) → errOf (tableM due last (rowsM k cur ws).2 (rowsM k cur ws).1) = tabS false due cur.length k ws
  | [], due, k, last, cur, d1, d39, hle, g, hl => by
    simp only [rowsM, tabS]
    by_cases hc : cur = []
    · subst hc
      rw [if_pos emp]
      simp only [tableM, errOf]
      rw [if_pos (by omega), if_neg (fun z => by have := z.1; simp only [List.length_nil] at this; omega)]
    · rw [if_neg (fun z => hc (List.isEmpty_iff.mp z))]
      have c1 : 0 < cur.length := List.length_pos_iff.mpr hc
      have gt := g.tab (due := due) (by omega)
      simp only [tableM]
      rw [if_neg (by omega)]
      by_cases c3 : cur.length = due
      · obtain ⟨ns, e⟩ := (rowC_good (need := due) gt).2 (by omega)
        rw [e]
        show errOf (Out.pre [ns] (if 0 < due - 1 then Out.er (lastI cur + 1) else Out.ok [])) = _
        rw [errOf_pre]
        by_cases e1 : due = 1
        · rw [if_pos (show cur.length = due ∧ due = 1 from ⟨c3, e1⟩), if_neg (show ¬ 0 < due - 1 by omega)]
          rfl
        · rw [if_neg (show ¬ (cur.length = due ∧ due = 1) from fun z => e1 z.2), if_pos (show 0 < due - 1 by omega)]
          show some (lastI cur + 1) = _
          rw [hl hc]
      · rw [if_neg (show ¬ (cur.length = due ∧ due = 1) from fun z => c3 z.1), (rowC_good (need := due) gt).1 (by omega)]
        show some (lastI cur + 1) = _
        rw [hl hc]
  | w :: ws, due, k, last, cur, d1, d39, hle, g, hl => by
    have gt := g.tab (due := due) (by omega)
    by_cases hs : w = slash
    · subst hs
      rw [tabS_slash]
      by_cases hc : cur = []
      · subst hc
        simp only [rowsM]
        rw [if_pos True.intro, if_pos emp, if_pos (.inl rfl)]
        simp only [tableM, errOf]
        rw [if_pos (by omega)]
      · have c1 : 0 < cur.length := List.length_pos_iff.mpr hc
        have hr : rowsM k cur (slash :: ws) = (cur :: (rowsM (k + 1) [] ws).1, (rowsM (k + 1) [] ws).2) := by
          simp only [rowsM]
          rw [if_pos True.intro, if_neg (fun z => hc (List.isEmpty_iff.mp z))]
        rw [hr]
        simp only [tableM]
        rw [if_neg (by omega)]
        by_cases c3 : cur.length < due
        · rw [if_pos (.inr (.inl ⟨True.intro, c3⟩)), (rowC_good (need := due) gt).1 c3]
          show some (lastI cur + 1) = _
          rw [hl hc]
        · obtain ⟨ns, e⟩ := (rowC_good (need := due) gt).2 (by omega)
          rw [e]
          show errOf ((tableM (due - 1) (lastI cur) _ _).pre [ns]) = _
          rw [errOf_pre]
          by_cases e1 : due = 1
          · rw [if_pos (.inr (.inr (.inr e1))), e1]
            exact tableM_0
          · rw [if_neg (fun z => by rcases z with z | ⟨y, z⟩ | ⟨y, z⟩ | z <;> first | omega | (cases y; done)), if_neg (by decide)]
            exact table_eq ws (due - 1) (k + 1) (lastI cur) [] (by omega) (by omega) (Nat.zero_le _) (fun u hu => by simp at hu) (fun z => absurd rfl z)
    · rw [tabS_word _ _ _ _ _ hs]
      have hr : rowsM k cur (w :: ws) = rowsM (k + 1) (cur ++ [(k, w)]) ws := by
        simp only [rowsM]
        rw [if_neg hs]
      rw [hr]
      by_cases hb : cur.length = due ∨ (numT w).isSome = false
      · rw [if_pos hb]
        obtain ⟨more, rest, e⟩ := rowsM_cur ws (k + 1) (cur ++ [(k, w)]) (by simp)
        rw [e]
        simp only [tableM]
        rw [if_neg (by omega), List.append_assoc]
        show errOf ((rowC (fTab due) due (cur ++ (k, w) :: more)).andThen _) = _
        rw [rowC_bad gt]
        · rfl
        · unfold fTab
          split
          · rcases hb with z | z
            · omega
            · exact z
          · rfl
      · rw [if_neg hb]
        have hn : (numT w).isSome = true := by
          cases hx : (numT w).isSome with
          | true => rfl
          | false => exact absurd (.inr hx) hb
        have := table_eq ws due (k + 1) last (cur ++ [(k, w)]) d1 d39 (by rw [List.length_append]; simp only [List.length_cons, List.length_nil]; omega) (g.snoc hn) (fun _ => by rw [lastI_snoc]; omega)
        rw [List.length_append] at this
        exact this
theorem first_eq : ∀ (ws : List Str) (k : Nat) (cur : List IW), cur.length ≤ 39 → GoodT cur → (cur ≠ [] → lastI cur + 1 = (k : Int)) → errOf (tabM (rowsM k cur ws).2 (rowsM k cur ws).1) = tabS true 39 cur.length k ws
  | [], k, cur, h39, g, hl => by
    simp only [rowsM, tabS]
    by_cases hc : cur = []
    · subst hc
      rw [if_pos emp, if_neg (by simp)]
      rfl
    · rw [if_neg (fun z => hc (List.isEmpty_iff.mp z))]
      have c1 : 0 < cur.length := List.length_pos_iff.mpr hc
      have gt := g.tab (due := cur.length) (by omega)
      obtain ⟨ns, e⟩ := (rowC_good (need := cur.length) gt).2 (by omega)
      show errOf (tableM cur.length 0 none [cur]) = _
      simp only [tableM]
      rw [if_neg (by omega), e]
      show errOf (Out.pre [ns] (if 0 < cur.length - 1 then Out.er (lastI cur + 1) else Out.ok [])) = _
      rw [errOf_pre]
      by_cases e1 : cur.length = 1
      · rw [if_pos e1, if_neg (show ¬ 0 < cur.length - 1 by omega)]
        rfl
      · rw [if_neg e1, if_pos (show 0 < cur.length - 1 by omega)]
        show some (lastI cur + 1) = _
        rw [hl hc]
  | w :: ws, k, cur, h39, g, hl => by
    by_cases hs : w = slash
    · subst hs
      rw [tabS_slash]
      by_cases hc : cur = []
      · subst hc
        simp only [rowsM]
        rw [if_pos True.intro, if_pos emp, if_pos (.inl rfl)]
        rfl
      · have c1 : 0 < cur.length := List.length_pos_iff.mpr hc
        have hr : rowsM k cur (slash :: ws) = (cur :: (rowsM (k + 1) [] ws).1, (rowsM (k + 1) [] ws).2) := by
          simp only [rowsM]
          rw [if_pos True.intro, if_neg (fun z => hc (List.isEmpty_iff.mp z))]
        rw [hr]
        show errOf (tableM cur.length 0 (rowsM (k + 1) [] ws).2 (cur :: (rowsM (k + 1) [] ws).1)) = _
        have gt := g.tab (due := cur.length) (by omega)
        obtain ⟨ns, e⟩ := (rowC_good (need := cur.length) gt).2 (by omega)
        simp only [tableM]
        rw [if_neg (by omega), e]
        show errOf ((tableM (cur.length - 1) (lastI cur) _ _).pre [ns]) = _
        rw [errOf_pre]
        by_cases e1 : cur.length = 1
        · rw [if_pos (.inr (.inr (.inl ⟨True.intro, e1⟩))), e1]
          exact tableM_0
        · rw [if_neg (fun z => by rcases z with z | ⟨y, z⟩ | ⟨y, z⟩ | z <;> first | omega | (cases y; done)), if_pos True.intro]
          exact table_eq ws (cur.length - 1) (k + 1) (lastI cur) [] (by omega) (by omega) (Nat.zero_le _) (fun u hu => by simp at hu) (fun z => absurd rfl z)
    · rw [tabS_word _ _ _ _ _ hs]
      have hr : rowsM k cur (w :: ws) = rowsM (k + 1) (cur ++ [(k, w)]) ws := by
        simp only [rowsM]
        rw [if_neg hs]
      rw [hr]
      by_cases hb : cur.length = 39 ∨ (numT w).isSome = false
      · rw [if_pos hb]
        obtain ⟨more, rest, e⟩ := rowsM_cur ws (k + 1) (cur ++ [(k, w)]) (by simp)
        rw [e, List.append_assoc]
        show errOf (tableM (cur ++ (k, w) :: more).length 0 (rowsM (k + 1) (cur ++ [(k, w)]) ws).2 ((cur ++ (k, w) :: more) :: rest)) = _
        have hlen : cur.length < (cur ++ (k, w) :: more).length := by rw [List.length_append, List.length_cons]; omega
        generalize hdue : (cur ++ (k, w) :: more).length = due at hlen
        simp only [tableM]
        rw [if_neg (by omega), rowC_bad (g.tab (due := due) (by omega))]
        · rfl
        · unfold fTab
          split
          · rcases hb with z | z
            · omega
            · exact z
          · rfl
      · rw [if_neg hb]
        have hn : (numT w).isSome = true := by
          cases hx : (numT w).isSome with
          | true => rfl
          | false => exact absurd (.inr hx) hb
        have := first_eq ws (k + 1) (cur ++ [(k, w)]) (by rw [List.length_append]; simp only [List.length_cons, List.length_nil]; omega) (g.snoc hn) (fun _ => by rw [lastI_snoc]; omega)
        rw [List.length_append] at this
        exact this
/-! ### reading -/
def errR : RdO → Option Int
  | .bad k => some k
  | .rule _ => none
theorem errR_toRd (o : Out (List Int)) (f : List (List Int) → R) : errR (o.toRd f) = errOf o := by cases o <;> rfl
theorem read_wrong (ws : List Str) : errR (readW ws) = wrongW ws := by
  cases ws with
  | nil => rfl
  | cons w r =>
    simp only [readW, wrongW]
    by_cases h1 : w = "table"
    · rw [if_pos h1, if_pos h1, errR_toRd]
      exact first_eq r 1 [] (Nat.zero_le _) (fun u hu => by simp at hu) (fun z => absurd rfl z)
    · rw [if_neg h1, if_neg h1]
      by_cases h2 : w = "terms"
      · rw [if_pos h2, if_pos h2]
        by_cases h3 : r = []
        · rw [if_pos h3, if_pos h3]
          rfl
        · rw [if_neg h3, if_neg h3, errR_toRd]
          exact terms_eq r 0 1 [] (by decide) (Nat.zero_le _) (fun q u hq => by simp at hq) (fun z => absurd rfl z)
      · rw [if_neg h2, if_neg h2]
        rfl

open _root_.TL (tl len_tl ext_tl tl_ofString tl_append numL)
/-! ### the law's own numbers in texts -/
theorem k_lcStrT {σ : St} {H : Hp} {Q : VK} {z : Str} {g : TG} {c : TT} {te : TE} {vs : List Nat} (P : Nat → List V → Hp → Prop) (h0 : ∀ H', Same H H' → P 0 [] H')
    (hs : ∀ i d D acc H', z.cps[i]? = some d → H D = none → Same H H' → H' D = some (.lst acc) → P i acc H' → g (.str ⟨#[d]⟩) (wipe σ vs) H' fun σ2 H2 => wipe σ2 vs = wipe σ vs ∧ c σ2 H2 fun b H3 => if b = true then te σ2 H3 (lcTurn H D (P (i + 1))) else lcAt H D (P (i + 1)) H3)
    (hd : ∀ D acc H', H D = none → Same H H' → H' D = some (.lst acc) → P z.cps.size acc H' → Q (.ref D) H') : lcK (Its z) g c te vs σ H Q := fun D hD =>
  lc_it walk_str (fun i H' => lcAt H D (P i) H') ⟨[], hD, Same.new hD, upd_same, h0 _ (Same.new hD)⟩ (fun _ _ _ _ => True.intro)
    (fun i x H' H2 hi ⟨acc, _, e, ha, p⟩ ⟨e2, d, hc, ex⟩ => by
      subst e2 ex
      have := hs i d D acc H2 hc hD e ha p
      refine this) fun H' ⟨acc, _, e, ha, p⟩ => hd D acc H' hD e ha p
theorem w_neSs {K : PySem.W.Frag} {H : Hp} {Q : VK} {p q : Addr} {xs ys : List Str} (hp : H p = some (.lst (xs.map V.str))) (hq : H q = some (.lst (ys.map V.str))) (h1 : xs.length ≤ 100000) (h2 : ys.length ≤ 100000) (o1 : ∀ w ∈ xs, cpsOk w) (o2 : ∀ w ∈ ys, cpsOk w) (k : Q (.bl (!decide (xs = ys))) H) : rNeU K (.ref p) (.ref q) H Q := by
  letI dec : Decidable (PyData.list (xs.map PyData.str) = .list (ys.map PyData.str)) := decidable_of_iff (xs = ys) ⟨fun e => by rw [e], fun e => by injection e with e; exact map_str_inj e⟩
  refine w_neD (dec := dec) (.lst hp (dvs_strs xs)) (.lst hq (dvs_strs ys)) ?_ ?_ ?_ ?_ ?_
  · unfold flatN; rw [flat_strs, List.length_map, decide_eq_true h1]; rfl
  · unfold flatN; rw [flat_strs, List.length_map, decide_eq_true h2]; rfl
  · unfold pureD; exact pure_strs xs o1
  · unfold pureD; exact pure_strs ys o2
  · by_cases e : xs = ys
    · rw [decide_eq_true e] at k
      rw [decide_eq_true (by rw [e])]
      exact k
    · rw [decide_eq_false e] at k
      rw [decide_eq_false (fun z => e (by injection z with z; exact map_str_inj z))]
      exact k
theorem notdig_mem (c : Nat) : (!decide (c ∈ (Str.ofString "0123456789").cps.toList)) = !isDig c := by rw [dig_mem]
theorem int_of9 {w : Str} (h1 : 1 ≤ (figs (tl w)).length) (h9 : (figs (tl w)).length ≤ 9) (hd : (figs (tl w)).all isDig = true) : PySem.intText? w = some (valL (tl w)) ∧ w.length ≤ 640 := by
  have ad := alld hd
  unfold figs at h1 h9 ad
  unfold valL figs
  by_cases e : (tl w).take 1 = [45]
  · rw [if_pos e] at h1 h9 ad
    rw [if_pos e, if_pos e]
    cases hw : tl w with
    | nil => rw [hw] at e; cases e
    | cons a l =>
      rw [hw] at e h1 h9 ad
      have ea : a = 45 := by simpa using e
      subst ea
      have hl : w.length = l.length + 1 := by rw [len_tl, hw, List.length_cons]
      have h9' : l.length ≤ 9 := h9
      exact ⟨PySem.intText_neg hw ad (fun z => by rw [z] at h1; exact absurd h1 (by decide)) (by omega), by omega⟩
  · rw [if_neg e] at h1 h9 ad
    rw [if_neg e, if_neg e]
    have hl : w.length = (tl w).length := len_tl w
    exact ⟨PySem.intText_digits ad (fun z => by rw [show w.cps.toList = tl w from rfl] at z; rw [z] at h1; exact absurd h1 (by decide)) (by omega), by omega⟩
theorem chr_back : ∀ {l : List Nat}, NumText.AllDigits l → (l.map Char.ofNat).map Char.toNat = l
  | [], _ => rfl
  | c :: r, h => by
    have hc := h.head
    rw [List.map_cons, List.map_cons, chr_back h.tail]
    have : (Char.ofNat c).toNat = c := by
      have : ∀ c : Nat, c < 58 → (Char.ofNat c).toNat = c := by decide
      exact this c (by omega)
    rw [this]
theorem numL_back {l : List Nat} (ad : NumText.AllDigits l) (h1 : l ≠ []) (h : l.head? ≠ some 48 ∨ l = [48]) : numL (NumText.digitsVal l) = l := by
  unfold numL
  obtain ⟨c, r, rfl⟩ : ∃ c r, l = c :: r := by
    cases l with
    | nil => exact absurd rfl h1
    | cons c r => exact ⟨c, r, rfl⟩
  have hc := ad.head
  rw [NumText.toDigits_digitsVal r.length (c :: r) rfl ad ?_, chr_back ad]
  rcases h with h | h
  · have hc48 : c ≠ 48 := fun z => h (by rw [z]; rfl)
    exact .inr ⟨c, r, rfl, by omega⟩
  · injection h with _ h
    rw [h]
    exact .inl rfl
/-- a word, its number written again -/
theorem back_iff {w : Str} (h1 : 1 ≤ (figs (tl w)).length) (hd : (figs (tl w)).all isDig = true) {lo hi : Int} (hlo : -1000000 ≤ lo) (hhi : hi ≤ 1000000) : (decide (nStr (valL (tl w)) = w) && (decide (lo ≤ valL (tl w)) && decide (valL (tl w) ≤ hi))) = (numW w lo hi).isSome := by
  have ad := alld hd
  have hne : figs (tl w) ≠ [] := List.length_pos_iff.mp h1
  rw [Bool.eq_iff_iff]
  simp only [Bool.and_eq_true, decide_eq_true_eq]
  constructor
  · rintro ⟨e, b1, b2⟩
    have := numW_nStr (n := valL (tl w)) (lo := lo) (hi := hi) (by omega) b1 b2
    rw [e] at this
    rw [this]
    rfl
  · intro h
    unfold numW at h
    split at h
    · rename_i c
      obtain ⟨cn, b1, b2⟩ := c
      refine ⟨?_, b1, b2⟩
      unfold canon at cn
      simp only [Bool.and_eq_true, Bool.not_eq_true', decide_eq_true_eq] at cn
      have hz : (figs (tl w)).head? ≠ some 48 ∨ tl w = [48] := by
        by_cases q : tl w = [48]
        · exact .inr q
        · refine .inl fun z => ?_
          have := cn.2
          rw [decide_eq_true z, decide_eq_false q] at this
          cases this
      refine ext_tl ?_
      rw [tl_nStr]
      by_cases e : (tl w).take 1 = [45]
      · have hf : figs (tl w) = (tl w).drop 1 := by unfold figs; rw [if_pos e]
        have hv : valL (tl w) = -((NumText.digitsVal (figs (tl w)) : Nat) : Int) := by unfold valL; rw [if_pos e]
        have hw : tl w = 45 :: figs (tl w) := by
          rw [hf]
          cases hx : tl w with
          | nil => rw [hx] at e; cases e
          | cons a l =>
            rw [hx] at e
            have : a = 45 := by simpa using e
            rw [this]
            rfl
        have hz' : (figs (tl w)).head? ≠ some 48 := hz.resolve_right (fun z => by rw [z] at e; cases e)
        have hp : 0 < NumText.digitsVal (figs (tl w)) := by
          cases hx : figs (tl w) with
          | nil => exact absurd hx hne
          | cons c r =>
            rw [hx] at ad hz'
            have hc := ad.head
            have : c ≠ 48 := fun z => hz' (by rw [z]; rfl)
            exact NumText.digitsVal_pos (by omega)
        rw [hv, if_pos (by omega)]
        have na : (-((NumText.digitsVal (figs (tl w)) : Nat) : Int)).natAbs = NumText.digitsVal (figs (tl w)) := by omega
        rw [na, numL_back ad hne (.inl hz'), ← hw]
      · have hf : figs (tl w) = tl w := by unfold figs; rw [if_neg e]
        have hv : valL (tl w) = ((NumText.digitsVal (figs (tl w)) : Nat) : Int) := by unfold valL; rw [if_neg e]
        rw [hv, if_neg (by omega)]
        have na : (((NumText.digitsVal (figs (tl w)) : Nat) : Int)).natAbs = NumText.digitsVal (figs (tl w)) := by omega
        rw [na, numL_back ad hne (by rw [hf] at hz ⊢; exact hz), hf]
    · cases h
theorem fold_lt : ∀ (l : List Nat) (a : Nat), NumText.AllDigits l → l.foldl (fun acc c => acc * 10 + (c - 48)) a < (a + 1) * 10 ^ l.length
  | [], a, _ => by show a < (a + 1) * 1; omega
  | c :: r, a, h => by
    have hc := h.head
    have := fold_lt r (a * 10 + (c - 48)) h.tail
    rw [List.foldl_cons, List.length_cons, Nat.pow_succ]
    refine Nat.lt_of_lt_of_le this ?_
    have : a * 10 + (c - 48) + 1 ≤ (a + 1) * 10 := by omega
    calc (a * 10 + (c - 48) + 1) * 10 ^ r.length ≤ ((a + 1) * 10) * 10 ^ r.length := Nat.mul_le_mul_right _ this
      _ = (a + 1) * (10 ^ r.length * 10) := by rw [Nat.mul_assoc, Nat.mul_comm 10]
theorem digitsVal_lt (l : List Nat) (h : NumText.AllDigits l) : NumText.digitsVal l < 10 ^ l.length := by
  have := fold_lt l 0 h
  rw [Nat.zero_add, Nat.one_mul] at this
  exact this
def sp__law_number (Γ : Gm) : Sp := fun vs H Q _ => ∃ w lo hi, vs = [.str w, .int lo, .int hi] ∧ w.length ≤ 90000 ∧ cpsOk w ∧ -1000000 ≤ lo ∧ hi ≤ 1000000 ∧ ∀ H', Same H H' → Q (.bl (numW w lo hi).isSome) H'
/-- law_number: _law_word, _law_low, _law_high, _law_figures, _law_sign -/
def t__law_number (Γ : Gm) : TS := (tSeq (tAsg (tIf (tTest (tOp (rEqU Γ.K) (tSl (rSlU Γ.K) (tVar 0) tNoPart (tPart (tC (.int 1)))) (tC (.str "-")))) (tSl (rSlU Γ.K) (tVar 0) (tPart (tC (.int 1))) tNoPart) (tVar 0)) (gName 3))
  (tSeq (tIfS (tOr (tTest (tOp (rEqU Γ.K) (tVar 3) (tC (.str "")))) (tOr (tTest (tOp rGt (tCB (rLen Γ.K) (tCons (tVar 3) tNil)) (tC (.int 9)))) (tTest (tOp (rNeU Γ.K) (tLc (iStr (tVar 3)) (gName 4) (tTest (tOp rNotInSign (tVar 4) (tC (.str "0123456789")))) (tVar 4) [4]) (tLst tNil))))) (tRet (tC (.bl false))) tNext)
  (tRet (tAndV (tOp (rEqU Γ.K) (tCB rStr1 (tCons (tCB rIntS (tCons (tVar 0) tNil)) tNil)) (tVar 0)) (tChain rLe rLe (tVar 1) (tCB rIntS (tCons (tVar 0) tNil)) (tVar 2))))))
theorem rd__law_number (Γ : Gm) (vs : List V) (H : Hp) (Q : VK) (E : XK) (h : sp__law_number Γ vs H Q E) : t__law_number Γ ⟨fun _ H' => Q .non H', Q, fun _ _ => False, fun _ _ => False⟩ (startN 5 vs) H := by
  obtain ⟨w, lo, hi, rfl, hz, cw, hlo, hhi, k⟩ := h
  unfold t__law_number
  walk_at "ss"
  refine w_slS (by omega) ?_
  walk_at "ss"
  have hs : decide (cutS w none (some 1) = Str.ofString "-") = decide ((tl w).take 1 = [45]) := by
    rw [decide_eq_decide, str_iff, tl_cut1, tl_minus]
  rw [hs]
  have fin : ∀ f : Str, tl f = figs (tl w) → tSeq (tIfS (tOr (tTest (tOp (rEqU Γ.K) (tVar 3) (tC (.str "")))) (tOr (tTest (tOp rGt (tCB (rLen Γ.K) (tCons (tVar 3) tNil)) (tC (.int 9)))) (tTest (tOp (rNeU Γ.K) (tLc (iStr (tVar 3)) (gName 4) (tTest (tOp rNotInSign (tVar 4) (tC (.str "0123456789")))) (tVar 4) [4]) (tLst tNil))))) (tRet (tC (.bl false))) tNext)
      (tRet (tAndV (tOp (rEqU Γ.K) (tCB rStr1 (tCons (tCB rIntS (tCons (tVar 0) tNil)) tNil)) (tVar 0)) (tChain rLe rLe (tVar 1) (tCB rIntS (tCons (tVar 0) tNil)) (tVar 2)))) ⟨fun _ H' => Q .non H', Q, fun _ _ => False, fun _ _ => False⟩ [some (.str w), some (.int lo), some (.int hi), some (.str f), none] H := by
    intro f hf
    have fl : f.length = (figs (tl w)).length := by rw [len_tl, hf]
    have fmem : ∀ c ∈ tl f, c ∈ tl w := fun c hc => by
      rw [hf] at hc
      unfold figs at hc
      split at hc
      · exact List.mem_of_mem_drop hc
      · exact hc
    have fle : (figs (tl w)).length ≤ w.length := by
      unfold figs
      split
      · rw [List.length_drop, ← len_tl]; omega
      · rw [← len_tl]; exact Nat.le_refl _
    have no : canon (tl w) = false → ∀ H', Same H H' → Q (.bl false) H' := fun z H' e => by
      have := k H' e
      unfold numW at this
      rw [if_neg (by rw [z]; simp)] at this
      exact this
    walk_at "ss"
    rw [show decide (f = Str.ofString "") = decide (figs (tl w) = []) by rw [decide_eq_decide, str_iff, hf, tl_ofString]; rfl]
    by_cases c0 : figs (tl w) = []
    · rw [decide_eq_true c0]
      walk_at "ss"
      exact no (by unfold canon; rw [c0]; rfl) H (Same.refl H)
    rw [decide_eq_false c0]
    have c1 : 1 ≤ (figs (tl w)).length := List.length_pos_iff.mpr c0
    walk_at "ss"
    refine w_lenS (by omega) ?_
    walk_at "ss"
    by_cases c9 : (figs (tl w)).length ≤ 9
    · rw [decide_eq_false (show ¬ (9 : Int) < (f.length : Nat) by omega)]
      walk_at "ss"
      refine w_iStr ?_
      walk_at "ss"
      refine ⟨f, rfl, ?_⟩
      refine k_lcStrT (fun i acc _ => acc = ((((tl f).take i).filter fun c => !isDig c).map fun c => (⟨#[c]⟩ : Str)).map V.str) (fun _ _ => rfl) ?_ ?_
      · rintro i c D acc H1 hc hD e1 hacc rfl
        walk_at "ss"
        refine ⟨rfl, ?_⟩
        walk_at "ss"
        have hc' : (tl f)[i]? = some c := by rw [← hc]; exact Array.getElem?_toList
        refine ⟨c, _, rfl, rfl, ?_⟩
        rw [notdig_mem]
        refine ⟨_, rfl, ?_⟩
        have ft : ((tl f).take (i + 1)).filter (fun c => !isDig c) = ((tl f).take i).filter (fun c => !isDig c) ++ [c].filter (fun c => !isDig c) := by rw [take_succ hc', List.filter_append]
        cases hq : isDig c with
        | true =>
          refine w_iteF ?_
          refine ⟨_, hD, e1, hacc, ?_⟩
          rw [ft, List.filter_cons_of_neg (by rw [hq]; simp)]
          simp
        | false =>
          refine w_iteT ?_
          walk_at "ss"
          have ln : (((tl f).take i).filter fun c => !isDig c).length ≤ (tl f).length := Nat.le_trans (List.length_filter_le _ _) (by rw [List.length_take]; omega)
          refine lcTurn.mk hD e1 hacc (by rw [List.length_map, List.length_map]; rw [← len_tl] at ln; omega) ?_
          rw [ft, List.filter_cons_of_pos (by rw [hq]; rfl), List.map_append, List.map_append]
          rfl
      · rintro D acc H1 hD e1 hacc rfl
        have sz : f.cps.size = (tl f).length := by simp [tl]
        rw [sz, List.take_length, hf] at hacc
        walk_at "ss"
        refine n_lst fun q H2 f2 e2 g2 => ?_
        have ln : ((figs (tl w)).filter fun c => !isDig c).length ≤ 9 := Nat.le_trans (List.length_filter_le _ _) c9
        refine w_neSs (ys := []) (e2 _ _ hacc) g2 (by rw [List.length_map]; omega) (Nat.zero_le _) ?_ (fun _ z => by simp at z) ?_
        · intro u hu c hc
          obtain ⟨d, hd, rfl⟩ := List.mem_map.mp hu
          have : c = d := List.mem_singleton.mp hc
          rw [this]
          exact cw d (fmem d (by rw [hf]; exact (List.mem_filter.mp hd).1))
        have he : decide (((figs (tl w)).filter fun c => !isDig c).map (fun c => (⟨#[c]⟩ : Str)) = []) = (figs (tl w)).all isDig := by
          rw [Bool.eq_iff_iff, decide_eq_true_eq, List.map_eq_nil_iff, List.filter_eq_nil_iff, List.all_eq_true]
          simp
        rw [he]
        have e12 := e1.trans e2
        by_cases cd : (figs (tl w)).all isDig = true
        · rw [cd]
          walk_at "ss"
          obtain ⟨iw, lw⟩ := int_of9 c1 c9 cd
          refine w_intS iw lw ?_
          walk_at "ss"
          have key := back_iff c1 cd hlo hhi
          have vs : (valL (tl w)).natAbs.log2 < 1920 := by
            have hv : (valL (tl w)).natAbs = NumText.digitsVal (figs (tl w)) := by unfold valL; split <;> omega
            rw [hv]
            have lt := Nat.lt_of_lt_of_le (digitsVal_lt _ (alld cd)) (Nat.pow_le_pow_right (show 0 < 10 by decide) c9)
            by_cases z : NumText.digitsVal (figs (tl w)) = 0
            · rw [z]; decide
            · rw [Nat.log2_lt z]
              exact Nat.lt_of_lt_of_le lt (Nat.le_trans (show 10 ^ 9 ≤ 2 ^ 30 by decide) (Nat.pow_le_pow_right (by decide) (by decide)))
          refine w_strS vs ?_
          walk_at "ss"
          have kk := k H2 e12
          rw [← key] at kk
          by_cases e0 : nStr (valL (tl w)) = w
          · rw [show decide (Str.ofString (toString (valL (tl w))) = w) = true from decide_eq_true e0]
            rw [decide_eq_true e0] at kk
            walk_at "ss"
            refine w_intS iw lw ?_
            walk_at "ss"
            by_cases b1 : lo ≤ valL (tl w)
            · rw [decide_eq_true b1] at kk ⊢
              walk_at "ss"
              by_cases b2 : valL (tl w) ≤ hi
              · rw [decide_eq_true b2] at kk ⊢
                exact kk
              · rw [decide_eq_false b2] at kk ⊢
                exact kk
            · rw [decide_eq_false b1] at kk ⊢
              exact kk
          · rw [show decide (Str.ofString (toString (valL (tl w))) = w) = false from decide_eq_false e0]
            rw [decide_eq_false e0] at kk
            exact kk
        · have cd' : (figs (tl w)).all isDig = false := by simpa using cd
          rw [cd']
          walk_at "ss"
          exact no (by unfold canon; rw [cd']; simp) H2 e12
    · rw [decide_eq_true (show (9 : Int) < (f.length : Nat) by omega)]
      walk_at "ss"
      exact no (by unfold canon; rw [decide_eq_false (show ¬ (figs (tl w)).length ≤ 7 by omega)]; simp) H (Same.refl H)
  by_cases e : (tl w).take 1 = [45]
  · rw [decide_eq_true e]
    walk_at "ss"
    refine w_slS (by omega) ?_
    walk_at "s"
    refine fin _ ?_
    rw [tl_cutT]
    unfold figs
    rw [if_pos e]
  · rw [decide_eq_false e]
    refine w_iteF ?_
    refine w_var (by with_unfolding_all rfl) ?_
    refine w_gName ?_
    refine fin w ?_
    unfold figs
    rw [if_neg e]
/-! ### the law's own look at terms -/
theorem numW_iff0 {w : Str} {p : Nat} (hp : p < 3) : fTerm p w = if p = 0 then numW w (-1000000) 1000000 else numW w 0 4 := by
  unfold fTerm
  rw [if_pos hp]
def WordsAt (H : Hp) (a : Addr) (w : Str) (r : List Str) : Prop := H a = some (.lst ((w :: r).map V.str)) ∧ r.length ≤ 80000 ∧ ∀ u ∈ r, u.length ≤ 90000 ∧ cpsOk u
def sp__law_term_wrong (Γ : Gm) : Sp := fun vs H Q _ => ∃ a w r, vs = [.ref a] ∧ WordsAt H a w r ∧ ∀ H', Same H H' → Q (optV (if r = [] then none else termS 0 0 1 r)) H'
/-- law_term_wrong: _law_words_so, _law_k, _law_place, _law_bounds -/
def t__law_term_wrong (Γ : Gm) : TS := (tSeq (tIfS (tTest (tOp (rEqU Γ.K) (tCB (rLen Γ.K) (tCons (tVar 0) tNil)) (tC (.int 1)))) (tRet (tC .non)) tNext)
  (tSeq (tFor (iRng2 (tCons (tC (.int 1)) (tCons (tCB (rLen Γ.K) (tCons (tVar 0) tNil)) tNil))) (gName 1) (tSeq (tAsg (tOp rModI (tVar 1) (tC (.int 4))) (gName 2))
  (tSeq (tAsg (tOp (rIx Γ.K) (tLst (tCons (tTup (tCons (tC (.int 0)) (tCons (tC (.int 0)) tNil))) (tCons (tTup (tCons (tUn (rU fun i => .int (-i)) (tOp rPowI (tC (.int 10)) (tC (.int 6)))) (tCons (tOp rPowI (tC (.int 10)) (tC (.int 6))) tNil))) (tCons (tTup (tCons (tC (.int 0)) (tCons (tC (.int 4)) tNil))) (tCons (tTup (tCons (tC (.int 0)) (tCons (tC (.int 4)) tNil))) tNil))))) (tVar 2)) (gName 3))
  (tSeq (tIfS (tAnd (tTest (tOp (rEqU Γ.K) (tVar 2) (tC (.int 0)))) (tOr (tTest (tOp (rNeU Γ.K) (tOp (rIx Γ.K) (tVar 0) (tVar 1)) (tC (.str "/")))) (tTest (tOp rGe (tVar 1) (tC (.int 24)))))) (tRet (tVar 1)) tNext)
  (tIfS (tAnd (tTest (tOp rGt (tVar 2) (tC (.int 0)))) (tNot (tB (tCal (sp__law_number Γ) E0 (tCons (tOp (rIx Γ.K) (tVar 0) (tVar 1)) (tCons (tOp (rIx Γ.K) (tVar 3) (tC (.int 0))) (tCons (tOp (rIx Γ.K) (tVar 3) (tC (.int 1))) tNil))))))) (tRet (tVar 1)) tNext)))))
  (tRet (tIf (tTest (tOp (rEqU Γ.K) (tOp rModI (tCB (rLen Γ.K) (tCons (tVar 0) tNil)) (tC (.int 4))) (tC (.int 0)))) (tC .non) (tCB (rLen Γ.K) (tCons (tVar 0) tNil))))))
theorem rd__law_term_wrong (Γ : Gm) (vs : List V) (H : Hp) (Q : VK) (E : XK) (h : sp__law_term_wrong Γ vs H Q E) : t__law_term_wrong Γ ⟨fun _ H' => Q .non H', Q, fun _ _ => False, fun _ _ => False⟩ (startN 4 vs) H := by
  obtain ⟨a, w, r, rfl, ⟨ha, hz, hw⟩, k⟩ := h
  unfold t__law_term_wrong
  walk_at "ss"
  refine w_lenL (SqL.of ha) ?_
  walk_at "ss"
  rw [List.length_map, List.length_cons]
  by_cases e : r = []
  · rw [decide_eq_true (show ((r.length + 1 : Nat) : Int) = 1 by rw [e]; rfl)]
    walk_at "ss"
    have := k H (Same.refl H)
    rw [if_pos e] at this
    exact this
  have rl : 1 ≤ r.length := List.length_pos_iff.mpr e
  rw [decide_eq_false (show ¬ ((r.length + 1 : Nat) : Int) = 1 by omega)]
  rw [if_neg e] at k
  walk_at "ss"
  refine w_lenL (SqL.of ha) ?_
  walk_at "ss"
  rw [List.length_map, List.length_cons]
  refine k_rng2 (by omega) ?_
  rw [show (((r.length + 1 : Nat) : Int) - 1).toNat = r.length by omega]
  have six : (10 : Int) ^ Int.toNat 6 = 1000000 := by decide
  refine k_range (fun j σ H' => ∃ x1 x2 x3, σ = [some (.ref a), x1, x2, x3] ∧ Same H H' ∧ j / 4 < 6 ∧ termS 0 0 1 r = termS (j / 4) (j % 4) (1 + j) (r.drop j)) ⟨_, _, _, rfl, Same.refl H, by decide, rfl⟩ ?_ ?_
  · rintro j σ H1 hj ⟨x1, x2, x3, rfl, e1, hi6, m⟩
    have hu : r[j]? = some r[j] := List.getElem?_eq_getElem hj
    have su := hw r[j] (List.getElem_mem hj)
    rw [drop_row hu] at m
    generalize r[j] = u at hu su m
    have hix : atI ((w :: r).map V.str) (1 + (j : Int)) = some (.str u) := atI_of (by omega) (by rw [show (1 + (j : Int)).toNat = j + 1 by omega, List.getElem?_map, List.getElem?_cons_succ, hu]; rfl)
    walk_at "ss"
    refine n_tup fun t1 H2 f2 e2 g2 => ?_
    walk_at "ss"
    refine w_powI ⟨by decide, by decide, by decide⟩ ?_
    walk_at "ss"
    refine w_powI ⟨by decide, by decide, by decide⟩ ?_
    rw [six]
    walk_at "ss"
    refine n_tup fun t2 H3 f3 e3 g3 => ?_
    walk_at "ss"
    refine n_tup fun t3 H4 f4 e4 g4 => ?_
    walk_at "ss"
    refine n_tup fun t4 H5 f5 e5 g5 => ?_
    walk_at "ss"
    refine n_lst fun l H6 f6 e6 g6 => ?_
    walk_at "ss"
    have E6 := e1.trans (e2.trans (e3.trans (e4.trans (e5.trans e6))))
    have h2 := (e3.trans (e4.trans (e5.trans e6))) _ _ g2
    have h3 := (e4.trans (e5.trans e6)) _ _ g3
    have h4 := (e5.trans e6) _ _ g4
    have h5 := e6 _ _ g5
    have haw : H6 a = some (.lst ((w :: r).map V.str)) := E6 _ _ ha
    by_cases p3 : j % 4 = 3
    · have pl : (1 + (j : Int)) % 4 = 0 := by omega
      rw [pl]
      refine w_ixL (SqL.of g6) (atI0 _ _) ?_
      walk_at "ss"
      rw [decide_eq_true rfl]
      walk_at "ss"
      refine w_ixL (SqL.of haw) hix ?_
      walk_at "ss"
      simp only [termS] at m
      rw [if_pos p3] at m
      by_cases us : u = slash
      · rw [show decide (u = Str.ofString "/") = true from decide_eq_true us]
        rw [if_pos us] at m
        walk_at "ss"
        by_cases c6 : j / 4 + 1 = 6
        · rw [if_pos c6] at m
          rw [decide_eq_true (show (24 : Int) ≤ 1 + (j : Int) by omega)]
          walk_at "ss"
          have := k H6 E6
          rw [m] at this
          rw [show (1 + (j : Int)) = ((1 + j : Nat) : Int) by omega]
          exact this
        · rw [if_neg c6] at m
          rw [decide_eq_false (show ¬ (24 : Int) ≤ 1 + (j : Int) by omega)]
          walk_at "ss"
          rw [decide_eq_false (show ¬ (0 : Int) < 0 by decide)]
          walk_at "ss"
          refine ⟨_, _, _, rfl, E6, by omega, ?_⟩
          rw [m, show (j + 1) / 4 = j / 4 + 1 by omega, show (j + 1) % 4 = 0 by omega, show 1 + (j + 1) = 1 + j + 1 by omega]
      · rw [show decide (u = Str.ofString "/") = false from decide_eq_false us]
        rw [if_neg us] at m
        walk_at "ss"
        have := k H6 E6
        rw [m] at this
        rw [show (1 + (j : Int)) = ((1 + j : Nat) : Int) by omega]
        exact this
    · obtain ⟨t, lo, hi, ht, hat, hf, hlo, hhi⟩ : ∃ t lo hi, H6 t = some (.tup [.int lo, .int hi]) ∧ atI [V.ref t1, V.ref t2, V.ref t3, V.ref t4] ((1 + (j : Int)) % 4) = some (.ref t) ∧ fTerm (j % 4) u = numW u lo hi ∧ -1000000 ≤ lo ∧ hi ≤ 1000000 := by
        rcases (show j % 4 = 0 ∨ j % 4 = 1 ∨ j % 4 = 2 by omega) with z | z | z
        · refine ⟨t2, _, _, h3, ?_, ?_, by decide, by decide⟩
          · rw [show (1 + (j : Int)) % 4 = 1 by omega]; exact atI_of (by decide) rfl
          · rw [z]; rfl
        · refine ⟨t3, _, _, h4, ?_, ?_, by decide, by decide⟩
          · rw [show (1 + (j : Int)) % 4 = 2 by omega]; exact atI_of (by decide) rfl
          · rw [z]; rfl
        · refine ⟨t4, _, _, h5, ?_, ?_, by decide, by decide⟩
          · rw [show (1 + (j : Int)) % 4 = 3 by omega]; exact atI_of (by decide) rfl
          · rw [z]; rfl
      refine w_ixL (SqL.of g6) hat ?_
      walk_at "ss"
      rw [decide_eq_false (show ¬ (1 + (j : Int)) % 4 = 0 by omega)]
      walk_at "ss"
      rw [decide_eq_true (show (0 : Int) < (1 + (j : Int)) % 4 by omega)]
      walk_at "ss"
      refine w_ixL (SqL.of haw) hix ?_
      walk_at "ss"
      refine w_ixT (SqT.of ht) (atI0 _ _) ?_
      walk_at "ss"
      refine w_ixT (SqT.of ht) (atI_of (by decide) rfl) ?_
      walk_at "ss"
      refine ⟨u, lo, hi, rfl, su.1, su.2, hlo, hhi, fun H7 e7 => ?_⟩
      simp only [termS] at m
      rw [if_neg p3, hf] at m
      cases hn : (numW u lo hi).isSome with
      | true =>
        walk_at "ss"
        refine ⟨_, _, _, rfl, E6.trans e7, by omega, ?_⟩
        rw [hn, if_pos rfl] at m
        rw [m, show (j + 1) / 4 = j / 4 by omega, show (j + 1) % 4 = j % 4 + 1 by omega, show 1 + (j + 1) = 1 + j + 1 by omega]
      | false =>
        walk_at "ss"
        rw [hn, if_neg (by decide)] at m
        have := k H7 (E6.trans e7)
        rw [m] at this
        rw [show (1 + (j : Int)) = ((1 + j : Nat) : Int) by omega]
        exact this
  · rintro σ H1 ⟨x1, x2, x3, rfl, e1, hi6, m⟩
    rw [List.drop_length] at m
    walk_at "ss"
    refine w_lenL (SqL.of (e1 _ _ ha)) ?_
    walk_at "ss"
    rw [List.length_map, List.length_cons]
    simp only [termS] at m
    by_cases c : r.length % 4 = 3
    · rw [if_pos c] at m
      rw [decide_eq_true (show ((r.length + 1 : Nat) : Int) % 4 = 0 by omega)]
      walk_at "ss"
      have := k H1 e1
      rw [m] at this
      exact this
    · rw [if_neg c] at m
      rw [decide_eq_false (show ¬ ((r.length + 1 : Nat) : Int) % 4 = 0 by omega)]
      walk_at "ss"
      refine w_lenL (SqL.of (e1 _ _ ha)) ?_
      have := k H1 e1
      rw [m] at this
      rw [List.length_map, List.length_cons, show ((r.length + 1 : Nat) : Int) = ((1 + r.length : Nat) : Int) by omega]
      exact this

open _root_.TL (tl len_tl ext_tl tl_ofString tl_append)
/-! ### the law's own look at tables -/
theorem tabS_end (first : Bool) (due p k : Nat) : tabS first due p k [] = if (if first = true then decide (p = 1) else decide (p = due) && decide (due = 1)) = true then none else some (k : Int) := by
  cases first with
  | true =>
    simp only [tabS]
    by_cases h : p = 1
    · rw [if_pos h, decide_eq_true h]; rfl
    · rw [if_neg h, decide_eq_false h]; rfl
  | false =>
    simp only [tabS]
    by_cases h : p = due
    · by_cases h1 : due = 1
      · rw [if_pos ⟨h, h1⟩, decide_eq_true h, decide_eq_true h1]; rfl
      · rw [if_neg (fun z => h1 z.2), decide_eq_true h, decide_eq_false h1]; rfl
    · rw [if_neg (fun z => h z.1), decide_eq_false h]; rfl
def sp__law_table_wrong (Γ : Gm) : Sp := fun vs H Q _ => ∃ a w r, vs = [.ref a] ∧ WordsAt H a w r ∧ ∀ H', Same H H' → Q (optV (tabS true 39 0 1 r)) H'
/-- law_table_wrong: _law_words_so, _law_due, _law_here, _law_is_first, _law_k, _law_is_whole -/
def t__law_table_wrong (Γ : Gm) : TS := (tSeq (tAsg (tTup (tCons (tC (.int 39)) (tCons (tC (.int 0)) (tCons (tC (.bl true)) tNil)))) (gTup Γ.K 3 (gCons (gName 1) (gCons (gName 2) (gCons (gName 3) gNil)))))
  (tSeq (tFor (iRng2 (tCons (tC (.int 1)) (tCons (tCB (rLen Γ.K) (tCons (tVar 0) tNil)) tNil))) (gName 4) (tIfS (tTest (tOp (rEqU Γ.K) (tOp (rIx Γ.K) (tVar 0) (tVar 4)) (tC (.str "/")))) (tSeq (tIfS (tOr (tTest (tOp (rEqU Γ.K) (tVar 2) (tC (.int 0)))) (tOr (tAnd (tNot (tB (tVar 3))) (tTest (tOp rLt (tVar 2) (tVar 1)))) (tOr (tAnd (tB (tVar 3)) (tTest (tOp (rEqU Γ.K) (tVar 2) (tC (.int 1))))) (tTest (tOp (rEqU Γ.K) (tVar 1) (tC (.int 1))))))) (tRet (tVar 4)) tNext)
  (tPar3 1 2 3 (tCons (tOp rSubI (tIf (tB (tVar 3)) (tVar 2) (tVar 1)) (tC (.int 1))) (tCons (tC (.int 0)) (tCons (tC (.bl false)) tNil))))) (tIfS (tOr (tTest (tOp (rEqU Γ.K) (tVar 2) (tVar 1))) (tNot (tB (tCal (sp__law_number Γ) E0 (tCons (tOp (rIx Γ.K) (tVar 0) (tVar 4)) (tCons (tUn (rU fun i => .int (-i)) (tOp rPowI (tC (.int 10)) (tC (.int 6)))) (tCons (tOp rPowI (tC (.int 10)) (tC (.int 6))) tNil))))))) (tRet (tVar 4)) (tAsg (tOp (rAddU Γ.K) (tVar 2) (tC (.int 1))) (gName 2)))))
  (tSeq (tAsg (tIf (tB (tVar 3)) (tOp (rEqU Γ.K) (tVar 2) (tC (.int 1))) (tChain (rEqU Γ.K) (rEqU Γ.K) (tVar 2) (tVar 1) (tC (.int 1)))) (gName 5))
  (tRet (tIf (tB (tVar 5)) (tC .non) (tCB (rLen Γ.K) (tCons (tVar 0) tNil)))))))
theorem rd__law_table_wrong (Γ : Gm) (vs : List V) (H : Hp) (Q : VK) (E : XK) (h : sp__law_table_wrong Γ vs H Q E) : t__law_table_wrong Γ ⟨fun _ H' => Q .non H', Q, fun _ _ => False, fun _ _ => False⟩ (startN 6 vs) H := by
  obtain ⟨a, w, r, rfl, ⟨ha, hz, hw⟩, k⟩ := h
  unfold t__law_table_wrong
  walk_at "ss"
  refine n_tup fun t0 H0 f0 e0 g0 => ?_
  refine w_gTup (SqT.of g0) rfl ?_
  walk_at "ss"
  refine w_lenL (SqL.of (e0 _ _ ha)) ?_
  walk_at "ss"
  rw [List.length_map, List.length_cons]
  refine k_rng2 (by omega) ?_
  rw [show (((r.length + 1 : Nat) : Int) - 1).toNat = r.length by omega]
  have six : (10 : Int) ^ Int.toNat 6 = 1000000 := by decide
  refine k_range (fun j σ H' => ∃ (due p : Nat) (first : Bool) (x4 x5 : Option V), σ = [some (.ref a), some (.int (due : Int)), some (.int (p : Int)), some (.bl first), x4, x5] ∧ Same H H' ∧ 1 ≤ due ∧ tabS true 39 0 1 r = tabS first due p (1 + j) (r.drop j)) ⟨39, 0, true, none, none, rfl, e0, by decide, rfl⟩ ?_ ?_
  · rintro j σ H1 hj ⟨due, p, first, x4, x5, rfl, e1, d1, m⟩
    have hu : r[j]? = some r[j] := List.getElem?_eq_getElem hj
    have su := hw r[j] (List.getElem_mem hj)
    rw [drop_row hu] at m
    generalize r[j] = u at hu su m
    have hix : atI ((w :: r).map V.str) (1 + (j : Int)) = some (.str u) := atI_of (by omega) (by rw [show (1 + (j : Int)).toNat = j + 1 by omega, List.getElem?_map, List.getElem?_cons_succ, hu]; rfl)
    have haw := e1 _ _ ha
    have done : m = m → tabS true 39 0 1 r = some ((1 + j : Nat) : Int) → Q (.int (1 + (j : Int))) H1 := fun _ z => by
      have := k H1 e1
      rw [z] at this
      rw [show (1 + (j : Int)) = ((1 + j : Nat) : Int) by omega]
      exact this
    walk_at "ss"
    refine w_ixL (SqL.of haw) hix ?_
    walk_at "ss"
    by_cases us : u = slash
    · rw [show decide (u = Str.ofString "/") = true from decide_eq_true us]
      subst us
      rw [tabS_slash] at m
      walk_at "ss"
      by_cases c1 : p = 0
      · rw [if_pos (.inl c1)] at m
        rw [decide_eq_true (show (p : Int) = 0 by omega)]
        walk_at "ss"
        exact done rfl m
      rw [decide_eq_false (show ¬ (p : Int) = 0 by omega)]
      walk_at "ss"
      cases first with
      | true =>
        walk_at "ss"
        by_cases c2 : p = 1
        · rw [if_pos (.inr (.inr (.inl ⟨rfl, c2⟩)))] at m
          rw [decide_eq_true (show (p : Int) = 1 by omega)]
          walk_at "ss"
          exact done rfl m
        rw [decide_eq_false (show ¬ (p : Int) = 1 by omega)]
        walk_at "ss"
        by_cases c3 : due = 1
        · rw [if_pos (.inr (.inr (.inr c3)))] at m
          rw [decide_eq_true (show (due : Int) = 1 by omega)]
          walk_at "ss"
          exact done rfl m
        rw [decide_eq_false (show ¬ (due : Int) = 1 by omega)]
        walk_at "ss"
        rw [if_neg (fun z => by rcases z with z | ⟨y, z⟩ | ⟨y, z⟩ | z <;> first | omega | (cases y; done)), if_pos rfl] at m
        refine ⟨p - 1, 0, false, some (.int (1 + (j : Int))), x5, ?_, e1, by omega, ?_⟩
        · rw [show (p : Int) - 1 = ((p - 1 : Nat) : Int) by omega]
          rfl
        · rw [m, show 1 + (j + 1) = 1 + j + 1 by omega]
      | false =>
        walk_at "ss"
        by_cases c2 : p < due
        · rw [if_pos (.inr (.inl ⟨rfl, c2⟩))] at m
          rw [decide_eq_true (show (p : Int) < due by omega)]
          walk_at "ss"
          exact done rfl m
        rw [decide_eq_false (show ¬ (p : Int) < due by omega)]
        walk_at "ss"
        by_cases c3 : due = 1
        · rw [if_pos (.inr (.inr (.inr c3)))] at m
          rw [decide_eq_true (show (due : Int) = 1 by omega)]
          walk_at "ss"
          exact done rfl m
        rw [decide_eq_false (show ¬ (due : Int) = 1 by omega)]
        walk_at "ss"
        rw [if_neg (fun z => by rcases z with z | ⟨y, z⟩ | ⟨y, z⟩ | z <;> first | omega | (cases y; done)), if_neg (by decide)] at m
        refine ⟨due - 1, 0, false, some (.int (1 + (j : Int))), x5, ?_, e1, by omega, ?_⟩
        · rw [show (due : Int) - 1 = ((due - 1 : Nat) : Int) by omega]
          rfl
        · rw [m, show 1 + (j + 1) = 1 + j + 1 by omega]
    · rw [show decide (u = Str.ofString "/") = false from decide_eq_false us]
      rw [tabS_word _ _ _ _ _ us] at m
      walk_at "ss"
      by_cases c1 : p = due
      · rw [if_pos (.inl c1)] at m
        rw [decide_eq_true (show (p : Int) = due by omega)]
        walk_at "ss"
        exact done rfl m
      rw [decide_eq_false (show ¬ (p : Int) = due by omega)]
      walk_at "ss"
      refine w_ixL (SqL.of haw) hix ?_
      walk_at "ss"
      refine w_powI ⟨by decide, by decide, by decide⟩ ?_
      walk_at "ss"
      refine w_powI ⟨by decide, by decide, by decide⟩ ?_
      rw [six]
      walk_at "ss"
      refine ⟨u, -1000000, 1000000, rfl, su.1, su.2, by decide, by decide, fun H2 e2 => ?_⟩
      cases hn : (numW u (-1000000) 1000000).isSome with
      | true =>
        walk_at "ss"
        rw [if_neg (fun z => z.elim c1 fun z => (by rw [show (numT u).isSome = true from hn] at z; cases z))] at m
        refine ⟨due, p + 1, first, _, _, rfl, e1.trans e2, d1, ?_⟩
        rw [m, show 1 + (j + 1) = 1 + j + 1 by omega]
      | false =>
        walk_at "ss"
        rw [if_pos (.inr hn)] at m
        have := k H2 (e1.trans e2)
        rw [m] at this
        rw [show (1 + (j : Int)) = ((1 + j : Nat) : Int) by omega]
        exact this
  · rintro σ H1 ⟨due, p, first, x4, x5, rfl, e1, d1, m⟩
    rw [List.drop_length, tabS_end] at m
    walk_at "ss"
    have yes : (if first = true then decide (p = 1) else decide (p = due) && decide (due = 1)) = true → Q .non H1 := fun z => by
      have := k H1 e1
      rw [m, if_pos z] at this
      exact this
    have no : (if first = true then decide (p = 1) else decide (p = due) && decide (due = 1)) = false → rLen Γ.K [.ref a] H1 Q := fun z => by
      refine w_lenL (SqL.of (e1 _ _ ha)) ?_
      have := k H1 e1
      rw [m, z, if_neg (by decide)] at this
      rw [List.length_map, List.length_cons, show ((r.length + 1 : Nat) : Int) = ((1 + r.length : Nat) : Int) by omega]
      exact this
    cases first with
    | true =>
      walk_at "ss"
      by_cases c : p = 1
      · rw [decide_eq_true (show (p : Int) = 1 by omega)]
        walk_at "ss"
        exact yes (by rw [if_pos rfl, decide_eq_true c])
      · rw [decide_eq_false (show ¬ (p : Int) = 1 by omega)]
        walk_at "ss"
        exact no (by rw [if_pos rfl, decide_eq_false c])
    | false =>
      walk_at "ss"
      by_cases c : p = due
      · rw [decide_eq_true (show (p : Int) = due by omega)]
        walk_at "ss"
        by_cases c1 : due = 1
        · rw [decide_eq_true (show (due : Int) = 1 by omega)]
          walk_at "ss"
          exact yes (by rw [if_neg (by decide), decide_eq_true c, decide_eq_true c1]; rfl)
        · rw [decide_eq_false (show ¬ (due : Int) = 1 by omega)]
          walk_at "ss"
          exact no (by rw [if_neg (by decide), decide_eq_false c1, Bool.and_false])
      · rw [decide_eq_false (show ¬ (p : Int) = due by omega)]
        walk_at "ss"
        exact no (by rw [if_neg (by decide), decide_eq_false c]; rfl)
/-! ### the law's own look at a text -/
def sp__law_wrong (Γ : Gm) : Sp := fun vs H Q _ => ∃ t, vs = [.str t] ∧ t.length ≤ 70000 ∧ cpsOk t ∧ ∀ H', Same H H' → Q (optV (wrongW (splitW t))) H'
/-- law_wrong: _law_text, _law_words_so -/
def t__law_wrong (Γ : Gm) : TS := (tSeq (tAsg (tM1 rSplitU (tVar 0) (tC (.str " "))) (gName 1))
  (tSeq (tIfS (tTest (tOp (rNotInU Γ.K) (tOp (rIx Γ.K) (tVar 1) (tC (.int 0))) (tLst (tCons (tC (.str "table")) (tCons (tC (.str "terms")) tNil))))) (tRet (tC (.int 0))) tNext)
  (tRet (tIf (tTest (tOp (rEqU Γ.K) (tOp (rIx Γ.K) (tVar 1) (tC (.int 0))) (tC (.str "table")))) (tCal (sp__law_table_wrong Γ) E0 (tCons (tVar 1) tNil)) (tCal (sp__law_term_wrong Γ) E0 (tCons (tVar 1) tNil))))))
theorem rd__law_wrong (Γ : Gm) (vs : List V) (H : Hp) (Q : VK) (E : XK) (h : sp__law_wrong Γ vs H Q E) : t__law_wrong Γ ⟨fun _ H' => Q .non H', Q, fun _ _ => False, fun _ _ => False⟩ (startN 2 vs) H := by
  obtain ⟨t, rfl, hz, ct, k⟩ := h
  unfold t__law_wrong
  walk_at "ss"
  refine w_m1 ?_
  walk_at "ss"
  refine w_str ?_
  walk_at "ss"
  refine w_splitS (b := sp1) (by rw [len_tl, tl_sp1]; rfl) (by omega) fun p H1 f1 e1 g1 => ?_
  obtain ⟨sne, sl, sw⟩ := splitW_sz t
  have sc := splitW_cps ct
  change H1 p = some (.lst ((splitW t).map V.str)) at g1
  generalize splitW t = ws at g1 sne sl sw sc k
  obtain ⟨w, r, rfl⟩ : ∃ w r, ws = w :: r := by
    cases ws with
    | nil => exact absurd rfl sne
    | cons w r => exact ⟨w, r, rfl⟩
  rw [List.length_cons] at sl
  have g1' := g1
  rw [List.map_cons] at g1'
  walk_at "ss"
  refine w_ixL (SqL.of g1') (atI0 _ _) ?_
  walk_at "ss"
  refine n_lst fun q H2 f2 e2 g2 => ?_
  refine w_in2 (w_inL (SqL.of g2) rfl rfl ?_)
  rw [if_pos rfl, inV_str]
  have e12 := e1.trans e2
  have W2 : WordsAt H2 p w r := ⟨e2 _ _ g1, by omega, fun u hu => ⟨by have := sw u (List.mem_cons_of_mem _ hu); omega, sc u (List.mem_cons_of_mem _ hu)⟩⟩
  by_cases w0 : w = "table" ∨ w = "terms"
  · rw [show (decide (w = Str.ofString "table") || decide (w = Str.ofString "terms")) = true by rw [Bool.or_eq_true, decide_eq_true_eq, decide_eq_true_eq]; exact w0]
    walk_at "ss"
    refine w_ixL (SqL.of (e2 _ _ g1')) (atI0 _ _) ?_
    walk_at "ss"
    by_cases w1 : w = "table"
    · rw [decide_eq_true w1]
      walk_at "ss"
      refine ⟨p, w, r, rfl, W2, fun H3 e3 => ?_⟩
      have := k H3 (e12.trans e3)
      simp only [wrongW] at this
      rw [if_pos w1] at this
      exact this
    · have w3 := w0.resolve_left w1
      rw [decide_eq_false w1]
      walk_at "ss"
      refine ⟨p, w, r, rfl, W2, fun H3 e3 => ?_⟩
      have := k H3 (e12.trans e3)
      simp only [wrongW] at this
      rw [if_neg w1, if_pos w3] at this
      exact this
  · rw [show (decide (w = Str.ofString "table") || decide (w = Str.ofString "terms")) = false by rw [Bool.or_eq_false_iff, decide_eq_false_iff_not, decide_eq_false_iff_not]; exact ⟨fun z => w0 (.inl z), fun z => w0 (.inr z)⟩]
    walk_at "ss"
    have := k H2 e12
    simp only [wrongW] at this
    rw [if_neg (fun z => w0 (.inl z)), if_neg (fun z => w0 (.inr z))] at this
    exact this
/-! ### spoilt texts -/
def Asc (t : Str) : Prop := ∀ c ∈ tl t, c < 128
theorem Asc.cps {t : Str} (h : Asc t) : cpsOk t := fun c hc => Nat.lt_trans (h c hc) (by decide)
theorem cutS_of (z : Str) (lo hi : Option Int) : (cutS z lo hi).length ≤ z.length ∧ ∀ c ∈ tl (cutS z lo hi), c ∈ tl z := by
  have e : ∃ m n, tl (cutS z lo hi) = ((tl z).drop m).take n := ⟨_, _, rfl⟩
  obtain ⟨m, n, e⟩ := e
  rw [len_tl, len_tl, e]
  exact ⟨by rw [List.length_take, List.length_drop]; omega, fun c hc => List.mem_of_mem_drop (List.mem_of_mem_take hc)⟩
theorem app_len (x y : Str) : (x ++ y).length = x.length + y.length := by rw [len_tl, tl_append, List.length_append, ← len_tl, ← len_tl]
theorem Asc.app {x y : Str} (hx : Asc x) (hy : Asc y) : Asc (x ++ y) := fun c hc => by
  rw [tl_append] at hc
  rcases List.mem_append.mp hc with z | z
  · exact hx c z
  · exact hy c z
theorem Asc.cut {z : Str} (h : Asc z) (lo hi : Option Int) : Asc (cutS z lo hi) := fun c hc => h c ((cutS_of z lo hi).2 c hc)
theorem lit_asc {s : String} (h : (s.toList.map Char.toNat).all (· < 128) = true) : Asc (Str.ofString s) := fun c hc => by
  rw [tl_ofString] at hc
  exact of_decide_eq_true (List.all_eq_true.mp h c hc)
def sp__law_spoilt (Γ : Gm) : Sp := fun vs H Q _ => ∃ d t, vs = [.ref d, .str t] ∧ H d = some (dO d) ∧ t.length ≤ 20000 ∧ Asc t ∧ ∀ u H', Same H H' → u.length ≤ 70000 → Asc u → Q (.str u) H'
/-- law_spoilt: _law_d, _law_text, _law_kind, _law_at, _law_sign -/
def t__law_spoilt (Γ : Gm) : TS := (tSeq (tPar 2 3 (tCons (tCal (sp__law_below Γ) E0 (tCons (tVar 0) (tCons (tC (.int 5)) tNil))) (tCons (tCal (sp__law_below Γ) E0 (tCons (tVar 0) (tCons (tOp (rAddU Γ.K) (tCB (rLen Γ.K) (tCons (tVar 1) tNil)) (tC (.int 1))) tNil))) tNil)))
  (tSeq (tAsg (tCal (sp__law_pick Γ) E0 (tCons (tVar 0) (tCons (tCB rListS (tCons (tC (.str " /01239-t")) tNil)) tNil))) (gName 4))
  (tSeq (tIfS (tTest (tOp (rEqU Γ.K) (tVar 2) (tC (.int 0)))) (tRet (tSl (rSlU Γ.K) (tVar 1) tNoPart (tPart (tVar 3)))) tNext)
  (tSeq (tIfS (tTest (tOp (rEqU Γ.K) (tVar 2) (tC (.int 1)))) (tRet (tOp (rAddU Γ.K) (tSl (rSlU Γ.K) (tVar 1) tNoPart (tPart (tVar 3))) (tSl (rSlU Γ.K) (tVar 1) (tPart (tOp (rAddU Γ.K) (tVar 3) (tC (.int 1)))) tNoPart))) tNext)
  (tSeq (tIfS (tTest (tOp (rEqU Γ.K) (tVar 2) (tC (.int 2)))) (tRet (tOp (rAddU Γ.K) (tOp (rAddU Γ.K) (tSl (rSlU Γ.K) (tVar 1) tNoPart (tPart (tVar 3))) (tVar 4)) (tSl (rSlU Γ.K) (tVar 1) (tPart (tOp (rAddU Γ.K) (tVar 3) (tC (.int 1)))) tNoPart))) tNext)
  (tSeq (tIfS (tTest (tOp (rEqU Γ.K) (tVar 2) (tC (.int 3)))) (tRet (tOp (rAddU Γ.K) (tOp (rAddU Γ.K) (tSl (rSlU Γ.K) (tVar 1) tNoPart (tPart (tVar 3))) (tSl (rSlU Γ.K) (tVar 1) (tPart (tVar 3)) (tPart (tOp (rAddU Γ.K) (tVar 3) (tC (.int 1)))))) (tSl (rSlU Γ.K) (tVar 1) (tPart (tVar 3)) tNoPart))) tNext)
  (tRet (tOp (rAddU Γ.K) (tOp (rAddU Γ.K) (tSl (rSlU Γ.K) (tVar 1) tNoPart (tPart (tVar 3))) (tVar 4)) (tSl (rSlU Γ.K) (tVar 1) (tPart (tVar 3)) tNoPart)))))))))
theorem rd__law_spoilt (Γ : Gm) (vs : List V) (H : Hp) (Q : VK) (E : XK) (h : sp__law_spoilt Γ vs H Q E) : t__law_spoilt Γ ⟨fun _ H' => Q .non H', Q, fun _ _ => False, fun _ _ => False⟩ (startN 5 vs) H := by
  obtain ⟨d, t, rfl, hd, hz, at_, k⟩ := h
  unfold t__law_spoilt
  walk_at "ss"
  refine w_below hd (by decide) (by decide) fun kd k1 k2 => ?_
  walk_at "ss"
  refine w_lenS (by omega) ?_
  walk_at "ss"
  refine w_below hd (by omega) (by omega) fun q q1 q2 => ?_
  walk_at "ss"
  have az : Asc (Str.ofString " /01239-t") := lit_asc rfl
  have lz : (Str.ofString " /01239-t").length = 9 := by rw [len_tl, tl_ofString]; rfl
  generalize Str.ofString " /01239-t" = z at az lz
  refine ⟨z, rfl, by rw [sizeLine_eq]; omega, fun l hl => ?_⟩
  have e2 := Same.new (o := HO.lst (signsOf z)) hl
  have g2 : upd H l (.lst (signsOf z)) l = some (.lst (signsOf z)) := upd_same
  generalize upd H l (.lst (signsOf z)) = H2 at e2 g2 ⊢
  show tNil _ _ _
  walk_at "ss"
  have ls : (signsOf z).length = 9 := by
    unfold signsOf
    rw [List.length_map]
    show (tl z).length = 9
    rw [← len_tl, lz]
  refine w_pick (e2 _ _ hd) (SqL.of g2) (fun i x hx => ?_) (by rw [ls]; decide)
  obtain ⟨sg, rfl, asg, lsg⟩ : ∃ sg : Str, x = .str sg ∧ Asc sg ∧ sg.length = 1 := by
    unfold signsOf at hx
    rw [List.getElem?_map] at hx
    obtain ⟨c, hc, rfl⟩ := Option.map_eq_some_iff.mp hx
    refine ⟨⟨#[c]⟩, rfl, fun b hb => ?_, rfl⟩
    rw [List.mem_singleton.mp hb]
    exact az c (List.mem_of_getElem? hc)
  have fin : ∀ u : Str, u.length ≤ 70000 → Asc u → Q (.str u) H2 := fun u h1 h2 => k u H2 e2 h1 h2
  have cl := fun lo hi => (cutS_of t lo hi).1
  have ca := fun lo hi => at_.cut lo hi
  have tz : t.length ≤ 16777216 := by omega
  walk_at "ss"
  by_cases c0 : kd = 0
  · rw [decide_eq_true c0]
    walk_at "ss"
    refine w_slS tz ?_
    exact fin _ (by have := cl none (some q); omega) (ca _ _)
  rw [decide_eq_false c0]
  walk_at "ss"
  by_cases c1 : kd = 1
  · rw [decide_eq_true c1]
    walk_at "ss"
    refine w_slS tz ?_
    walk_at "ss"
    refine w_slS tz ?_
    have h1 := cl none (some q)
    have h2 := cl (some (q + 1)) none
    refine w_addS (by rw [sizeLine_eq]; omega) ?_
    exact fin _ (by rw [app_len]; omega) ((ca _ _).app (ca _ _))
  rw [decide_eq_false c1]
  walk_at "ss"
  by_cases c2 : kd = 2
  · rw [decide_eq_true c2]
    walk_at "ss"
    refine w_slS tz ?_
    have h1 := cl none (some q)
    have h2 := cl (some (q + 1)) none
    walk_at "ss"
    refine w_addS (by rw [sizeLine_eq]; omega) ?_
    walk_at "ss"
    refine w_slS tz ?_
    refine w_addS (by rw [app_len, sizeLine_eq]; omega) ?_
    exact fin _ (by rw [app_len, app_len]; omega) (((ca _ _).app asg).app (ca _ _))
  rw [decide_eq_false c2]
  walk_at "ss"
  have h1 := cl none (some q)
  have h2 := cl (some q) (some (q + 1))
  have h3 := cl (some q) none
  by_cases c3 : kd = 3
  · rw [decide_eq_true c3]
    walk_at "ss"
    refine w_slS tz ?_
    walk_at "ss"
    refine w_slS tz ?_
    refine w_addS (by rw [sizeLine_eq]; omega) ?_
    walk_at "ss"
    refine w_slS tz ?_
    refine w_addS (by rw [app_len, sizeLine_eq]; omega) ?_
    exact fin _ (by rw [app_len, app_len]; omega) (((ca _ _).app (ca _ _)).app (ca _ _))
  rw [decide_eq_false c3]
  walk_at "ss"
  refine w_slS tz ?_
  walk_at "ss"
  refine w_addS (by rw [sizeLine_eq]; omega) ?_
  walk_at "ss"
  refine w_slS tz ?_
  refine w_addS (by rw [app_len, sizeLine_eq]; omega) ?_
  exact fin _ (by rw [app_len, app_len]; omega) (((ca _ _).app asg).app (ca _ _))

open _root_.TL (tl len_tl ext_tl tl_ofString tl_append spl joinL map_tl_inj spl_nil)
/-! ### read, then written -/
theorem numW_back {w : Str} {lo hi n : Int} (h : numW w lo hi = some n) (hlo : -1000000 ≤ lo) (hhi : hi ≤ 1000000) : nStr n = w := by
  have hs : (numW w lo hi).isSome = true := by rw [h]; rfl
  have cn : canon (tl w) = true ∧ n = valL (tl w) := by
    unfold numW at h
    split at h
    · rename_i c
      cases h
      exact ⟨c.1, rfl⟩
    · cases h
  obtain ⟨cn, rfl⟩ := cn
  unfold canon at cn
  simp only [Bool.and_eq_true, decide_eq_true_eq] at cn
  rw [← back_iff cn.1.1.1 cn.1.2 hlo hhi] at hs
  simp only [Bool.and_eq_true, decide_eq_true_eq] at hs
  exact hs.1
theorem fTerm_back {p : Nat} {w : Str} {n : Int} (h : fTerm p w = some n) : nStr n = w := by
  unfold fTerm at h
  split at h
  · split at h <;> exact numW_back h (by decide) (by decide)
  · cases h
theorem fTab_back {due p : Nat} {w : Str} {n : Int} (h : fTab due p w = some n) : nStr n = w := by
  unfold fTab at h
  split at h
  · exact numW_back h (by decide) (by decide)
  · cases h
theorem rowG_back {f : Nat → Str → Option Int} (hf : ∀ p w n, f p w = some n → nStr n = w) : ∀ {row : List IW} {p : Nat} {ns : List Int}, rowG f p row = .ok ns → ns.map nStr = row.map (·.2)
  | [], p, ns, h => by simp only [rowG] at h; cases h; rfl
  | w :: r, p, ns, h => by
    simp only [rowG] at h
    cases hw : f p w.2 with
    | none => rw [hw] at h; cases h
    | some m =>
      rw [hw] at h
      simp only at h
      cases hr : rowG f (p + 1) r with
      | er k => rw [hr] at h; cases h
      | ok ms =>
        rw [hr] at h
        cases h
        show nStr m :: ms.map nStr = _
        rw [rowG_back hf hr, hf p w.2 m hw]
        rfl
theorem tableM_back : ∀ {rows : List (List IW)} {due : Nat} {last : Int} {e : Option Nat} {ts : List (List Int)}, tableM due last e rows = .ok ts → e = none ∧ ts.map (fun r => r.map nStr) = rows.map (fun z => z.map (·.2))
  | [], due, last, e, ts, h => by
    simp only [tableM] at h
    cases e with
    | some k => cases h
    | none =>
      simp only at h
      split at h
      · cases h
      · cases h
        exact ⟨rfl, rfl⟩
  | row :: rows, due, last, e, ts, h => by
    simp only [tableM] at h
    split at h
    · cases h
    · cases hr : rowC (fTab due) due row with
      | er k => rw [hr] at h; cases h
      | ok ns =>
        rw [hr] at h
        change Out.pre [ns] (tableM (due - 1) (lastI row) e rows) = _ at h
        cases ht : tableM (due - 1) (lastI row) e rows with
        | er k => rw [ht] at h; cases h
        | ok us =>
          rw [ht] at h
          cases h
          obtain ⟨b1, b2⟩ := tableM_back ht
          refine ⟨b1, ?_⟩
          show ns.map nStr :: us.map _ = _
          rw [b2, rowG_back (fun p w n => fTab_back) (rowC_ok hr).1]
          rfl
theorem termsM_back : ∀ {rows : List (List IW)} {i : Nat} {e : Option Nat} {ts : List (List Int)}, termsM i e rows = .ok ts → e = none ∧ ts.map (fun r => r.map nStr) = rows.map (fun z => z.map (·.2))
  | [], i, e, ts, h => by
    simp only [termsM] at h
    cases e with
    | some k => cases h
    | none =>
      cases h
      exact ⟨rfl, rfl⟩
  | row :: rows, i, e, ts, h => by
    simp only [termsM] at h
    split at h
    · cases h
    · cases hr : rowC fTerm 3 row with
      | er k => rw [hr] at h; cases h
      | ok ns =>
        rw [hr] at h
        change Out.pre [ns] (termsM (i + 1) e rows) = _ at h
        cases ht : termsM (i + 1) e rows with
        | er k => rw [ht] at h; cases h
        | ok us =>
          rw [ht] at h
          cases h
          obtain ⟨b1, b2⟩ := termsM_back ht
          refine ⟨b1, ?_⟩
          show ns.map nStr :: us.map _ = _
          rw [b2, rowG_back (fun p w n => fTerm_back) (rowC_ok hr).1]
          rfl
/-- rows of words in one -/
def joinW : List (List Str) → List Str
  | [] => []
  | [row] => row
  | row :: r2 :: rs => row ++ slash :: joinW (r2 :: rs)
theorem wjoin_joinW : ∀ rows : List (List Int), wjoin rows = joinW (rows.map fun r => r.map nStr)
  | [] => rfl
  | [row] => rfl
  | row :: r2 :: rs => by
    simp only [wjoin]
    rw [wjoin_joinW (r2 :: rs)]
    rfl
theorem rowsM_join : ∀ (ws : List Str) (k : Nat) (cur : List IW), (rowsM k cur ws).2 = none → joinW ((rowsM k cur ws).1.map fun z => z.map (·.2)) = cur.map (·.2) ++ ws ∧ (rowsM k cur ws).1 ≠ []
  | [], k, cur, h => by
    simp only [rowsM] at h ⊢
    by_cases hc : cur.isEmpty = true
    · rw [if_pos hc] at h
      cases h
    · rw [if_neg hc]
      exact ⟨by show cur.map (·.2) = _; rw [List.append_nil], by simp⟩
  | w :: ws, k, cur, h => by
    simp only [rowsM] at h ⊢
    by_cases hs : w = slash
    · rw [if_pos hs] at h ⊢
      by_cases hc : cur.isEmpty = true
      · rw [if_pos hc] at h
        cases h
      · rw [if_neg hc] at h ⊢
        obtain ⟨i1, i2⟩ := rowsM_join ws (k + 1) [] h
        refine ⟨?_, by simp⟩
        rw [List.map_nil, List.nil_append] at i1
        cases hz : (rowsM (k + 1) [] ws).1 with
        | nil => exact absurd hz i2
        | cons z zs =>
          rw [hz] at i1
          rw [hs]
          show cur.map (·.2) ++ slash :: joinW ((z :: zs).map fun z => z.map (·.2)) = _
          rw [i1]
    · rw [if_neg hs] at h ⊢
      obtain ⟨i1, i2⟩ := rowsM_join ws (k + 1) (cur ++ [(k, w)]) h
      refine ⟨?_, i2⟩
      rw [i1, List.map_append, List.append_assoc]
      rfl
theorem toRd_rule {o : Out (List Int)} {f : List (List Int) → R} {r : R} (h : o.toRd f = .rule r) : ∃ ts, o = .ok ts ∧ r = f ts := by
  cases o with
  | er k => cases h
  | ok ts =>
    injection h with h
    exact ⟨ts, rfl, h.symm⟩
theorem read_words {ws : List Str} {r : R} (h : readW ws = .rule r) : wordsOf r = ws ∧ r.ok := by
  cases ws with
  | nil => cases h
  | cons w us =>
    simp only [readW] at h
    by_cases h1 : w = "table"
    · rw [if_pos h1] at h
      obtain ⟨ts, e, rfl⟩ := toRd_rule h
      have hok := tabM_ok e fun row hrow => ((rowsM_facts us 1 []).1 row hrow).1
      obtain ⟨b1, b2⟩ := tableM_back e
      obtain ⟨j1, _⟩ := rowsM_join us 1 [] b1
      refine ⟨?_, hok⟩
      show Str.ofString "table" :: wjoin ts = w :: us
      rw [wjoin_joinW, b2, j1, h1]
      rfl
    · rw [if_neg h1] at h
      by_cases h2 : w = "terms"
      · rw [if_pos h2] at h
        by_cases h3 : us = []
        · rw [if_pos h3] at h
          injection h with h
          subst h
          rw [h2, h3]
          exact ⟨rfl, Nat.zero_le _, fun _ z => by simp at z⟩
        · rw [if_neg h3] at h
          obtain ⟨ts, e, rfl⟩ := toRd_rule h
          have hok := (trm_ok e).1
          obtain ⟨b1, b2⟩ := termsM_back e
          obtain ⟨j1, _⟩ := rowsM_join us 1 [] b1
          refine ⟨?_, hok⟩
          show Str.ofString "terms" :: wjoin ((ts.map triOf).map tri) = w :: us
          have hts : (ts.map triOf).map tri = ts := by
            rw [List.map_map]
            have := (termsM_ok (Nat.zero_le _) e).2
            refine (List.map_congr_left (g := id) fun x hx => ?_).trans (List.map_id ts)
            exact (this x hx).1
          rw [hts, wjoin_joinW, b2, j1, h2]
          rfl
      · rw [if_neg h2] at h
        cases h
theorem spl_joinL : ∀ (l acc : List Nat), joinL [32] (spl [32] 0 acc l) = acc ++ l
  | [], acc => by rw [spl_nil, List.append_nil]; rfl
  | c :: r, acc => by
    by_cases h : c = 32
    · subst h
      rw [spl_c32]
      have ih := spl_joinL r []
      have ne := (spl_sz r []).1
      cases hs : spl [32] 0 [] r with
      | nil => exact absurd hs ne
      | cons p ps =>
        rw [hs] at ih
        show acc ++ ([32] ++ joinL [32] (p :: ps)) = _
        rw [ih]
        rfl
    · rw [spl_cN h, spl_joinL r (acc ++ [c]), List.append_assoc]
      rfl
theorem read_text {t : Str} {r : R} (h : readW (splitW t) = .rule r) : textOf r = t ∧ r.ok := by
  obtain ⟨e, ok⟩ := read_words h
  refine ⟨ext_tl ?_, ok⟩
  rw [tl_textOf fun x hx => ((R.rowsB ok).row x hx).1, e, splitW_spl, spl_joinL]
  rfl
/-! ### text * number -/
theorem fold_arr : ∀ (n : Nat) (a b : Array Nat), ((List.replicate n a).foldl (· ++ ·) b).toList = b.toList ++ (List.replicate n a.toList).flatten
  | 0, a, b => by simp
  | n + 1, a, b => by
    rw [List.replicate_succ, List.foldl_cons, fold_arr n a (b ++ a), List.replicate_succ, List.flatten_cons, Array.toList_append, List.append_assoc]
theorem tl_mul {z : Str} {n : Nat} (hn : 2 ≤ n) (hz : z.length ≠ 0) : tl (Txt.mul z (n : Int)) = (List.replicate n (tl z)).flatten := by
  unfold Txt.mul
  rw [if_neg (by omega), if_neg]
  · rw [Int.toNat_natCast]
    show ((List.replicate n z.cps).foldl (· ++ ·) #[]).toList = _
    rw [fold_arr]
    rfl
  · simp only [Bool.or_eq_true, beq_iff_eq]
    omega
theorem mulOk5 {z : Str} (h : z.length ≤ 100) : MulOk z 5 := by
  refine ⟨by decide, fun _ _ => by omega, fun _ _ => ?_⟩
  unfold Builtin.Str.tooLong
  rw [sizeLine_eq]
  exact decide_eq_false (by show ¬ z.length * 5 > 16777216; omega)
theorem mulOk5000 {z : Str} (h : z.length ≤ 100) : MulOk z 5000 := by
  refine ⟨by decide, fun _ _ => by omega, fun _ _ => ?_⟩
  unfold Builtin.Str.tooLong
  rw [sizeLine_eq]
  exact decide_eq_false (by show ¬ z.length * 5000 > 16777216; omega)
theorem flat_len {n m : Nat} {l : List Nat} (h : l.length ≤ m) : (List.replicate n l).flatten.length ≤ n * m := by
  induction n with
  | zero => simp
  | succ n ih =>
    rw [List.replicate_succ, List.flatten_cons, List.length_append, Nat.succ_mul]
    omega
theorem flat_mem {n : Nat} {l : List Nat} {c : Nat} (h : c ∈ (List.replicate n l).flatten) : c ∈ l := by
  obtain ⟨x, hx, hc⟩ := List.mem_flatten.mp h
  rw [(List.mem_replicate.mp hx).2] at hc
  exact hc
/-! ### what is told of the odd texts -/
theorem split_lit {s : String} {ws : List Str} (h : ws.map tl = spl [32] 0 [] (s.toList.map Char.toNat)) : splitW (Str.ofString s) = ws := map_tl_inj (by rw [splitW_spl, tl_ofString, h])
theorem nk_ter : ¬ (("terms" : Str) = "table") := fun z => nk_tt z.symm
theorem tl_lit (s : String) (l : List Nat) (h : s.toList.map Char.toNat = l) : tl (Str.ofString s) = l := by rw [tl_ofString, h]
theorem termS_bad {i p k : Nat} {w : Str} {ws : List Str} (hp : p ≠ 3) (h : (fTerm p w).isSome = false) : termS i p k (w :: ws) = some (k : Int) := by
  rw [termS, if_neg hp, if_neg (by rw [h]; decide)]
theorem termS_good {i p k : Nat} {w : Str} {ws : List Str} (hp : p ≠ 3) (h : (fTerm p w).isSome = true) : termS i p k (w :: ws) = termS i (p + 1) (k + 1) ws := by
  rw [termS, if_neg hp, if_pos h]
theorem numW_no {w : Str} {lo hi : Int} (h : canon (tl w) = false) : (numW w lo hi).isSome = false := by
  unfold numW
  rw [if_neg (fun z => by rw [h] at z; cases z.1)]
  rfl
theorem fTerm_no {p : Nat} {w : Str} (h : canon (tl w) = false) : (fTerm p w).isSome = false := by
  unfold fTerm
  split
  · split <;> exact numW_no h
  · rfl
theorem one_fig : tl (Str.ofString "1") = [49] := tl_lit _ _ rfl
theorem fTerm_one {p : Nat} (hp : p < 3) : (fTerm p (Str.ofString "1")).isSome = true := by
  have e : Str.ofString "1" = nStr 1 := ext_tl (by rw [one_fig, tl_nStr]; exact (_root_.TL.numL_lt (show 1 < 10 by decide)).symm)
  rw [e]
  unfold fTerm
  rw [if_pos hp]
  split
  · rw [numW_nStr (by decide) (by decide) (by decide)]; rfl
  · rw [numW_nStr (by decide) (by decide) (by decide)]; rfl
theorem wrong_terms {u : Str} {us : List Str} : wrongW (Str.ofString "terms" :: u :: us) = termS 0 0 1 (u :: us) := by
  simp only [wrongW]
  rw [if_neg nk_ter, if_pos True.intro, if_neg (by simp)]
theorem odd1 : wrongW (splitW (Str.ofString "terms +1 1 1")) = some 1 := by
  rw [split_lit (s := "terms +1 1 1") (ws := [Str.ofString "terms", Str.ofString "+1", Str.ofString "1", Str.ofString "1"]) (by simp only [List.map_cons, List.map_nil, tl_ofString]; rfl)]
  rw [wrong_terms, termS_bad (by decide) (fTerm_no (by rw [tl_lit "+1" [43, 49] rfl]; rfl))]
  rfl
theorem odd2 : wrongW (splitW (Str.ofString "terms 1 1 1\n")) = some 3 := by
  rw [split_lit (s := "terms 1 1 1\n") (ws := [Str.ofString "terms", Str.ofString "1", Str.ofString "1", Str.ofString "1\n"]) (by simp only [List.map_cons, List.map_nil, tl_ofString]; rfl)]
  rw [wrong_terms, termS_good (by decide) (fTerm_one (by decide)), termS_good (by decide) (fTerm_one (by decide)), termS_bad (by decide) (fTerm_no (by rw [tl_lit "1\n" [49, 10] rfl]; rfl))]
  rfl
theorem odd3 : wrongW (splitW (Str.ofString "table 1_0")) = some 1 := by
  rw [split_lit (s := "table 1_0") (ws := [Str.ofString "table", Str.ofString "1_0"]) (by simp only [List.map_cons, List.map_nil, tl_ofString]; rfl)]
  simp only [wrongW]
  have hn : (numT (Str.ofString "1_0")).isSome = false := numW_no (by rw [tl_lit "1_0" [49, 95, 48] rfl]; rfl)
  have ns : Str.ofString "1_0" ≠ slash := fun z => by
    have := congrArg tl z
    rw [tl_lit "1_0" [49, 95, 48] rfl, tl_slash] at this
    cases this
  rw [if_pos True.intro, tabS_word _ _ _ _ _ ns, if_pos (.inr hn)]
  rfl
theorem odd4 {t w : Str} (ht : tl t = tl (Str.ofString "terms ") ++ tl w ++ tl (Str.ofString " 1 1")) (hw : 32 ∉ tl w) (hc : canon (tl w) = false) : wrongW (splitW t) = some 1 := by
  have : splitW t = [Str.ofString "terms", w, Str.ofString "1", Str.ofString "1"] := by
    refine map_tl_inj ?_
    rw [splitW_spl, ht]
    have e : tl (Str.ofString "terms ") ++ tl w ++ tl (Str.ofString " 1 1") = joinL [32] ([Str.ofString "terms", w, Str.ofString "1", Str.ofString "1"].map tl) := by
      simp only [List.map_cons, List.map_nil, tl_lit "terms " [116, 101, 114, 109, 115, 32] rfl, tl_lit "terms" [116, 101, 114, 109, 115] rfl, tl_lit " 1 1" [32, 49, 32, 49] rfl, one_fig]
      show _ = [116, 101, 114, 109, 115] ++ ([32] ++ (tl w ++ ([32] ++ ([49] ++ ([32] ++ [49])))))
      simp
    rw [e]
    refine _root_.TL.spl_join (by simp) fun p hp => ?_
    simp only [List.map_cons, List.map_nil, List.mem_cons, List.not_mem_nil, or_false] at hp
    rcases hp with rfl | rfl | rfl | rfl
    · rw [tl_lit "terms" [116, 101, 114, 109, 115] rfl]; decide
    · exact hw
    · rw [one_fig]; decide
    · rw [one_fig]; decide
  rw [this, wrong_terms, termS_bad (by decide) (fTerm_no hc)]
  rfl

open _root_.TL (tl len_tl ext_tl tl_ofString tl_append joinL)
/-! ### k23: the word that is told -/
structure Ex23 (Γ : Gm) : Prop where
  hh : PySem.W.exmOne Γ.K (.ref Γ.cBadText) (.ref Γ.cBadText) = some true
def toldV (o : Option V) : List V := o.toList
def sp__law_told (Γ : Gm) : Sp := fun vs H Q _ => ∃ v dd o, vs = [v] ∧ Dv H v dd ∧ (((∀ t, dd ≠ .str t) ∧ o = some .non) ∨ ∃ t, dd = .str t ∧ t.length ≤ 70000 ∧ cpsOk t ∧ o = (wrongW (splitW t)).map V.int) ∧ ∀ l H', Same H H' → H' l = some (.lst (toldV o)) → Q (.ref l) H'
/-- law_told: _law_text, _law_found, e -/
def t__law_told_k23 (Γ : Gm) : TS := (tSeq (tAsg (tLst tNil) (gName 1))
  (tSeq (tTryM Γ.K (fun W => (tDrop (tCalS (sp_read Γ) (WE' W) (tCons (tVar 0) tNil)))) ([((.ref Γ.cBadText : Value), some 2, (fun a cls d => (tDrop (tBM Γ.K "list" rAppend (tVar 1) (tCons (tXf a cls d Γ.cBadText "word" (tVar 2)) tNil)))))] : List HdS))
  (tRet (tVar 1))))
theorem rd__law_told_k23 (Γ : Gm) (X : Ex23 Γ) (vs : List V) (H : Hp) (Q : VK) (E : XK) (h : sp__law_told Γ vs H Q E) : t__law_told_k23 Γ ⟨fun _ H' => Q .non H', Q, fun _ _ => False, fun _ _ => False⟩ (startN 3 vs) H := by
  obtain ⟨v, dd, o, rfl, hv, ho, k⟩ := h
  unfold t__law_told_k23
  walk_at "ss"
  refine n_lst fun L H1 f1 e1 g1 => ?_
  walk_at "ss"
  refine w_tryM ?_
  walk_at "ss"
  have hv1 := hv.mono e1
  refine ⟨v, rfl, hv1.tag, ?_⟩
  have caught : ∀ (x : V) (a d : Addr) (H2 : Hp), o = some x → Same H1 H2 → H2 d = some (.xd [("word", x)]) → tyV Γ.K "list" (.ref L) H2 ∧ tCons (tXf a (Value.ref Γ.cBadText) (some d) Γ.cBadText "word" (tVar 2)) tNil ((List.set (startN 3 [v]) 1 (some (.ref L))).set 2 (some (.ref a))) H2 fun xs H3 => rAppend (.ref L) xs H3 fun x H4 => (unE 2 ⟨fun σ H => tRet (tVar 1) ⟨fun _ H' => Q .non H', Q, fun _ _ => False, fun _ _ => False⟩ σ H, Q, fun _ _ => False, fun _ _ => False⟩).nx ((List.set (startN 3 [v]) 1 (some (.ref L))).set 2 (some (.ref a))) H4 := by
    rintro x a d H2 rfl e2 g2
    have gL := e2 _ _ g1
    refine w_tyL gL ?_
    refine w_cons ?_
    refine ⟨.ref a, rfl, rfl, rfl, d, [("word", x)], x, rfl, g2, by simp [List.lookup], ?_⟩
    walk_at "ss"
    refine w_app gL (Nat.zero_le _) ?_
    show tRet (tVar 1) ⟨fun _ H' => Q .non H', Q, fun _ _ => False, fun _ _ => False⟩ _ _
    walk_at "ss"
    exact k L _ (Same.mut (e1.trans e2) f1) upd_same
  rcases ho with ⟨hn, rfl⟩ | ⟨t, rfl, hz, ct, rfl⟩
  · refine .inl ⟨?_, fun d H2 e2 g2 => ?_⟩
    · rw [hv1.ty]
      cases dd with
      | str t => exact absurd rfl (hn t)
      | _ => rfl
    · refine ⟨true, X.hh, fun _ a ha => ?_, fun z => nomatch z⟩
      walk_at "ss"
      exact caught _ a d H2 rfl e2 g2
  · have rw_ := read_wrong (splitW t)
    refine .inr ⟨t, dv_str hv, by omega, ct, fun n hr d H2 e2 g2 => ?_, fun r hr p H2 e2 R2 => ?_⟩
    · refine ⟨true, X.hh, fun _ a ha => ?_, fun z => nomatch z⟩
      walk_at "ss"
      rw [hr] at rw_
      exact caught _ a d H2 (by rw [← rw_]; rfl) e2 g2
    · walk_at "ss"
      rw [hr] at rw_
      refine k L H2 (e1.trans e2) ?_
      rw [← rw_]
      exact e2 _ _ g1
theorem textOf_nil {r : R} (h : r.rows = []) : r.kind ++ Str.ofString "" = textOf r := by
  refine ext_tl ?_
  unfold textOf
  rw [h, tl_append, tlj, tl_ofString]
  show tl r.kind ++ [] = tl r.kind
  rw [List.append_nil]
theorem textOf_cons {r : R} (h : r.rows ≠ []) : r.kind ++ (Str.ofString " " ++ rowsT r.rows) = textOf r := by
  have hl : r.rows.length > 0 := List.length_pos_iff.mpr h
  refine ext_tl ?_
  unfold textOf
  rw [if_pos hl, tl_append, tl_append, tlj, tl_sp1, show tl (Str.ofString " ") = [32] from tl_sp1]
  rfl
theorem rowsT_nil : rowsT [] = Str.ofString "" := by
  refine ext_tl ?_
  unfold rowsT
  rw [tlj, tl_ofString]
  rfl
theorem rowsT_ne {rows : List (List Int)} (h : rows ≠ []) (hr : ∀ r ∈ rows, r ≠ []) : rowsT rows ≠ Str.ofString "" := by
  intro z
  have : tl (rowsT rows) = [] := by rw [z, tl_ofString]; rfl
  rw [tl_rowsT hr] at this
  cases hw : wjoin rows with
  | nil => exact wjoin_ne h hr hw
  | cons w ws =>
    have hne : tl w ≠ [] := by
      have hm : w ∈ wjoin rows := by rw [hw]; exact List.mem_cons_self ..
      rcases wjoin_mem hm with e | ⟨n, e⟩
      · rw [e, tl_slash]; simp
      · rw [e]; exact nStr_ne n
    rw [hw] at this
    cases ws with
    | nil => exact hne this
    | cons u us =>
      have : tl w ++ ([32] ++ joinL [32] ((u :: us).map tl)) = [] := this
      exact hne (List.append_eq_nil_iff.mp this).1
theorem RuleAt.okT {Γ : Gm} {H : Hp} {v : V} {r : R} (h : RuleAt Γ H v r) : r.ok := by
  obtain ⟨_, _, _, _, _, _, o⟩ := h
  exact o
theorem w_kText {Γ : Gm} {σ : St} {H : Hp} {Q : VK} {r : R} {i : Nat} (B : RowsB r.rows) (hv : ∀ {Q : VK}, Q (.str (rowsT r.rows)) H → tVar i σ H Q) (q : Q (.str (textOf r)) H) : tIf (tTest (tOp (rNeU Γ.K) (tVar i) (tC (.str "")))) (tOp (rAddU Γ.K) (tC (.str " ")) (tVar i)) (tC (.str "")) σ H fun y H2 => rAddU Γ.K (.str r.kind) y H2 Q := by
  have hk : r.kind.length ≤ 5 := by rw [len_tl]; rcases tl_kind r with e | e <;> rw [e] <;> decide
  have s1 : (Str.ofString " ").length = 1 := by show sp1.length = 1; rw [len_tl, tl_sp1]; rfl
  have s0 : (Str.ofString "").length = 0 := by rw [len_tl, tl_ofString]; rfl
  have sl := rowsT_len B
  walk_at "ss"
  refine hv ?_
  walk_at "ss"
  by_cases e : r.rows = []
  · rw [show decide (rowsT r.rows = Str.ofString "") = true from decide_eq_true (by rw [e]; exact rowsT_nil)]
    walk_at "ss"
    refine w_addS (by rw [s0, sizeLine_eq]; omega) ?_
    rw [textOf_nil e]
    exact q
  · rw [show decide (rowsT r.rows = Str.ofString "") = false from decide_eq_false (rowsT_ne e fun x hx => (B.row x hx).1)]
    walk_at "ss"
    refine hv ?_
    refine w_addS (by rw [s1, sizeLine_eq]; omega) ?_
    refine w_addS ?_ ?_
    · rw [len_tl (Str.ofString " " ++ _), tl_append, List.length_append, ← len_tl, ← len_tl, s1, sizeLine_eq]
      omega
    rw [textOf_cons e]
    exact q
/-- values with the same data are not unlike -/
theorem ne_same {K : PySem.W.Frag} {H : Hp} {Q : VK} {x y : V} {d : PyData} (hx : Dv H x d) (hy : Dv H y d) (fd : flatN 45 d = true) (pd : pureD d = true) (q : Q (.bl false) H) : rNeU K x y H Q := by
  letI dec : Decidable (d = d) := .isTrue rfl
  exact w_neD (dec := dec) hx hy fd fd pd pd q
theorem eq_sameT {K : PySem.W.Frag} {H : Hp} {Q : VK} {x y : V} {d : PyData} (hx : Dv H x d) (hy : Dv H y d) (fd : flatN 45 d = true) (pd : pureD d = true) (q : Q (.bl true) H) : rEqU K x y H Q := by
  letI dec : Decidable (d = d) := .isTrue rfl
  exact w_eqD (dec := dec) hx hy fd fd pd pd q
theorem flat_l0 : flatN 45 (.list []) = true := rfl
theorem pure_l0 : pureD (.list []) = true := by unfold pureD pureAll; rfl
theorem flat_l1 (k : Int) : flatN 45 (.list [.int k]) = true := rfl
theorem pure_l1 (k : Int) : pureD (.list [.int k]) = true := by unfold pureD pureAll pureAll pureD; rfl
theorem flat_ln : flatN 45 (.list [.none]) = true := rfl
theorem pure_ln : pureD (.list [.none]) = true := by unfold pureD pureAll pureAll pureD; rfl
/-- what is told against what is due, both of a text -/
theorem w_due {Γ : Gm} {σ : St} {H H0 : Hp} {Q : VK} {l : Addr} {x : Option Int} {i : Nat} (hl : H l = some (.lst (toldV (x.map V.int)))) (hv : ∀ {Q : VK} {H' : Hp}, Q (optV x) H' → tVar i σ H' Q) (q : ∀ H', Same H H' → Q (.bl false) H') : tIf (tTest (tOp rIsU (tVar i) (tC .non))) (tLst tNil) (tLst (tCons (tVar i) tNil)) σ H fun y H2 => rNeU Γ.K (.ref l) y H2 Q := by
  walk_at "ss"
  refine hv ?_
  walk_at "ss"
  rw [optV_isN]
  cases x with
  | none =>
    rw [show (none : Option Int).isNone = true from rfl]
    walk_at "ss"
    refine n_lst fun p H1 f1 e1 g1 => ?_
    exact ne_same (.lst (e1 _ _ hl) .nil) (.lst g1 .nil) flat_l0 pure_l0 (q H1 e1)
  | some k =>
    rw [show (some k : Option Int).isNone = false from rfl]
    walk_at "ss"
    refine hv ?_
    walk_at "ss"
    refine n_lst fun p H1 f1 e1 g1 => ?_
    exact ne_same (.lst (e1 _ _ hl) (.cons (.int k) .nil)) (.lst g1 (.cons (.int k) .nil)) (flat_l1 k) (pure_l1 k) (q H1 e1)
def oddS : List String := ["", "table", "terms ", "terms /", "table /", "table 1 /", "table 1 / 2", "table 1 2", "table 1 2 /", "terms 1 1", "table 1 2 / 3 4", "table 1 2 / 3 / 4", "table 1 2 3 / 4 / 5", "terms 1 1 1 /", "terms 1 1 1 1", "terms 1 5 1", "terms 1 1 1 / / 1 1 1", "terms -0 1 1", "terms -1 1 1", "terms 1 -1 1", "table -0", "table 01", "table 1000001", "Terms", " terms", "table x / / 1", "table  1", "table - 1"]
def oddL : List Str := oddS.map Str.ofString
def AscB (n : Nat) (t : Str) : Prop := Asc t ∧ t.length ≤ n
theorem lit_b {s : String} {n : Nat} (h : ((s.toList.map Char.toNat).all (· < 128) && decide ((s.toList.map Char.toNat).length ≤ n)) = true) : AscB n (Str.ofString s) := by
  rw [Bool.and_eq_true, decide_eq_true_eq] at h
  exact ⟨lit_asc h.1, by rw [len_tl, tl_ofString]; exact h.2⟩
theorem AscB.app {n m : Nat} {x y : Str} (hx : AscB n x) (hy : AscB m y) : AscB (n + m) (x ++ y) := ⟨hx.1.app hy.1, by rw [app_len]; have := hx.2; have := hy.2; omega⟩
theorem AscB.mono {n m : Nat} {x : Str} (hx : AscB n x) (h : n ≤ m) : AscB m x := ⟨hx.1, Nat.le_trans hx.2 h⟩
theorem AscB.mul {n m : Nat} {x : Str} (hx : AscB n x) (hm : 2 ≤ m) (h0 : x.length ≠ 0) : AscB (m * n) (Txt.mul x (m : Int)) := by
  have e := tl_mul hm h0
  refine ⟨fun c hc => ?_, ?_⟩
  · rw [e] at hc
    exact hx.1 c (flat_mem hc)
  · rw [len_tl, e]
    exact flat_len (by rw [← len_tl]; exact hx.2)
theorem odd_ok : ∀ t ∈ oddL, AscB 100 t := fun t ht => by
  obtain ⟨s, hs, rfl⟩ := List.mem_map.mp ht
  have : oddS.all (fun s => (s.toList.map Char.toNat).all (· < 128) && decide ((s.toList.map Char.toNat).length ≤ 100)) = true := by decide +kernel
  exact lit_b (List.all_eq_true.mp this s hs)
/-- law: _law_script, _law_d, _law_turn, _law_rule_here, _law_text, _law_due, _law_wide, _law_odd, _law_six, _law_at, _law_row, _law_number_here, _law_value -/
def t_law_k23 (Γ : Gm) : TS := (tSeq (tAsg (tCal (sp__law_random Γ) E0 (tCons (tVar 0) (tCons (tC (.int 2823)) tNil))) (gName 1))
  (tSeq (tFor (iRng1 (tCons (tC (.int 6)) tNil)) (gName 2) (tSeq (tAsg (tCal (sp__law_rule Γ) E0 (tCons (tVar 1) (tCons (tC (.int 5)) tNil))) (gName 3))
  (tSeq (tAsg (tM1 (rJoinU Γ.K) (tC (.str " / ")) (tLc (iSeq Γ.K (tPrp Γ.cRule "body" (tVar 3))) (gName 10) tYes (tM1 (rJoinU Γ.K) (tC (.str " ")) (tLc (iSeq Γ.K (tVar 10)) (gName 11) tYes (tCB rStr1 (tCons (tVar 11) tNil)) [11])) [10])) (gName 4))
  (tSeq (tAsg (tCal (sp__law_spoilt Γ) E0 (tCons (tVar 1) (tCons (tOp (rAddU Γ.K) (tPrp Γ.cRule "form" (tVar 3)) (tIf (tTest (tOp (rNeU Γ.K) (tVar 4) (tC (.str "")))) (tOp (rAddU Γ.K) (tC (.str " ")) (tVar 4)) (tC (.str "")))) tNil))) (gName 4))
  (tSeq (tAsg (tCal (sp__law_wrong Γ) E0 (tCons (tVar 4) tNil)) (gName 5))
  (tIfS (tOr (tTest (tOp (rNeU Γ.K) (tCal (sp__law_told Γ) E0 (tCons (tVar 4) tNil)) (tIf (tTest (tOp rIsU (tVar 5) (tC .non))) (tLst tNil) (tLst (tCons (tVar 5) tNil))))) (tAnd (tTest (tOp rIsU (tVar 5) (tC .non))) (tTest (tOp (rNeU Γ.K) (tCal (sp_write Γ) E0 (tCons (tCal (sp_read Γ) E0 (tCons (tVar 4) tNil)) tNil)) (tVar 4))))) (tRet (tC (.bl false))) tNext))))))
  (tSeq (tAsg (tM1 (rJoinU Γ.K) (tC (.str " ")) (tOp (rMulU Γ.K) (tLst (tCons (tC (.str "0")) tNil)) (tC (.int 39)))) (gName 6))
  (tSeq (tAsg (tLst (tCons (tC (.str "")) (tCons (tC (.str "table")) (tCons (tC (.str "terms ")) (tCons (tC (.str "terms /")) (tCons (tC (.str "table /")) (tCons (tC (.str "table 1 /")) (tCons (tC (.str "table 1 / 2")) (tCons (tC (.str "table 1 2")) (tCons (tC (.str "table 1 2 /")) tNil)))))))))) (gName 7))
  (tSeq (tAsg (tOp (rAddU Γ.K) (tVar 7) (tLst (tCons (tC (.str "terms 1 1")) (tCons (tC (.str "table 1 2 / 3 4")) (tCons (tC (.str "table 1 2 / 3 / 4")) (tCons (tC (.str "table 1 2 3 / 4 / 5")) (tCons (tC (.str "terms 1 1 1 /")) tNil))))))) (gName 7))
  (tSeq (tAsg (tOp (rAddU Γ.K) (tVar 7) (tLst (tCons (tC (.str "terms 1 1 1 1")) (tCons (tC (.str "terms 1 5 1")) (tCons (tC (.str "terms 1 1 1 / / 1 1 1")) (tCons (tC (.str "terms -0 1 1")) (tCons (tC (.str "terms -1 1 1")) tNil))))))) (gName 7))
  (tSeq (tAsg (tOp (rAddU Γ.K) (tVar 7) (tLst (tCons (tC (.str "terms 1 -1 1")) (tCons (tC (.str "table -0")) (tCons (tC (.str "table 01")) (tCons (tC (.str "table 1000001")) (tCons (tC (.str "Terms")) (tCons (tC (.str " terms")) (tCons (tC (.str "table x / / 1")) tNil))))))))) (gName 7))
  (tSeq (tAsg (tOp (rAddU Γ.K) (tVar 7) (tLst (tCons (tC (.str "table  1")) (tCons (tC (.str "table - 1")) tNil)))) (gName 7))
  (tSeq (tAsg (tOp (rAddU Γ.K) (tOp (rAddU Γ.K) (tC (.str "terms")) (tOp rMulS (tC (.str " 1 1 1 /")) (tC (.int 5)))) (tC (.str " 1 1 1"))) (gName 8))
  (tSeq (tFor (iSeq Γ.K (tOp (rAddU Γ.K) (tVar 7) (tLst (tCons (tVar 8) (tCons (tOp (rAddU Γ.K) (tVar 8) (tC (.str " /"))) (tCons (tOp (rAddU Γ.K) (tVar 8) (tC (.str " / 1 1 1"))) (tCons (tOp (rAddU Γ.K) (tC (.str "table ")) (tVar 6)) (tCons (tOp (rAddU Γ.K) (tOp (rAddU Γ.K) (tC (.str "table ")) (tVar 6)) (tC (.str " 0"))) (tCons (tC (.str "terms 1000000 4 4")) tNil))))))))) (gName 4) (tSeq (tAsg (tCal (sp__law_wrong Γ) E0 (tCons (tVar 4) tNil)) (gName 5))
  (tIfS (tTest (tOp (rNeU Γ.K) (tCal (sp__law_told Γ) E0 (tCons (tVar 4) tNil)) (tIf (tTest (tOp rIsU (tVar 5) (tC .non))) (tLst tNil) (tLst (tCons (tVar 5) tNil))))) (tRet (tC (.bl false))) tNext)))
  (tSeq (tAsg (tLst (tCons (tTup (tCons (tC (.str "terms +1 1 1")) (tCons (tC (.int 1)) tNil))) (tCons (tTup (tCons (tC (.str "terms 1 1 1\n")) (tCons (tC (.int 3)) tNil))) (tCons (tTup (tCons (tC (.str "table 1_0")) (tCons (tC (.int 1)) tNil))) tNil)))) (gName 7))
  (tSeq (tFor (iSeq Γ.K (tOp (rAddU Γ.K) (tVar 7) (tLst (tCons (tTup (tCons (tOp (rAddU Γ.K) (tOp (rAddU Γ.K) (tC (.str "terms ")) (tOp rMulS (tC (.str "1")) (tC (.int 5000)))) (tC (.str " 1 1"))) (tCons (tC (.int 1)) tNil))) tNil)))) (gTup Γ.K 2 (gCons (gName 4) (gCons (gName 9) gNil))) (tIfS (tTest (tOp (rNeU Γ.K) (tCal (sp__law_told Γ) E0 (tCons (tVar 4) tNil)) (tLst (tCons (tVar 9) tNil)))) (tRet (tC (.bl false))) tNext))
  (tRet (tOp (rEqU Γ.K) (tLc (iSeq Γ.K (tLst (tCons (tC .non) (tCons (tC (.int 3)) (tCons (tC (.bl true)) (tCons (tLst tNil) (tCons (tTup tNil) (tCons tDNewK (tCons (tLst (tCons (tC (.str "terms")) tNil)) tNil))))))))) (gName 12) (tTest (tOp (rNeU Γ.K) (tCal (sp__law_told Γ) E0 (tCons (tVar 12) tNil)) (tLst (tCons (tC .non) tNil)))) (tVar 12) [12]) (tLst tNil)))))))))))))))
theorem rd_law_k23 (Γ : Gm) (vs : List V) (H : Hp) (Q : VK) (E : XK) (h : spLaw Γ.K vs H Q E) : t_law_k23 Γ ⟨fun _ H' => Q .non H', Q, fun _ _ => False, fun _ _ => False⟩ (startN 13 vs) H := by
  obtain ⟨a, ns, rfl, hS, hl, k⟩ := h
  unfold t_law_k23
  walk_at "ss"
  refine ⟨a, ns, 2823, rfl, hS, hl, by decide, by decide, fun d H1 hd0 e1 hd => ?_⟩
  walk_at "ss"
  refine k_rng1 (by decide) ?_
  refine k_range (fun i σ H' => ∃ x2 x3 x4 x5 x6 x7 x8 x9 x10 x11 x12, σ = [some (.ref a), some (.ref d), x2, x3, x4, x5, x6, x7, x8, x9, x10, x11, x12] ∧ Same H1 H') ⟨none, none, none, none, none, none, none, none, none, none, none, rfl, Same.refl H1⟩ ?_ ?_
  · rintro i σ H4 hi ⟨x2, x3, x4, x5, x6, x7, x8, x9, x10, x11, x12, rfl, e14⟩
    have d4 := e14 _ _ hd
    walk_at "ss"
    refine ⟨d, 5, rfl, d4, by decide, by decide, fun v r H4' e4 hr hfit => ?_⟩
    have hok := hr.okT
    have B := R.rowsB hok
    walk_at "ss"
    refine w_m1 ?_
    walk_at "ss"
    refine w_str ?_
    walk_at "ss"
    refine k_parts hr fun b ys hb tb => ?_
    obtain ⟨b', ys', eb, hb', tys⟩ := Tp.inv (ds := r.rows.map tupI) (by rw [R.body_rows] at tb; exact tb)
    cases eb
    rw [hb] at hb'
    cases hb'
    refine k_seqT (SqT.of hb) ?_
    refine k_lcTup (fun i acc _ => acc = ((r.rows.take i).map rowT).map V.str) (SqT.of hb) (fun _ _ => rfl) ?_ ?_
    · rintro i x D acc H5 hi hD e5 hacc rfl
      obtain ⟨c, row, rfl, hrow, hc⟩ := row_inv tys hi
      have Br := B.row row (List.mem_of_getElem? hrow)
      walk_at "ss"
      refine ⟨rfl, ?_⟩
      refine w_m1 ?_
      walk_at "ss"
      refine w_str ?_
      walk_at "ss"
      refine k_seqT (SqT.of (e5 _ _ hc)) ?_
      refine k_lcTup (fun j acc _ => acc = ((row.take j).map nStr).map V.str) (SqT.of (e5 _ _ hc)) (fun _ _ => rfl) ?_ ?_
      · rintro j y D2 acc2 H6 hj hD2 e6 hacc2 rfl
        rw [List.getElem?_map] at hj
        obtain ⟨n, hn, rfl⟩ := Option.map_eq_some_iff.mp hj
        have jl := (List.getElem?_eq_some_iff.mp hn).1
        walk_at "ss"
        refine ⟨rfl, ?_⟩
        walk_at "ss"
        refine w_strS (log2_small (Br.2.2 n (List.mem_of_getElem? hn))) ?_
        refine lcTurn.mk hD2 e6 hacc2 (by have := Br.2.1; rw [List.length_map, List.length_map, List.length_take]; omega) ?_
        rw [take_succ hn, List.map_append, List.map_append]
        rfl
      · rintro D2 acc2 H6 hD2 e6 hacc2 rfl
        rw [List.length_map, List.take_length] at hacc2
        walk_at "ss"
        refine w_joinL hacc2 ?_ ?_
        · have := join_sum (xs := row.map nStr) (m := 8) fun w hw => by
            obtain ⟨n, hn, rfl⟩ := List.mem_map.mp hw
            exact nStr_len (by have := Br.2.2 n hn; omega)
          rw [List.length_map] at this ⊢
          have := Br.2.1
          have e1 : (Str.ofString " ").length = 1 := by show sp1.length = 1; rw [len_tl, tl_sp1]; rfl
          rw [e1]
          omega
        · have il := (List.getElem?_eq_some_iff.mp hrow).1
          have := B.len
          refine lcTurn.mk hD (e5.trans e6) (e6 _ _ hacc) (by rw [List.length_map, List.length_map, List.length_take]; omega) ?_
          rw [take_succ hrow, List.map_append, List.map_append]
          rfl
    rintro D acc H5 hD e5 hacc rfl
    have ly : ys.length = r.rows.length := by rw [tys.length, List.length_map]
    rw [ly, List.take_length] at hacc
    have BL := B.len
    have s3 : (Str.ofString " / ").length = 3 := by show slS.length = 3; rw [len_tl, tl_slS]; rfl
    refine w_joinL hacc ?_ ?_
    · have := join_sum (xs := r.rows.map rowT) (m := 351) fun w hw => by
        obtain ⟨x, hx, rfl⟩ := List.mem_map.mp hw
        exact rowT_len (B.row x hx).2.1 (B.row x hx).2.2
      rw [List.length_map] at this ⊢
      rw [s3]
      omega
    rw [show Txt.join (Str.ofString " / ") (r.rows.map rowT) = rowsT r.rows from rfl]
    have hr5 := hr.mono e5
    walk_at "ss"
    refine k_kind hr5 ?_
    refine w_kText B (fun q => w_var (by with_unfolding_all rfl) q) ?_
    walk_at "ss"
    have tlen := textOf_len B
    have tasc : Asc (textOf r) := ascii_textOf fun x hx => (B.row x hx).1
    have e25 := e4.trans e5
    refine ⟨d, textOf r, rfl, e25 _ _ d4, by omega, tasc, fun u H6 e6 uz ua => ?_⟩
    walk_at "ss"
    refine ⟨u, rfl, uz, ua.cps, fun H7 e7 => ?_⟩
    walk_at "ss"
    generalize hx : wrongW (splitW u) = x
    refine ⟨.str u, .str u, x.map V.int, rfl, .str u, .inr ⟨u, rfl, uz, ua.cps, by rw [hx]⟩, fun l H8 e8 g8 => ?_⟩
    refine w_due (H0 := H8) g8 (fun q => w_var (by with_unfolding_all rfl) q) fun H9 e9 => ?_
    walk_at "ss"
    have e59 := e6.trans (e7.trans (e8.trans e9))
    rw [optV_isN]
    cases x with
    | some kk =>
      rw [show (some kk : Option Int).isNone = false from rfl]
      walk_at "ss"
      exact ⟨_, _, _, _, _, _, _, _, _, _, _, rfl, e14.trans (e25.trans e59)⟩
    | none =>
      rw [show (none : Option Int).isNone = true from rfl]
      walk_at "ss"
      have rr := read_wrong (splitW u)
      rw [hx] at rr
      refine ⟨_, rfl, .str _, .inr ⟨u, rfl, by omega, ua.cps, fun z hz => (by rw [hz] at rr; cases rr), fun r' hr' p6 HA eA RA => ?_⟩⟩
      walk_at "ss"
      refine ⟨.ref p6, r', rfl, RA, fun HB eB => ?_⟩
      walk_at "ss"
      rw [(read_text hr').1, decide_eq_true rfl]
      walk_at "ss"
      exact ⟨_, _, _, _, _, _, _, _, _, _, _, rfl, e14.trans (e25.trans (e59.trans (eA.trans eB)))⟩
  · rintro σ H2 ⟨x2, x3, x4, x5, x6, x7, x8, x9, x10, x11, x12, rfl, e2⟩
    walk_at "ss"
    refine w_m1 ?_
    walk_at "ss"
    refine w_str ?_
    walk_at "ss"
    refine n_lst fun q0 H3 f3 e3 g3 => ?_
    walk_at "ss"
    refine .inr (.inl ⟨q0, 39, _, rfl, rfl, g3, by decide, by decide, by rw [sizeLine_eq]; decide, fun p3 hp3 => ?_⟩)
    obtain ⟨wide, hwide⟩ : ∃ w, Txt.join (Str.ofString " ") (List.replicate 39 (Str.ofString "0")) = w := ⟨_, rfl⟩
    have zero_l : (Str.ofString "0").length = 1 := by rw [len_tl, tl_ofString]; rfl
    have one_l : (Str.ofString " ").length = 1 := by show sp1.length = 1; rw [len_tl, tl_sp1]; rfl
    have wide_a : Asc wide := by
      rw [← hwide]
      intro c hc
      rw [tlj] at hc
      rcases joinL_mem hc with z | ⟨p, hp, z⟩
      · rw [show tl (Str.ofString " ") = [32] from tl_sp1] at z
        rw [List.mem_singleton.mp z]
        decide
      · obtain ⟨w, hw, rfl⟩ := List.mem_map.mp hp
        rw [(List.mem_replicate.mp hw).2, tl_ofString] at z
        rw [List.mem_singleton.mp z]
        decide
    have wide_l : wide.length ≤ 100 := by
      rw [← hwide, len_tl, tlj]
      have := joinL_len (S := tl (Str.ofString " ")) (m := 1) (ps := (List.replicate 39 (Str.ofString "0")).map tl) fun p hp => by
        obtain ⟨w, hw, rfl⟩ := List.mem_map.mp hp
        rw [(List.mem_replicate.mp hw).2, ← len_tl, zero_l]
        exact Nat.le_refl _
      rw [List.length_map, List.length_replicate, ← len_tl, one_l] at this
      omega
    have E3 := Same.new (o := HO.lst (List.replicate (Int.toNat 39) [V.str (Str.ofString "0")]).flatten) hp3
    have g3' : upd H3 p3 (.lst (List.replicate (Int.toNat 39) [V.str (Str.ofString "0")]).flatten) p3 = some (.lst ((List.replicate 39 (Str.ofString "0")).map V.str)) := upd_same
    generalize upd H3 p3 (.lst (List.replicate (Int.toNat 39) [V.str (Str.ofString "0")]).flatten) = H4 at E3 g3' ⊢
    refine w_joinL g3' ?_ ?_
    · have := join_sum (xs := List.replicate 39 (Str.ofString "0")) (m := 1) fun w hw => by
        rw [(List.mem_replicate.mp hw).2, zero_l]
        exact Nat.le_refl _
      rw [List.length_replicate] at this ⊢
      rw [one_l]
      omega
    rw [hwide]
    walk_at "ss"
    refine n_lst fun p5 H5 f5 e5 g5 => ?_
    walk_at "ss"
    refine n_lst fun p6 H6 f6 e6 g6 => ?_
    refine w_addL (e6 _ _ g5) g6 (by rw [sizeLine_eq]; decide) fun p7 H7 f7 e7 g7 => ?_
    walk_at "ss"
    refine n_lst fun p8 H8 f8 e8 g8 => ?_
    refine w_addL (e8 _ _ g7) g8 (by rw [sizeLine_eq]; decide) fun p9 H9 f9 e9 g9 => ?_
    walk_at "ss"
    refine n_lst fun pA HA fA eA gA => ?_
    refine w_addL (eA _ _ g9) gA (by rw [sizeLine_eq]; decide) fun pB HB fB eB gB => ?_
    walk_at "ss"
    refine n_lst fun pC HC fC eC gC => ?_
    refine w_addL (eC _ _ gB) gC (by rw [sizeLine_eq]; decide) fun pD HD fD eD gD => ?_
    walk_at "ss"
    have gD' : HD pD = some (.lst (oddL.map V.str)) := gD
    have sA : AscB 8 (Str.ofString " 1 1 1 /") := lit_b rfl
    have sAl : (Str.ofString " 1 1 1 /").length = 8 := by rw [len_tl, tl_ofString]; rfl
    have sT : AscB 5 (Str.ofString "terms") := lit_b rfl
    have sB : AscB 6 (Str.ofString " 1 1 1") := lit_b rfl
    have sM : AscB (5 * 8) (Txt.mul (Str.ofString " 1 1 1 /") 5) := sA.mul (m := 5) (by decide) (by omega)
    refine ⟨_, _, rfl, rfl, mulOk5 (by omega), ?_⟩
    have z1 := sT.2
    have z2 := sM.2
    have z3 := sB.2
    refine w_addS (by rw [sizeLine_eq]; omega) ?_
    walk_at "ss"
    have sTM := sT.app sM
    have z4 := sTM.2
    refine w_addS (by rw [sizeLine_eq]; omega) ?_
    have s6 := (sTM.app sB).mono (show 5 + 5 * 8 + 6 ≤ 100 by decide)
    generalize Str.ofString "terms" ++ Txt.mul (Str.ofString " 1 1 1 /") 5 ++ Str.ofString " 1 1 1" = six at s6 ⊢
    have sW : AscB 100 wide := ⟨wide_a, wide_l⟩
    have z6 := s6.2
    walk_at "ss"
    have r1 : AscB 2 (Str.ofString " /") := lit_b rfl
    have r2 : AscB 8 (Str.ofString " / 1 1 1") := lit_b rfl
    have r3 : AscB 6 (Str.ofString "table ") := lit_b rfl
    have r4 : AscB 2 (Str.ofString " 0") := lit_b rfl
    have r5 : AscB 17 (Str.ofString "terms 1000000 4 4") := lit_b rfl
    have y1 := r1.2
    have y2 := r2.2
    have y3 := r3.2
    have y4 := r4.2
    have y5 := (r3.app sW).2
    refine w_addS (by rw [sizeLine_eq]; omega) ?_
    walk_at "ss"
    refine w_addS (by rw [sizeLine_eq]; omega) ?_
    walk_at "ss"
    refine w_addS (by rw [sizeLine_eq]; omega) ?_
    walk_at "ss"
    refine w_addS (by rw [sizeLine_eq]; omega) ?_
    walk_at "ss"
    refine w_addS (by rw [sizeLine_eq]; omega) ?_
    walk_at "ss"
    refine n_lst fun pE HE fE eE gE => ?_
    refine w_addL (eE _ _ gD') gE (by rw [sizeLine_eq, List.length_map]; show 28 + 6 ≤ 16777216; decide) fun pF HF fF eF gF => ?_
    obtain ⟨ts2, hts2⟩ : ∃ l : List Str, l = oddL ++ [six, six ++ Str.ofString " /", six ++ Str.ofString " / 1 1 1", Str.ofString "table " ++ wide, Str.ofString "table " ++ wide ++ Str.ofString " 0", Str.ofString "terms 1000000 4 4"] := ⟨_, rfl⟩
    have gF' : HF pF = some (.lst (ts2.map V.str)) := by rw [gF, hts2, List.map_append]; rfl
    have ok2 : ∀ t ∈ ts2, AscB 300 t := fun t ht => by
      rw [hts2] at ht
      rcases List.mem_append.mp ht with ht | ht
      · exact (odd_ok t ht).mono (by decide)
      · simp only [List.mem_cons, List.not_mem_nil, or_false] at ht
        rcases ht with rfl | rfl | rfl | rfl | rfl | rfl
        · exact s6.mono (by decide)
        · exact (s6.app r1).mono (by decide)
        · exact (s6.app r2).mono (by decide)
        · exact (r3.app sW).mono (by decide)
        · exact ((r3.app sW).app r4).mono (by decide)
        · exact r5.mono (by decide)
    refine k_seqL (SqL.of gF') ?_
    refine k_list (xs := ts2.map V.str) (fun _ σ H' => ∃ x4 x5, σ = [some (.ref a), some (.ref d), x2, x3, x4, x5, some (.str wide), some (.ref pD), some (.str six), x9, x10, x11, x12] ∧ Same HF H') ⟨_, _, rfl, Same.refl HF⟩ (fun j σ H' _ ⟨_, _, _, e⟩ => SqL.of (e _ _ gF')) ?_ ?_
    · rintro j x σ HG hx ⟨x4, x5, rfl, eG⟩
      rw [List.getElem?_map] at hx
      obtain ⟨t, ht, rfl⟩ := Option.map_eq_some_iff.mp hx
      have tok := ok2 t (List.mem_of_getElem? ht)
      have tl3 := tok.2
      walk_at "ss"
      refine ⟨t, rfl, by omega, tok.1.cps, fun HI eI => ?_⟩
      walk_at "ss"
      generalize hxx : wrongW (splitW t) = xx
      refine ⟨.str t, .str t, xx.map V.int, rfl, .str t, .inr ⟨t, rfl, by omega, tok.1.cps, by rw [hxx]⟩, fun l HJ eJ gJ => ?_⟩
      refine w_due (H0 := HJ) gJ (fun q => w_var (by with_unfolding_all rfl) q) fun HK eK => ?_
      walk_at "ss"
      exact ⟨_, _, rfl, eG.trans (eI.trans (eJ.trans eK))⟩
    rintro σ HG ⟨x4', x5', rfl, eG⟩
    walk_at "ss"
    refine n_tup fun q1 HH fH eH gH => ?_
    walk_at "ss"
    refine n_tup fun q2 HI fI eI gI => ?_
    walk_at "ss"
    refine n_tup fun q3 HJ fJ eJ gJ => ?_
    walk_at "ss"
    refine n_lst fun q4 HK fK eK gK => ?_
    walk_at "ss"
    have sO : (Str.ofString "1").length = 1 := by rw [len_tl, tl_ofString]; rfl
    have sOb : AscB 1 (Str.ofString "1") := lit_b rfl
    refine ⟨_, _, rfl, rfl, mulOk5000 (by omega), ?_⟩
    have mO : AscB (5000 * 1) (Txt.mul (Str.ofString "1") 5000) := sOb.mul (m := 5000) (by decide) (by omega)
    have tO : tl (Txt.mul (Str.ofString "1") 5000) = (List.replicate 5000 [49]).flatten := by
      have := tl_mul (z := Str.ofString "1") (n := 5000) (by decide) (by omega)
      rw [one_fig] at this
      exact this
    generalize Txt.mul (Str.ofString "1") 5000 = ones at mO tO ⊢
    have u1 : AscB 6 (Str.ofString "terms ") := lit_b rfl
    have u2 : AscB 4 (Str.ofString " 1 1") := lit_b rfl
    have u3 := (u1.app mO).app u2
    have v1 := u1.2
    have v2 := mO.2
    have v3 := (u1.app mO).2
    have v4 := u2.2
    refine w_addS (by rw [sizeLine_eq]; omega) ?_
    walk_at "ss"
    refine w_addS (by rw [sizeLine_eq]; omega) ?_
    walk_at "ss"
    refine n_tup fun q5 HL fL eL gL => ?_
    walk_at "ss"
    refine n_lst fun q6 HM fM eM gM => ?_
    refine w_addL ((eL.trans eM) _ _ gK) gM (by rw [sizeLine_eq]; show 3 + 1 ≤ 16777216; decide) fun q7 HN fN eN gN => ?_
    have eLN := eL.trans (eM.trans eN)
    have all3 : ∀ x ∈ ([V.ref q1, V.ref q2, V.ref q3] ++ [V.ref q5]), ∃ q t kk, x = .ref q ∧ HN q = some (.tup [.str t, .int kk]) ∧ wrongW (splitW t) = some kk ∧ AscB 6000 t := fun x hx => by
      simp only [List.cons_append, List.nil_append, List.mem_cons, List.not_mem_nil, or_false] at hx
      rcases hx with rfl | rfl | rfl | rfl
      · exact ⟨q1, _, _, rfl, (eI.trans (eJ.trans (eK.trans eLN))) _ _ gH, odd1, (lit_b (n := 100) rfl).mono (by decide)⟩
      · exact ⟨q2, _, _, rfl, (eJ.trans (eK.trans eLN)) _ _ gI, odd2, (lit_b (n := 100) rfl).mono (by decide)⟩
      · exact ⟨q3, _, _, rfl, (eK.trans eLN) _ _ gJ, odd3, (lit_b (n := 100) rfl).mono (by decide)⟩
      · refine ⟨q5, _, _, rfl, (eM.trans eN) _ _ gL, odd4 (w := ones) (by rw [tl_append, tl_append]) (fun z => ?_) ?_, u3.mono (by decide)⟩
        · rw [tO] at z
          have := flat_mem z
          exact absurd (List.mem_singleton.mp this) (by decide)
        · have ln : (tl ones).length = 5000 := by rw [tO]; simp
          have fl : 7 < (figs (tl ones)).length := by
            unfold figs
            split
            · rw [List.length_drop]; omega
            · omega
          unfold canon
          rw [decide_eq_false (show ¬ (figs (tl ones)).length ≤ 7 by omega)]
          simp
    refine k_seqL (SqL.of gN) ?_
    refine k_list (xs := [V.ref q1, V.ref q2, V.ref q3] ++ [V.ref q5]) (fun _ σ H' => ∃ x4 x9, σ = [some (.ref a), some (.ref d), x2, x3, x4, x5', some (.str wide), some (.ref q4), some (.str six), x9, x10, x11, x12] ∧ Same HN H') ⟨_, _, rfl, Same.refl HN⟩ (fun j σ H' _ ⟨_, _, _, e⟩ => SqL.of (e _ _ gN)) ?_ ?_
    · rintro j x σ HO' hx ⟨x4, x9, rfl, eO⟩
      obtain ⟨q, t, kk, rfl, gq, hxx, tok⟩ := all3 x (List.mem_of_getElem? hx)
      have tl3 := tok.2
      refine w_gTup (SqT.of (eO _ _ gq)) rfl ?_
      walk_at "ss"
      refine ⟨.str t, .str t, some (.int kk), rfl, .str t, .inr ⟨t, rfl, by omega, tok.1.cps, by rw [hxx]; rfl⟩, fun l HP eP gP => ?_⟩
      walk_at "ss"
      refine n_lst fun p HQ fQ eQ gQ => ?_
      refine ne_same (.lst (eQ _ _ gP) (.cons (.int kk) .nil)) (.lst gQ (.cons (.int kk) .nil)) (flat_l1 kk) (pure_l1 kk) ?_
      walk_at "ss"
      exact ⟨_, _, rfl, eO.trans (eP.trans eQ)⟩
    rintro σ HO' ⟨x4, x9, rfl, eO⟩
    walk_at "ss"
    refine n_lst fun r1 HP fP eP gP => ?_
    walk_at "ss"
    refine n_tup fun r2 HQ fQ eQ gQ => ?_
    walk_at "ss"
    refine w_dnewK fun r3 HR fR eR gR => ?_
    walk_at "ss"
    refine n_lst fun r4 HS fS eS gS => ?_
    walk_at "ss"
    refine n_lst fun rL HT fT eT gT => ?_
    have all7 : ∀ x ∈ [V.non, .int 3, .bl true, .ref r1, .ref r2, .ref r3, .ref r4], ∃ dd, Dv HT x dd ∧ ∀ t, dd ≠ .str t := fun x hx => by
      simp only [List.mem_cons, List.not_mem_nil, or_false] at hx
      rcases hx with rfl | rfl | rfl | rfl | rfl | rfl | rfl
      · exact ⟨_, .non, fun t z => nomatch z⟩
      · exact ⟨_, .int 3, fun t z => nomatch z⟩
      · exact ⟨_, .bl true, fun t z => nomatch z⟩
      · exact ⟨_, .lst ((eQ.trans (eR.trans (eS.trans eT))) _ _ gP) .nil, fun t z => nomatch z⟩
      · exact ⟨_, .tup ((eR.trans (eS.trans eT)) _ _ gQ) .nil, fun t z => nomatch z⟩
      · exact ⟨_, .dict ((eS.trans eT) _ _ gR), fun t z => nomatch z⟩
      · exact ⟨_, .lst (eT _ _ gS) (.cons (.str _) .nil), fun t z => nomatch z⟩
    refine k_seqL (SqL.of gT) ?_
    refine k_lcListT (fun _ acc _ => acc = []) (SqL.of gT) (fun _ _ => rfl) ?_ ?_
    · rintro j x D acc HU hx hD eU hacc rfl
      obtain ⟨dd, hdv, hn⟩ := all7 x (List.mem_of_getElem? hx)
      walk_at "ss"
      refine ⟨rfl, ?_⟩
      walk_at "ss"
      refine ⟨x, dd, some .non, rfl, hdv.mono eU, .inl ⟨hn, rfl⟩, fun l HV eV gV => ?_⟩
      walk_at "ss"
      refine n_lst fun p HW fW eW gW => ?_
      refine ne_same (.lst (eW _ _ gV) (.cons .non .nil)) (.lst gW (.cons .non .nil)) flat_ln pure_ln ?_
      refine ⟨_, rfl, ?_⟩
      refine w_iteF ?_
      exact ⟨[], hD, eU.trans (eV.trans eW), (eV.trans eW) _ _ hacc, rfl⟩
    · rintro D acc HU hD eU hacc rfl
      walk_at "ss"
      refine n_lst fun p HV fV eV gV => ?_
      exact eq_sameT (.lst (eV _ _ hacc) .nil) (.lst gV .nil) flat_l0 pure_l0 (k HV)


/-- a def of the top -/
def DefAt (K : PySem.W.Frag) (mg : Str → Option Value) (x qual : Str) (st : Stmt) : Prop := ∃ (f : Addr) (fd : FuncData), mg x = some (.ref f) ∧ Fun K x qual st f fd
def FunAt (K : PySem.W.Frag) (x qual : Str) (st : Stmt) (f : Addr) : Prop := ∃ fd : FuncData, Fun K x qual st f fd
theorem def_mk {K : PySem.W.Frag} {h : Heap} {mg : Str → Option Value} {x qual : Str} {st : Stmt} {f : Addr} {oc : Value} {od an : Option Addr} {osl : Array (Option Value)} {kV doc pm cdv ct : Value} (X : K.In h) (G : h.Ns mainGlobals mg)
    (a : PySem.W.nsIn K mainGlobals x = some (some (.ref f))) (l : K.lookup f = some ⟨oc, od, .func (PySem.W.fnOf x qual (defArgs st) (defBody st) (defScope st) .none kV doc pm an cdv ct), osl⟩)
    (c : PySem.W.codeIn K cdv qual = true) (k : PySem.W.keepIn K (.ref f) = true) : DefAt K mg x qual st := ⟨f, _, PySem.W.mg_of X G a, fun_mk l c k⟩
/-- is an error of the class at C one that «except S» names -/
theorem exm_of {K : PySem.W.Frag} {C S : Addr} {b : Bool} (h1 : PySem.W.subIn K (.ref S) (.type "BaseException") = some true) (h2 : PySem.W.isClsIn K S = true) (h3 : PySem.W.typeIn K (.ref S) = some (.type "type")) (h4 : PySem.W.subIn K (.ref C) (.ref S) = some b) :
    PySem.W.exmOne K (.ref C) (.ref S) = some b := by
  have e1 : (PySem.W.subIn K (.ref S) (.type "BaseException") == some true) = true := by rw [h1] <;> rfl
  have e2 : ((PySem.W.clsIn K S).isSome && PySem.W.typeIn K (.ref S) == some (.type "type")) = true := by
    have h2' : (PySem.W.clsIn K S).isSome = true := h2
    rw [h2', h3] <;> rfl
  show (if (PySem.W.subIn K (.ref S) (.type "BaseException") == some true) = true then (if ((PySem.W.clsIn K S).isSome && PySem.W.typeIn K (.ref S) == some (.type "type")) = true then PySem.W.subIn K (.ref C) (.ref S) else none) else none) = some b
  rw [if_pos e1, if_pos e2]
  exact h4
theorem funat_mk {K : PySem.W.Frag} {x qual : Str} {st : Stmt} {f : Addr} {oc : Value} {od an : Option Addr} {osl : Array (Option Value)} {kV doc pm cdv ct : Value}
    (l : K.lookup f = some ⟨oc, od, .func (PySem.W.fnOf x qual (defArgs st) (defBody st) (defScope st) .none kV doc pm an cdv ct), osl⟩)
    (c : PySem.W.codeIn K cdv qual = true) (k : PySem.W.keepIn K (.ref f) = true) : FunAt K x qual st f := ⟨_, fun_mk l c k⟩
/-! ### the text by places -/
def top (i : Nat) : Stmt := PySem.Challenge.pw_splitpoints_k23_whole_texts_refused.main.body.getD i (.Pass ⟨0, 0, 0, 0⟩)
abbrev s_is_integer : Stmt := top 9
abbrev N_is_integer : List Str := ["value"]
theorem sc_is_integer : FnScope N_is_integer ["value"] (defScope s_is_integer) := ⟨rfl, rfl, rfl, by decide +kernel, rfl, by decide +kernel, by decide +kernel⟩
theorem b_is_integer {K : PySem.W.Frag} {f : Addr} {fd : FuncData} (F : Fun K "is_integer" "is_integer" s_is_integer f fd) : Binds K fd ["value"] [] := F.binds (ps := ["value"]) fun _ _ _ _ _ _ us hl => match us, hl with | [_], _ => rfl
abbrev s_is_from : Stmt := top 10
abbrev N_is_from : List Str := ["value", "low", "high"]
theorem sc_is_from : FnScope N_is_from ["value", "low", "high"] (defScope s_is_from) := ⟨rfl, rfl, rfl, by decide +kernel, rfl, by decide +kernel, by decide +kernel⟩
theorem b_is_from {K : PySem.W.Frag} {f : Addr} {fd : FuncData} (F : Fun K "is_from" "is_from" s_is_from f fd) : Binds K fd ["value", "low", "high"] [] := F.binds (ps := ["value", "low", "high"]) fun _ _ _ _ _ _ us hl => match us, hl with | [_, _, _], _ => rfl
abbrev s_are_rows : Stmt := top 11
abbrev N_are_rows : List Str := ["value", "index", "row", "number"]
theorem sc_are_rows : FnScope N_are_rows ["value"] (defScope s_are_rows) := ⟨rfl, rfl, rfl, by decide +kernel, rfl, by decide +kernel, by decide +kernel⟩
theorem b_are_rows {K : PySem.W.Frag} {f : Addr} {fd : FuncData} (F : Fun K "are_rows" "are_rows" s_are_rows f fd) : Binds K fd ["value"] [] := F.binds (ps := ["value"]) fun _ _ _ _ _ _ us hl => match us, hl with | [_], _ => rfl
abbrev s_is_term : Stmt := top 12
abbrev N_is_term : List Str := ["value"]
theorem sc_is_term : FnScope N_is_term ["value"] (defScope s_is_term) := ⟨rfl, rfl, rfl, by decide +kernel, rfl, by decide +kernel, by decide +kernel⟩
theorem b_is_term {K : PySem.W.Frag} {f : Addr} {fd : FuncData} (F : Fun K "is_term" "is_term" s_is_term f fd) : Binds K fd ["value"] [] := F.binds (ps := ["value"]) fun _ _ _ _ _ _ us hl => match us, hl with | [_], _ => rfl
abbrev s_are_terms : Stmt := top 13
abbrev N_are_terms : List Str := ["value", "term"]
theorem sc_are_terms : FnScope N_are_terms ["value"] (defScope s_are_terms) := ⟨rfl, rfl, rfl, by decide +kernel, rfl, by decide +kernel, by decide +kernel⟩
theorem b_are_terms {K : PySem.W.Frag} {f : Addr} {fd : FuncData} (F : Fun K "are_terms" "are_terms" s_are_terms f fd) : Binds K fd ["value"] [] := F.binds (ps := ["value"]) fun _ _ _ _ _ _ us hl => match us, hl with | [_], _ => rfl
abbrev s_RuleU_initU : Stmt := inClass (top 14) 0
abbrev N_RuleU_initU : List Str := ["self", "kind", "parts"]
theorem sc_RuleU_initU : FnScope N_RuleU_initU ["self", "kind", "parts"] (defScope s_RuleU_initU) := ⟨rfl, rfl, rfl, by decide +kernel, rfl, by decide +kernel, by decide +kernel⟩
theorem b_RuleU_initU {K : PySem.W.Frag} {f : Addr} {fd : FuncData} (F : Fun K "__init__" "Rule.__init__" s_RuleU_initU f fd) : Binds K fd ["self", "kind", "parts"] [] := F.binds (ps := ["self", "kind", "parts"]) fun _ _ _ _ _ _ us hl => match us, hl with | [_, _, _], _ => rfl
abbrev s_BadTextU_initU : Stmt := inClass (top 3) 0
abbrev N_BadTextU_initU : List Str := ["self", "word"]
theorem sc_BadTextU_initU : FnScope N_BadTextU_initU ["self", "word"] (defScope s_BadTextU_initU) := ⟨rfl, rfl, rfl, by decide +kernel, rfl, by decide +kernel, by decide +kernel⟩
theorem b_BadTextU_initU {K : PySem.W.Frag} {f : Addr} {fd : FuncData} (F : Fun K "__init__" "BadText.__init__" s_BadTextU_initU f fd) : Binds K fd ["self", "word"] [] := F.binds (ps := ["self", "word"]) fun _ _ _ _ _ _ us hl => match us, hl with | [_, _], _ => rfl
abbrev s_write : Stmt := top 18
abbrev N_write : List Str := ["rule", "rows", "row", "number"]
theorem sc_write : FnScope N_write ["rule"] (defScope s_write) := ⟨rfl, rfl, rfl, by decide +kernel, rfl, by decide +kernel, by decide +kernel⟩
theorem b_write {K : PySem.W.Frag} {f : Addr} {fd : FuncData} (F : Fun K "write" "write" s_write f fd) : Binds K fd ["rule"] [] := F.binds (ps := ["rule"]) fun _ _ _ _ _ _ us hl => match us, hl with | [_], _ => rfl
abbrev s_number_in : Stmt := top 19
abbrev N_number_in : List Str := ["word", "low", "high", "figures", "sign"]
theorem sc_number_in : FnScope N_number_in ["word", "low", "high"] (defScope s_number_in) := ⟨rfl, rfl, rfl, by decide +kernel, rfl, by decide +kernel, by decide +kernel⟩
theorem b_number_in {K : PySem.W.Frag} {f : Addr} {fd : FuncData} (F : Fun K "number_in" "number_in" s_number_in f fd) : Binds K fd ["word", "low", "high"] [] := F.binds (ps := ["word", "low", "high"]) fun _ _ _ _ _ _ us hl => match us, hl with | [_, _, _], _ => rfl
abbrev s_rows_in : Stmt := top 20
abbrev N_rows_in : List Str := ["words", "found", "at", "word"]
theorem sc_rows_in : FnScope N_rows_in ["words"] (defScope s_rows_in) := ⟨rfl, rfl, rfl, by decide +kernel, rfl, by decide +kernel, by decide +kernel⟩
theorem b_rows_in {K : PySem.W.Frag} {f : Addr} {fd : FuncData} (F : Fun K "rows_in" "rows_in" s_rows_in f fd) : Binds K fd ["words"] [] := F.binds (ps := ["words"]) fun _ _ _ _ _ _ us hl => match us, hl with | [_], _ => rfl
abbrev s_terms_in : Stmt := top 21
abbrev N_terms_in : List Str := ["rows", "empty", "found", "row", "numbers", "place", "at", "word", "low", "high", "number"]
theorem sc_terms_in : FnScope N_terms_in ["rows", "empty"] (defScope s_terms_in) := ⟨rfl, rfl, rfl, by decide +kernel, rfl, by decide +kernel, by decide +kernel⟩
theorem b_terms_in {K : PySem.W.Frag} {f : Addr} {fd : FuncData} (F : Fun K "terms_in" "terms_in" s_terms_in f fd) : Binds K fd ["rows", "empty"] [] := F.binds (ps := ["rows", "empty"]) fun _ _ _ _ _ _ us hl => match us, hl with | [_, _], _ => rfl
abbrev s_table_in : Stmt := top 22
abbrev N_table_in : List Str := ["rows", "empty", "found", "due", "row", "numbers", "place", "at", "word", "number"]
theorem sc_table_in : FnScope N_table_in ["rows", "empty"] (defScope s_table_in) := ⟨rfl, rfl, rfl, by decide +kernel, rfl, by decide +kernel, by decide +kernel⟩
theorem b_table_in {K : PySem.W.Frag} {f : Addr} {fd : FuncData} (F : Fun K "table_in" "table_in" s_table_in f fd) : Binds K fd ["rows", "empty"] [] := F.binds (ps := ["rows", "empty"]) fun _ _ _ _ _ _ us hl => match us, hl with | [_, _], _ => rfl
abbrev s_read : Stmt := top 23
abbrev N_read : List Str := ["text", "words", "rows", "empty"]
theorem sc_read : FnScope N_read ["text"] (defScope s_read) := ⟨rfl, rfl, rfl, by decide +kernel, rfl, by decide +kernel, by decide +kernel⟩
theorem b_read {K : PySem.W.Frag} {f : Addr} {fd : FuncData} (F : Fun K "read" "read" s_read f fd) : Binds K fd ["text"] [] := F.binds (ps := ["text"]) fun _ _ _ _ _ _ us hl => match us, hl with | [_], _ => rfl
abbrev s__law_random : Stmt := top 25
abbrev N__law_random : List Str := ["_law_script", "_law_salt", "_law_seed", "_law_cell"]
theorem sc__law_random : FnScope N__law_random ["_law_script", "_law_salt"] (defScope s__law_random) := ⟨rfl, rfl, rfl, by decide +kernel, rfl, by decide +kernel, by decide +kernel⟩
theorem b__law_random {K : PySem.W.Frag} {f : Addr} {fd : FuncData} (F : Fun K "_law_random" "_law_random" s__law_random f fd) : Binds K fd ["_law_script", "_law_salt"] [] := F.binds (ps := ["_law_script", "_law_salt"]) fun _ _ _ _ _ _ us hl => match us, hl with | [_, _], _ => rfl
abbrev s__law_below : Stmt := top 26
abbrev N__law_below : List Str := ["_law_d", "_law_size", "_law_result"]
theorem sc__law_below : FnScope N__law_below ["_law_d", "_law_size"] (defScope s__law_below) := ⟨rfl, rfl, rfl, by decide +kernel, rfl, by decide +kernel, by decide +kernel⟩
theorem b__law_below {K : PySem.W.Frag} {f : Addr} {fd : FuncData} (F : Fun K "_law_below" "_law_below" s__law_below f fd) : Binds K fd ["_law_d", "_law_size"] [] := F.binds (ps := ["_law_d", "_law_size"]) fun _ _ _ _ _ _ us hl => match us, hl with | [_, _], _ => rfl
abbrev s__law_pick : Stmt := top 27
abbrev N__law_pick : List Str := ["_law_d", "_law_items"]
theorem sc__law_pick : FnScope N__law_pick ["_law_d", "_law_items"] (defScope s__law_pick) := ⟨rfl, rfl, rfl, by decide +kernel, rfl, by decide +kernel, by decide +kernel⟩
theorem b__law_pick {K : PySem.W.Frag} {f : Addr} {fd : FuncData} (F : Fun K "_law_pick" "_law_pick" s__law_pick f fd) : Binds K fd ["_law_d", "_law_items"] [] := F.binds (ps := ["_law_d", "_law_items"]) fun _ _ _ _ _ _ us hl => match us, hl with | [_, _], _ => rfl
abbrev s__law_table : Stmt := top 28
abbrev N__law_table : List Str := ["_law_d", "_law_most", "_law_kind", "_law_due", "_law_rows", "_law_one", "_law_row", "_law_other", "_law_k"]
theorem sc__law_table : FnScope N__law_table ["_law_d", "_law_most"] (defScope s__law_table) := ⟨rfl, rfl, rfl, by decide +kernel, rfl, by decide +kernel, by decide +kernel⟩
theorem b__law_table {K : PySem.W.Frag} {f : Addr} {fd : FuncData} (F : Fun K "_law_table" "_law_table" s__law_table f fd) : Binds K fd ["_law_d", "_law_most"] [] := F.binds (ps := ["_law_d", "_law_most"]) fun _ _ _ _ _ _ us hl => match us, hl with | [_, _], _ => rfl
abbrev s__law_terms : Stmt := top 29
abbrev N__law_terms : List Str := ["_law_d", "_law_number_here", "_law_kind", "_law_found"]
theorem sc__law_terms : FnScope N__law_terms ["_law_d"] (defScope s__law_terms) := ⟨rfl, rfl, rfl, by decide +kernel, rfl, by decide +kernel, by decide +kernel⟩
theorem b__law_terms {K : PySem.W.Frag} {f : Addr} {fd : FuncData} (F : Fun K "_law_terms" "_law_terms" s__law_terms f fd) : Binds K fd ["_law_d"] [] := F.binds (ps := ["_law_d"]) fun _ _ _ _ _ _ us hl => match us, hl with | [_], _ => rfl
abbrev s__law_rule : Stmt := top 30
abbrev N__law_rule : List Str := ["_law_d", "_law_most"]
theorem sc__law_rule : FnScope N__law_rule ["_law_d", "_law_most"] (defScope s__law_rule) := ⟨rfl, rfl, rfl, by decide +kernel, rfl, by decide +kernel, by decide +kernel⟩
theorem b__law_rule {K : PySem.W.Frag} {f : Addr} {fd : FuncData} (F : Fun K "_law_rule" "_law_rule" s__law_rule f fd) : Binds K fd ["_law_d", "_law_most"] [] := F.binds (ps := ["_law_d", "_law_most"]) fun _ _ _ _ _ _ us hl => match us, hl with | [_, _], _ => rfl
abbrev s__law_number : Stmt := top 33
abbrev N__law_number : List Str := ["_law_word", "_law_low", "_law_high", "_law_figures", "_law_sign"]
theorem sc__law_number : FnScope N__law_number ["_law_word", "_law_low", "_law_high"] (defScope s__law_number) := ⟨rfl, rfl, rfl, by decide +kernel, rfl, by decide +kernel, by decide +kernel⟩
theorem b__law_number {K : PySem.W.Frag} {f : Addr} {fd : FuncData} (F : Fun K "_law_number" "_law_number" s__law_number f fd) : Binds K fd ["_law_word", "_law_low", "_law_high"] [] := F.binds (ps := ["_law_word", "_law_low", "_law_high"]) fun _ _ _ _ _ _ us hl => match us, hl with | [_, _, _], _ => rfl
abbrev s__law_term_wrong : Stmt := top 34
abbrev N__law_term_wrong : List Str := ["_law_words_so", "_law_k", "_law_place", "_law_bounds"]
theorem sc__law_term_wrong : FnScope N__law_term_wrong ["_law_words_so"] (defScope s__law_term_wrong) := ⟨rfl, rfl, rfl, by decide +kernel, rfl, by decide +kernel, by decide +kernel⟩
theorem b__law_term_wrong {K : PySem.W.Frag} {f : Addr} {fd : FuncData} (F : Fun K "_law_term_wrong" "_law_term_wrong" s__law_term_wrong f fd) : Binds K fd ["_law_words_so"] [] := F.binds (ps := ["_law_words_so"]) fun _ _ _ _ _ _ us hl => match us, hl with | [_], _ => rfl
abbrev s__law_table_wrong : Stmt := top 35
abbrev N__law_table_wrong : List Str := ["_law_words_so", "_law_due", "_law_here", "_law_is_first", "_law_k", "_law_is_whole"]
theorem sc__law_table_wrong : FnScope N__law_table_wrong ["_law_words_so"] (defScope s__law_table_wrong) := ⟨rfl, rfl, rfl, by decide +kernel, rfl, by decide +kernel, by decide +kernel⟩
theorem b__law_table_wrong {K : PySem.W.Frag} {f : Addr} {fd : FuncData} (F : Fun K "_law_table_wrong" "_law_table_wrong" s__law_table_wrong f fd) : Binds K fd ["_law_words_so"] [] := F.binds (ps := ["_law_words_so"]) fun _ _ _ _ _ _ us hl => match us, hl with | [_], _ => rfl
abbrev s__law_wrong : Stmt := top 36
abbrev N__law_wrong : List Str := ["_law_text", "_law_words_so"]
theorem sc__law_wrong : FnScope N__law_wrong ["_law_text"] (defScope s__law_wrong) := ⟨rfl, rfl, rfl, by decide +kernel, rfl, by decide +kernel, by decide +kernel⟩
theorem b__law_wrong {K : PySem.W.Frag} {f : Addr} {fd : FuncData} (F : Fun K "_law_wrong" "_law_wrong" s__law_wrong f fd) : Binds K fd ["_law_text"] [] := F.binds (ps := ["_law_text"]) fun _ _ _ _ _ _ us hl => match us, hl with | [_], _ => rfl
abbrev s__law_spoilt : Stmt := top 37
abbrev N__law_spoilt : List Str := ["_law_d", "_law_text", "_law_kind", "_law_at", "_law_sign"]
theorem sc__law_spoilt : FnScope N__law_spoilt ["_law_d", "_law_text"] (defScope s__law_spoilt) := ⟨rfl, rfl, rfl, by decide +kernel, rfl, by decide +kernel, by decide +kernel⟩
theorem b__law_spoilt {K : PySem.W.Frag} {f : Addr} {fd : FuncData} (F : Fun K "_law_spoilt" "_law_spoilt" s__law_spoilt f fd) : Binds K fd ["_law_d", "_law_text"] [] := F.binds (ps := ["_law_d", "_law_text"]) fun _ _ _ _ _ _ us hl => match us, hl with | [_, _], _ => rfl
abbrev s__law_told : Stmt := top 38
abbrev N__law_told : List Str := ["_law_text", "_law_found", "e"]
theorem sc__law_told : FnScope N__law_told ["_law_text"] (defScope s__law_told) := ⟨rfl, rfl, rfl, by decide +kernel, rfl, by decide +kernel, by decide +kernel⟩
theorem b__law_told {K : PySem.W.Frag} {f : Addr} {fd : FuncData} (F : Fun K "_law_told" "_law_told" s__law_told f fd) : Binds K fd ["_law_text"] [] := F.binds (ps := ["_law_text"]) fun _ _ _ _ _ _ us hl => match us, hl with | [_], _ => rfl
abbrev s_law : Stmt := top 39
abbrev N_law : List Str := ["_law_script", "_law_d", "_law_turn", "_law_rule_here", "_law_text", "_law_due", "_law_wide", "_law_odd", "_law_six", "_law_at", "_law_row", "_law_number_here", "_law_value"]
theorem sc_law : FnScope N_law ["_law_script"] (defScope s_law) := ⟨rfl, rfl, rfl, by decide +kernel, rfl, by decide +kernel, by decide +kernel⟩
theorem b_law {K : PySem.W.Frag} {f : Addr} {fd : FuncData} (F : Fun K "law" "law" s_law f fd) : Binds K fd ["_law_script"] [] := F.binds (ps := ["_law_script"]) fun _ _ _ _ _ _ us hl => match us, hl with | [_], _ => rfl
/-! ### what the top has written -/
structure TX (Γ : Gm) (mg : Str → Option Value) : Prop where
  b_abs : mg "abs" = none
  b_all : mg "all" = none
  b_bool : mg "bool" = none
  b_enumerate : mg "enumerate" = none
  b_int : mg "int" = none
  b_isinstance : mg "isinstance" = none
  b_len : mg "len" = none
  b_list : mg "list" = none
  b_min : mg "min" = none
  b_range : mg "range" = none
  b_str : mg "str" = none
  b_tuple : mg "tuple" = none
  c_MOST_TABLE : ∃ t, mg "MOST_TABLE" = some (.int 40 t)
  c_MOST_POINTS : ∃ t, mg "MOST_POINTS" = some (.int 1000000 t)
  c_MOST_TERMS : ∃ t, mg "MOST_TERMS" = some (.int 6 t)
  c_MOST_EXPONENT : ∃ t, mg "MOST_EXPONENT" = some (.int 4 t)
  c_FIGURES : ∃ t, mg "FIGURES" = some (.str "0123456789" t)
  c_SIGN : ∃ t, mg "SIGN" = some (.str "/" t)
  x_BadRule : ExcF Γ.K mg "BadRule" Γ.cBadRule
  m_BadText : mg "BadText" = some (.ref Γ.cBadText)
  e_BadText_BadText : PySem.W.exmOne Γ.K (.ref Γ.cBadText) (.ref Γ.cBadText) = some true
  rule : RuleF Γ
  err_BadText : ErrF Γ.K Γ.cBadText "word"
section
variable {P : Program} {w : World} {mg : Str → Option Value} {base : Heap} {Γ : Gm}
theorem ok_is_integer {f : Addr} {fd : FuncData} (F : Fun Γ.K "is_integer" "is_integer" s_is_integer f fd) (T : TX Γ mg) : FnOk P w Γ.K mg base CX0 1 f fd ["value"] (sp_is_integer Γ) := by
  have nd := sc_is_integer.nd
  refine F.ok sc_is_integer (fun vs H Q E h => ?_) (fun cdv A outer s H vs Q E hr h => ⟨t_is_integer Γ, ?_, rd_is_integer Γ  vs H Q E h⟩)
  · repeat (first | (obtain ⟨rfl, _⟩ := h; rfl) | (obtain ⟨_, h⟩ := h))
  · have hu := hr.units
    exact (pss_one (ps_ret (pe_and (pe_callB call_isi (by rfl) T.b_isinstance (by decide +kernel) (pa_cons (pv 0) (pa_cons (pe_bltn (by rfl) T.b_int (by decide +kernel) (v := .ty "int") rfl) pa_nil))) (pe_one (pe_not (pe_callB call_isi (by rfl) T.b_isinstance (by decide +kernel) (pa_cons (pv 0) (pa_cons (pe_bltn (by rfl) T.b_bool (by decide +kernel) (v := .ty "bool") rfl) pa_nil))))))))
theorem ok_is_from {f : Addr} {fd : FuncData} (F : Fun Γ.K "is_from" "is_from" s_is_from f fd) (T : TX Γ mg) (c_is_integer : Cal P w Γ.K mg base CX0 "is_integer" 1 ["value"] (sp_is_integer Γ)) : FnOk P w Γ.K mg base CX0 2 f fd ["value", "low", "high"] (sp_is_from Γ) := by
  have nd := sc_is_from.nd
  refine F.ok sc_is_from (fun vs H Q E h => ?_) (fun cdv A outer s H vs Q E hr h => ⟨t_is_from Γ, ?_, rd_is_from Γ  vs H Q E h⟩)
  · repeat (first | (obtain ⟨rfl, _⟩ := h; rfl) | (obtain ⟨_, h⟩ := h))
  · have hu := hr.units
    exact (pss_one (ps_ret (pe_and (pe_cal c_is_integer (hr.mono (by omega)) (by rfl) pass0 (pa_cons (pv 0) pa_nil)) (pe_one (pe_chain op_leU op_leU (pv 1) (pv 0) (pv 2))))))
theorem ok_are_rows {f : Addr} {fd : FuncData} (F : Fun Γ.K "are_rows" "are_rows" s_are_rows f fd) (T : TX Γ mg) (c_is_from : Cal P w Γ.K mg base CX0 "is_from" 2 ["value", "low", "high"] (sp_is_from Γ)) : FnOk P w Γ.K mg base CX0 3 f fd ["value"] (sp_are_rows Γ) := by
  have nd := sc_are_rows.nd
  refine F.ok sc_are_rows (fun vs H Q E h => ?_) (fun cdv A outer s H vs Q E hr h => ⟨t_are_rows Γ, ?_, rd_are_rows Γ  vs H Q E h⟩)
  · repeat (first | (obtain ⟨rfl, _⟩ := h; rfl) | (obtain ⟨_, h⟩ := h))
  · have hu := hr.units
    exact (pss_cons (ps_if (PW.pt (pw_or (pt_not (pt_val (pe_callB call_isi (by rfl) T.b_isinstance (by decide +kernel) (pa_cons (pv 0) (pa_cons (pe_bltn (by rfl) T.b_tuple (by decide +kernel) (v := .ty "tuple") rfl) pa_nil))))) (pw_or1 (pt_not (pt_chain op_leU op_ltU pe_int (pe_callB call_len (by rfl) T.b_len (by decide +kernel) (pa_cons (pv 0) pa_nil)) (pe_gint T.c_MOST_TABLE (by rfl))))))) (pss_one (ps_ret pe_bl)) pss_nil)
  (pss_cons (ps_for PassesOwn.never rfl (pi_enumS (by rfl) T.b_enumerate (pa_cons (pv 0) pa_nil)) (pg_tup rfl (pgs_cons (pg_name (i := 1) nd rfl (Or.inl rfl)) (pgs_cons (pg_name (i := 2) nd rfl (Or.inl rfl)) pgs_nil))) (pss_cons (ps_if (PW.pt (pw_or (pt_not (pt_val (pe_callB call_isi (by rfl) T.b_isinstance (by decide +kernel) (pa_cons (pv 2) (pa_cons (pe_bltn (by rfl) T.b_tuple (by decide +kernel) (v := .ty "tuple") rfl) pa_nil))))) (pw_or1 (pt_cmpR (op_neU hu) (pe_callB call_len (by rfl) T.b_len (by decide +kernel) (pa_cons (pv 2) pa_nil)) (pe_op op_subU (pe_callB call_len (by rfl) T.b_len (by decide +kernel) (pa_cons (pv 0) pa_nil)) (pv 1)) (nomark _))))) (pss_one (ps_ret pe_bl)) pss_nil)
  (pss_one (ps_if (pt_not (pt_val (pe_callB (cr_all rfl) (by rfl) T.b_all (by decide +kernel) (pa_cons (pe_lc (own := [("number", 3)]) (g := (gName 3)) (tt := tYes) rfl nd (pi_seq (pv 2)) (blkOk_by (N := N_are_rows) (sc := (defScope s_are_rows)) (own := [("number", 3)]) (by decide +kernel)) (fun _ _ _ _ _ => (pg_name (i := 3) nd rfl (Or.inl rfl))) (fun _ _ _ _ _ => pts_nil) (fun _ _ _ _ _ => (pe_cal c_is_from (hr.mono (by omega)) (by rfl) pass0 (pa_cons (pv 3) (pa_cons (pe_op op_subU pe_int (pe_gint T.c_MOST_POINTS (by rfl))) (pa_cons (pe_gint T.c_MOST_POINTS (by rfl)) pa_nil)))))) pa_nil)))) (pss_one (ps_ret pe_bl)) pss_nil))))
  (pss_one (ps_ret pe_bl))))
theorem ok_is_term {f : Addr} {fd : FuncData} (F : Fun Γ.K "is_term" "is_term" s_is_term f fd) (T : TX Γ mg) (c_is_from : Cal P w Γ.K mg base CX0 "is_from" 2 ["value", "low", "high"] (sp_is_from Γ)) : FnOk P w Γ.K mg base CX0 3 f fd ["value"] (sp_is_term Γ) := by
  have nd := sc_is_term.nd
  refine F.ok sc_is_term (fun vs H Q E h => ?_) (fun cdv A outer s H vs Q E hr h => ⟨t_is_term Γ, ?_, rd_is_term Γ  vs H Q E h⟩)
  · repeat (first | (obtain ⟨rfl, _⟩ := h; rfl) | (obtain ⟨_, h⟩ := h))
  · have hu := hr.units
    exact (pss_cons (ps_if (PW.pt (pw_or (pt_not (pt_val (pe_callB call_isi (by rfl) T.b_isinstance (by decide +kernel) (pa_cons (pv 0) (pa_cons (pe_bltn (by rfl) T.b_tuple (by decide +kernel) (v := .ty "tuple") rfl) pa_nil))))) (pw_or (pt_cmpR (op_neU hu) (pe_callB call_len (by rfl) T.b_len (by decide +kernel) (pa_cons (pv 0) pa_nil)) pe_int (nomark _)) (pw_or1 (pt_not (pt_val (pe_cal c_is_from (hr.mono (by omega)) (by rfl) pass0 (pa_cons (pe_ix ix_seq (pv 0) pe_int (fun _ _ => rfl)) (pa_cons (pe_op op_subU pe_int (pe_gint T.c_MOST_POINTS (by rfl))) (pa_cons (pe_gint T.c_MOST_POINTS (by rfl)) pa_nil)))))))))) (pss_one (ps_ret pe_bl)) pss_nil)
  (pss_one (ps_ret (pe_and (pe_cal c_is_from (hr.mono (by omega)) (by rfl) pass0 (pa_cons (pe_ix ix_seq (pv 0) pe_int (fun _ _ => rfl)) (pa_cons pe_int (pa_cons (pe_gint T.c_MOST_EXPONENT (by rfl)) pa_nil)))) (pe_one (pe_cal c_is_from (hr.mono (by omega)) (by rfl) pass0 (pa_cons (pe_ix ix_seq (pv 0) pe_int (fun _ _ => rfl)) (pa_cons pe_int (pa_cons (pe_gint T.c_MOST_EXPONENT (by rfl)) pa_nil)))))))))
theorem ok_are_terms {f : Addr} {fd : FuncData} (F : Fun Γ.K "are_terms" "are_terms" s_are_terms f fd) (T : TX Γ mg) (c_is_term : Cal P w Γ.K mg base CX0 "is_term" 3 ["value"] (sp_is_term Γ)) : FnOk P w Γ.K mg base CX0 4 f fd ["value"] (sp_are_terms Γ) := by
  have nd := sc_are_terms.nd
  refine F.ok sc_are_terms (fun vs H Q E h => ?_) (fun cdv A outer s H vs Q E hr h => ⟨t_are_terms Γ, ?_, rd_are_terms Γ  vs H Q E h⟩)
  · repeat (first | (obtain ⟨rfl, _⟩ := h; rfl) | (obtain ⟨_, h⟩ := h))
  · have hu := hr.units
    exact (pss_one (ps_ret (pe_and (pe_callB call_isi (by rfl) T.b_isinstance (by decide +kernel) (pa_cons (pv 0) (pa_cons (pe_bltn (by rfl) T.b_tuple (by decide +kernel) (v := .ty "tuple") rfl) pa_nil))) (pe_and (pe_cmpR op_leU (pe_callB call_len (by rfl) T.b_len (by decide +kernel) (pa_cons (pv 0) pa_nil)) (pe_gint T.c_MOST_TERMS (by rfl)) (nomark _)) (pe_one (pe_callB (cr_all rfl) (by rfl) T.b_all (by decide +kernel) (pa_cons (pe_lc (own := [("term", 1)]) (g := (gName 1)) (tt := tYes) rfl nd (pi_seq (pv 0)) (blkOk_by (N := N_are_terms) (sc := (defScope s_are_terms)) (own := [("term", 1)]) (by decide +kernel)) (fun _ _ _ _ _ => (pg_name (i := 1) nd rfl (Or.inl rfl))) (fun _ _ _ _ _ => pts_nil) (fun _ _ _ _ _ => (pe_cal c_is_term (hr.mono (by omega)) (by rfl) pass0 (pa_cons (pv 1) pa_nil)))) pa_nil)))))))
theorem ok_RuleU_initU {f : Addr} {fd : FuncData} (F : Fun Γ.K "__init__" "Rule.__init__" s_RuleU_initU f fd) (T : TX Γ mg) (c_are_rows : Cal P w Γ.K mg base CX0 "are_rows" 3 ["value"] (sp_are_rows Γ)) (c_are_terms : Cal P w Γ.K mg base CX0 "are_terms" 4 ["value"] (sp_are_terms Γ)) : FnOk P w Γ.K mg base (L2.CX P w) 5 f fd ["self", "kind", "parts"] (sp_RuleU_initU Γ) := by
  have nd := sc_RuleU_initU.nd
  refine F.okX sc_RuleU_initU (fun vs H Q E h => ?_) (fun cdv A outer s H vs Q E hr h => ⟨t_RuleU_initU Γ E, ?_, rd_RuleU_initU Γ T.rule vs H Q E h⟩)
  · repeat (first | (obtain ⟨rfl, _⟩ := h; rfl) | (obtain ⟨_, h⟩ := h))
  · have hu := hr.units
    exact (pss_cons (ps_if (PW.pt (pw_or (pt_not (pt_val (pe_callB call_isi (by rfl) T.b_isinstance (by decide +kernel) (pa_cons (pv 1) (pa_cons (pe_bltn (by rfl) T.b_str (by decide +kernel) (v := .ty "str") rfl) pa_nil))))) (pw_or1 (pt_cmpR op_notInU (pv 1) (pe_tup (pa_cons pe_str (pa_cons pe_str pa_nil))) (by rfl))))) (pss_one (ps_raise0 rfl (takes_of rfl rfl rfl rfl) T.x_BadRule rfl)) pss_nil)
  (pss_cons (ps_if (pt_not (pt_ifExp (pt_cmpR (op_eqU hu) (pv 1) pe_str (nomark _)) (pt_val (pe_cal c_are_rows (hr.mono (by omega)) (by rfl) pass0 (pa_cons (pv 2) pa_nil))) (pt_val (pe_cal c_are_terms (hr.mono (by omega)) (by rfl) pass0 (pa_cons (pv 2) pa_nil))))) (pss_one (ps_raise0 rfl (takes_of rfl rfl rfl rfl) T.x_BadRule rfl)) pss_nil)
  (pss_cons (ps_fld (pv 0) (pv 1) rfl)
  (pss_one (ps_fld (pv 0) (pv 2) rfl)))))
theorem ok_BadTextU_initU {f : Addr} {fd : FuncData} (F : Fun Γ.K "__init__" "BadText.__init__" s_BadTextU_initU f fd) (T : TX Γ mg) : FnOk P w Γ.K mg base CX0 1 f fd ["self", "word"] (sp_BadTextU_initU Γ) := by
  have nd := sc_BadTextU_initU.nd
  refine F.ok sc_BadTextU_initU (fun vs H Q E h => ?_) (fun cdv A outer s H vs Q E hr h => ⟨t_BadTextU_initU Γ, ?_, rd_BadTextU_initU Γ T.err_BadText vs H Q E h⟩)
  · repeat (first | (obtain ⟨rfl, _⟩ := h; rfl) | (obtain ⟨_, h⟩ := h))
  · have hu := hr.units
    exact (pss_one (ps_ost (pv 0) (pv 1) (by rfl)))
theorem ok_write {f : Addr} {fd : FuncData} (F : Fun Γ.K "write" "write" s_write f fd) (T : TX Γ mg) : FnOk P w Γ.K mg base CX0 1 f fd ["rule"] (sp_write Γ) := by
  have nd := sc_write.nd
  refine F.ok sc_write (fun vs H Q E h => ?_) (fun cdv A outer s H vs Q E hr h => ⟨t_write Γ, ?_, rd_write Γ T.rule vs H Q E h⟩)
  · repeat (first | (obtain ⟨rfl, _⟩ := h; rfl) | (obtain ⟨_, h⟩ := h))
  · have hu := hr.units
    exact (pss_cons (ps_setLc (i := 1) (own := [("row", 2)]) (g := (gName 2)) (tt := tYes) rfl nd rfl rfl (sw_true rfl rfl rfl (by decide +kernel)) (pi_seq (pe_fld (pv 0) rfl)) (blkOk_by (N := N_write) (sc := (defScope s_write)) (own := [("row", 2)]) (by decide +kernel)) (fun _ _ _ _ _ => (pg_name (i := 2) nd rfl (Or.inl rfl))) (fun _ _ _ _ _ => pts_nil) (fun _ _ _ _ _ => (pe_join pe_str (pe_lc (own := [("number", 3)]) (g := (gName 3)) (tt := tYes) rfl nd (pi_seq (pv 2)) (by apply blkOk_by; rfl) (fun _ _ _ _ _ => (pg_name (i := 3) nd rfl (Or.inl rfl))) (fun _ _ _ _ _ => pts_nil) (fun _ _ _ _ _ => (pe_callTy call_str_int (by rfl) T.b_str (by decide +kernel) (pa_cons (pv 3) pa_nil)))))))
  (pss_one (ps_ret (pe_join pe_str (pe_lst (pa_cons (pe_fld (pv 0) rfl) (StX.pa_star (pe_ifExp (pt_cmpR op_gtU (pe_callB call_len (by rfl) T.b_len (by decide +kernel) (pa_cons (pv 1) pa_nil)) pe_int (nomark _)) (pe_lst (pa_cons (pe_join (pe_joined (.cons pe_str (.cons (pe_fmt (pe_gstr T.c_SIGN (by rfl))) (.cons pe_str .nil)))) (pv 1)) pa_nil)) (pe_lst pa_nil)) pa_nil)))))))
theorem ok_number_in {f : Addr} {fd : FuncData} (F : Fun Γ.K "number_in" "number_in" s_number_in f fd) (T : TX Γ mg) : FnOk P w Γ.K mg base CX0 1 f fd ["word", "low", "high"] (sp_number_in Γ) := by
  have nd := sc_number_in.nd
  refine F.ok sc_number_in (fun vs H Q E h => ?_) (fun cdv A outer s H vs Q E hr h => ⟨t_number_in Γ, ?_, rd_number_in Γ  vs H Q E h⟩)
  · repeat (first | (obtain ⟨rfl, _⟩ := h; rfl) | (obtain ⟨_, h⟩ := h))
  · have hu := hr.units
    exact (pss_cons (ps_set (i := 3) nd rfl (Or.inl rfl) (pe_ifExp (pt_cmpR (op_eqU hu) (pe_slice sl_U (pv 0) po_none (po_some pe_int)) pe_str (nomark _)) (pe_slice sl_U (pv 0) (po_some pe_int) po_none) (pv 0)))
  (pss_cons (ps_if (PW.pt (pw_or (pt_not (pt_chain op_leU op_leU pe_int (pe_callB call_len (by rfl) T.b_len (by decide +kernel) (pa_cons (pv 3) pa_nil)) pe_int)) (pw_or1 (pt_not (pt_val (pe_callB (cr_all rfl) (by rfl) T.b_all (by decide +kernel) (pa_cons (pe_lc (own := [("sign", 4)]) (g := (gName 4)) (tt := tYes) rfl nd (pi_str (pv 3)) (blkOk_by (N := N_number_in) (sc := (defScope s_number_in)) (own := [("sign", 4)]) (by decide +kernel)) (fun _ _ _ _ _ => (pg_name (i := 4) nd rfl (Or.inl rfl))) (fun _ _ _ _ _ => pts_nil) (fun _ _ _ _ _ => (pe_cmpR op_in_sign (pv 4) (pe_gstr T.c_FIGURES (by rfl)) (by rfl)))) pa_nil))))))) (pss_one (ps_ret pe_non)) pss_nil)
  (pss_cons (ps_if (PW.pt (pw_or (PW.pt (pw_and (pt_cmpR (op_eqU hu) (pe_item_str (pv 3) pe_int (fun _ _ => rfl)) pe_str (nomark _)) (pw_and1 (pt_cmpR (op_neU hu) (pv 0) pe_str (nomark _))))) (pw_or1 (pt_not (pt_chain op_leU op_leU (pv 1) (pe_callTy call_int_str (by rfl) T.b_int (by decide +kernel) (pa_cons (pv 0) pa_nil)) (pv 2)))))) (pss_one (ps_ret pe_non)) pss_nil)
  (pss_one (ps_ret (pe_callTy call_int_str (by rfl) T.b_int (by decide +kernel) (pa_cons (pv 0) pa_nil)))))))
theorem ok_rows_in {f : Addr} {fd : FuncData} (F : Fun Γ.K "rows_in" "rows_in" s_rows_in f fd) (T : TX Γ mg) : FnOk P w Γ.K mg base CX0 1 f fd ["words"] (sp_rows_in Γ) := by
  have nd := sc_rows_in.nd
  refine F.ok sc_rows_in (fun vs H Q E h => ?_) (fun cdv A outer s H vs Q E hr h => ⟨t_rows_in Γ, ?_, rd_rows_in Γ  vs H Q E h⟩)
  · repeat (first | (obtain ⟨rfl, _⟩ := h; rfl) | (obtain ⟨_, h⟩ := h))
  · have hu := hr.units
    exact (pss_cons (ps_set (i := 1) nd rfl (Or.inl rfl) (pe_lst (pa_cons (pe_lst pa_nil) pa_nil)))
  (pss_cons (ps_for PassesOwn.never rfl (pi_enumS (by rfl) T.b_enumerate (pa_cons (pv 0) pa_nil)) (pg_tup rfl (pgs_cons (pg_name (i := 2) nd rfl (Or.inl rfl)) (pgs_cons (pg_name (i := 3) nd rfl (Or.inl rfl)) pgs_nil))) (pss_one (ps_if (pt_cmpR (op_neU hu) (pv 3) (pe_gstr T.c_SIGN (by rfl)) (nomark _)) (pss_one (ps_expr (pe_bm PySem.F.plainAttrs_list PySem.F.slot_list_append PySem.F.type_list_append mt_append (pe_ix ix_seq (pv 1) (pe_un un_neg pe_int) (fun _ _ => rfl)) (pa_cons (pe_tup (pa_cons (pe_op op_addU (pv 2) pe_int) (pa_cons (pv 3) pa_nil))) pa_nil)))) (pss_one (ps_if (pt_cmpR (op_eqU hu) (pe_callB call_len (by rfl) T.b_len (by decide +kernel) (pa_cons (pe_ix ix_seq (pv 1) (pe_un un_neg pe_int) (fun _ _ => rfl)) pa_nil)) pe_int (nomark _)) (pss_one (ps_ret (pe_tup (pa_cons (pe_slice sl_U (pv 1) po_none (po_some (pe_un un_neg pe_int))) (pa_cons (pe_op op_addU (pv 2) pe_int) pa_nil))))) (pss_one (ps_expr (pe_bm PySem.F.plainAttrs_list PySem.F.slot_list_append PySem.F.type_list_append mt_append (pv 1) (pa_cons (pe_lst pa_nil) pa_nil)))))))))
  (pss_one (ps_ret (pe_ifExp (pt_cmpR op_gtU (pe_callB call_len (by rfl) T.b_len (by decide +kernel) (pa_cons (pe_ix ix_seq (pv 1) (pe_un un_neg pe_int) (fun _ _ => rfl)) pa_nil)) pe_int (nomark _)) (pe_tup (pa_cons (pv 1) (pa_cons pe_non pa_nil))) (pe_tup (pa_cons (pe_slice sl_U (pv 1) po_none (po_some (pe_un un_neg pe_int))) (pa_cons (pe_op op_addU (pe_callB call_len (by rfl) T.b_len (by decide +kernel) (pa_cons (pv 0) pa_nil)) pe_int) pa_nil))))))))
theorem ok_terms_in {f : Addr} {fd : FuncData} (F : Fun Γ.K "terms_in" "terms_in" s_terms_in f fd) (T : TX Γ mg) (c_BadTextU_initU : CalE P w Γ.K mg base Γ.cBadText "BadText" 1 ["self", "word"] (sp_BadTextU_initU Γ)) (c_number_in : Cal P w Γ.K mg base CX0 "number_in" 1 ["word", "low", "high"] (sp_number_in Γ)) : FnOk P w Γ.K mg base (L2.CX P w) 3 f fd ["rows", "empty"] (sp_terms_in Γ) := by
  have nd := sc_terms_in.nd
  refine F.okX sc_terms_in (fun vs H Q E h => ?_) (fun cdv A outer s H vs Q E hr h => ⟨t_terms_in Γ E, ?_, rd_terms_in Γ  vs H Q E h⟩)
  · repeat (first | (obtain ⟨rfl, _⟩ := h; rfl) | (obtain ⟨_, h⟩ := h))
  · have hu := hr.units
    exact (pss_cons (ps_set (i := 2) nd rfl (Or.inl rfl) (pe_lst pa_nil))
  (pss_cons (ps_for (passes_of rfl) rfl (pi_seq (pv 0)) (pg_name (i := 3) nd rfl (Or.inl rfl)) (pss_cons (ps_if (pt_cmpR (op_eqU hu) (pe_callB call_len (by rfl) T.b_len (by decide +kernel) (pa_cons (pv 2) pa_nil)) (pe_gint T.c_MOST_TERMS (by rfl)) (nomark _)) (pss_one (ps_raiseO rfl (takes_of rfl rfl rfl rfl) c_BadTextU_initU (hr.mono (by omega)) rfl (pa_cons (pe_op op_subU (pe_ix ix_seq (pe_ix ix_seq (pv 3) pe_int (fun _ _ => rfl)) pe_int (fun _ _ => rfl)) pe_int) pa_nil))) pss_nil)
  (pss_cons (ps_set (i := 4) nd rfl (Or.inl rfl) (pe_lst pa_nil))
  (pss_cons (ps_for (passes_of rfl) rfl (pi_enumS (by rfl) T.b_enumerate (pa_cons (pv 3) pa_nil)) (pg_tup rfl (pgs_cons (pg_name (i := 5) nd rfl (Or.inl rfl)) (pgs_cons (pg_tup rfl (pgs_cons (pg_name (i := 6) nd rfl (Or.inl rfl)) (pgs_cons (pg_name (i := 7) nd rfl (Or.inl rfl)) pgs_nil))) pgs_nil))) (pss_cons (ps_asg (pe_ifExp (pt_cmpR (op_eqU hu) (pv 5) pe_int (nomark _)) (pe_tup (pa_cons (pe_op op_subU pe_int (pe_gint T.c_MOST_POINTS (by rfl))) (pa_cons (pe_gint T.c_MOST_POINTS (by rfl)) pa_nil))) (pe_tup (pa_cons pe_int (pa_cons (pe_gint T.c_MOST_EXPONENT (by rfl)) pa_nil)))) (pg_tup rfl (pgs_cons (pg_name (i := 8) nd rfl (Or.inl rfl)) (pgs_cons (pg_name (i := 9) nd rfl (Or.inl rfl)) pgs_nil))))
  (pss_cons (ps_set (i := 10) nd rfl (Or.inl rfl) (pe_ifExp (pt_cmpR op_ltU (pv 5) pe_int (nomark _)) (pe_cal c_number_in (hr.mono (by omega)) (by rfl) pass0 (pa_cons (pv 7) (pa_cons (pv 8) (pa_cons (pv 9) pa_nil)))) pe_non))
  (pss_cons (ps_if (pt_cmpR op_isU (pv 10) pe_non (nomark _)) (pss_one (ps_raiseO rfl (takes_of rfl rfl rfl rfl) c_BadTextU_initU (hr.mono (by omega)) rfl (pa_cons (pv 6) pa_nil))) pss_nil)
  (pss_one (ps_expr (pe_bm PySem.F.plainAttrs_list PySem.F.slot_list_append PySem.F.type_list_append mt_append (pv 4) (pa_cons (pv 10) pa_nil))))))))
  (pss_cons (ps_if (pt_cmpR op_ltU (pe_callB call_len (by rfl) T.b_len (by decide +kernel) (pa_cons (pv 4) pa_nil)) pe_int (nomark _)) (pss_one (ps_raiseO rfl (takes_of rfl rfl rfl rfl) c_BadTextU_initU (hr.mono (by omega)) rfl (pa_cons (pe_op op_addU (pe_ix ix_seq (pe_ix ix_seq (pv 3) (pe_un un_neg pe_int) (fun _ _ => rfl)) pe_int (fun _ _ => rfl)) pe_int) pa_nil))) pss_nil)
  (pss_one (ps_expr (pe_bm PySem.F.plainAttrs_list PySem.F.slot_list_append PySem.F.type_list_append mt_append (pv 2) (pa_cons (pe_callTy call_tuple_of (by rfl) T.b_tuple (by decide +kernel) (pa_cons (pv 4) pa_nil)) pa_nil)))))))))
  (pss_cons (ps_if (pt_cmpR op_notIsU (pv 1) pe_non (nomark _)) (pss_one (ps_raiseO rfl (takes_of rfl rfl rfl rfl) c_BadTextU_initU (hr.mono (by omega)) rfl (pa_cons (pe_ifExp (pt_cmpR op_ltU (pe_callB call_len (by rfl) T.b_len (by decide +kernel) (pa_cons (pv 2) pa_nil)) (pe_gint T.c_MOST_TERMS (by rfl)) (nomark _)) (pv 1) (pe_op op_subU (pv 1) pe_int)) pa_nil))) pss_nil)
  (pss_one (ps_ret (pe_callTy call_tuple_of (by rfl) T.b_tuple (by decide +kernel) (pa_cons (pv 2) pa_nil)))))))
theorem ok_table_in {f : Addr} {fd : FuncData} (F : Fun Γ.K "table_in" "table_in" s_table_in f fd) (T : TX Γ mg) (c_BadTextU_initU : CalE P w Γ.K mg base Γ.cBadText "BadText" 1 ["self", "word"] (sp_BadTextU_initU Γ)) (c_number_in : Cal P w Γ.K mg base CX0 "number_in" 1 ["word", "low", "high"] (sp_number_in Γ)) : FnOk P w Γ.K mg base (L2.CX P w) 3 f fd ["rows", "empty"] (sp_table_in Γ) := by
  have nd := sc_table_in.nd
  refine F.okX sc_table_in (fun vs H Q E h => ?_) (fun cdv A outer s H vs Q E hr h => ⟨t_table_in Γ E, ?_, rd_table_in Γ  vs H Q E h⟩)
  · repeat (first | (obtain ⟨rfl, _⟩ := h; rfl) | (obtain ⟨_, h⟩ := h))
  · have hu := hr.units
    exact (pss_cons (ps_par (i := 2) (j := 3) rfl nd rfl rfl (by decide) rfl rfl (pa_cons (pe_lst pa_nil) (pa_cons (pe_ifExp (pt_cmpR op_gtU (pe_callB call_len (by rfl) T.b_len (by decide +kernel) (pa_cons (pv 0) pa_nil)) pe_int (nomark _)) (pe_callB call_len (by rfl) T.b_len (by decide +kernel) (pa_cons (pe_ix ix_seq (pv 0) pe_int (fun _ _ => rfl)) pa_nil)) pe_int) pa_nil)) (by rfl))
  (pss_cons (ps_for (passes_of rfl) rfl (pi_seq (pv 0)) (pg_name (i := 4) nd rfl (Or.inl rfl)) (pss_cons (ps_if (pt_cmpR (op_eqU hu) (pv 3) pe_int (nomark _)) (pss_one (ps_raiseO rfl (takes_of rfl rfl rfl rfl) c_BadTextU_initU (hr.mono (by omega)) rfl (pa_cons (pe_op op_subU (pe_ix ix_seq (pe_ix ix_seq (pv 4) pe_int (fun _ _ => rfl)) pe_int (fun _ _ => rfl)) pe_int) pa_nil))) pss_nil)
  (pss_cons (ps_set (i := 5) nd rfl (Or.inl rfl) (pe_lst pa_nil))
  (pss_cons (ps_for (passes_of rfl) rfl (pi_enumS (by rfl) T.b_enumerate (pa_cons (pv 4) pa_nil)) (pg_tup rfl (pgs_cons (pg_name (i := 6) nd rfl (Or.inl rfl)) (pgs_cons (pg_tup rfl (pgs_cons (pg_name (i := 7) nd rfl (Or.inl rfl)) (pgs_cons (pg_name (i := 8) nd rfl (Or.inl rfl)) pgs_nil))) pgs_nil))) (pss_cons (ps_set (i := 9) nd rfl (Or.inl rfl) (pe_ifExp (pt_cmpR op_ltU (pv 6) (pe_callB (call_min2 rfl) (by rfl) T.b_min (by decide +kernel) (pa_cons (pv 3) (pa_cons (pe_op op_subU (pe_gint T.c_MOST_TABLE (by rfl)) pe_int) pa_nil))) (nomark _)) (pe_cal c_number_in (hr.mono (by omega)) (by rfl) pass0 (pa_cons (pv 8) (pa_cons (pe_op op_subU pe_int (pe_gint T.c_MOST_POINTS (by rfl))) (pa_cons (pe_gint T.c_MOST_POINTS (by rfl)) pa_nil)))) pe_non))
  (pss_cons (ps_if (pt_cmpR op_isU (pv 9) pe_non (nomark _)) (pss_one (ps_raiseO rfl (takes_of rfl rfl rfl rfl) c_BadTextU_initU (hr.mono (by omega)) rfl (pa_cons (pv 7) pa_nil))) pss_nil)
  (pss_one (ps_expr (pe_bm PySem.F.plainAttrs_list PySem.F.slot_list_append PySem.F.type_list_append mt_append (pv 5) (pa_cons (pv 9) pa_nil)))))))
  (pss_cons (ps_if (pt_cmpR op_ltU (pe_callB call_len (by rfl) T.b_len (by decide +kernel) (pa_cons (pv 5) pa_nil)) (pv 3) (nomark _)) (pss_one (ps_raiseO rfl (takes_of rfl rfl rfl rfl) c_BadTextU_initU (hr.mono (by omega)) rfl (pa_cons (pe_op op_addU (pe_ix ix_seq (pe_ix ix_seq (pv 4) (pe_un un_neg pe_int) (fun _ _ => rfl)) pe_int (fun _ _ => rfl)) pe_int) pa_nil))) pss_nil)
  (pss_cons (ps_expr (pe_bm PySem.F.plainAttrs_list PySem.F.slot_list_append PySem.F.type_list_append mt_append (pv 2) (pa_cons (pe_callTy call_tuple_of (by rfl) T.b_tuple (by decide +kernel) (pa_cons (pv 5) pa_nil)) pa_nil)))
  (pss_one (ps_aug (i := 3) nd rfl (Or.inl rfl) pe_int ip_sub))))))))
  (pss_cons (ps_if (pt_cmpR op_notIsU (pv 1) pe_non (nomark _)) (pss_one (ps_raiseO rfl (takes_of rfl rfl rfl rfl) c_BadTextU_initU (hr.mono (by omega)) rfl (pa_cons (pe_ifExp (pt_cmpR op_gtU (pv 3) pe_int (nomark _)) (pv 1) (pe_op op_subU (pv 1) pe_int)) pa_nil))) pss_nil)
  (pss_cons (ps_if (pt_cmpR op_gtU (pv 3) pe_int (nomark _)) (pss_one (ps_raiseO rfl (takes_of rfl rfl rfl rfl) c_BadTextU_initU (hr.mono (by omega)) rfl (pa_cons (pe_op op_addU (pe_ix ix_seq (pe_ix ix_seq (pe_ix ix_seq (pv 0) (pe_un un_neg pe_int) (fun _ _ => rfl)) (pe_un un_neg pe_int) (fun _ _ => rfl)) pe_int (fun _ _ => rfl)) pe_int) pa_nil))) pss_nil)
  (pss_one (ps_ret (pe_callTy call_tuple_of (by rfl) T.b_tuple (by decide +kernel) (pa_cons (pv 2) pa_nil))))))))
theorem ok_read {f : Addr} {fd : FuncData} (F : Fun Γ.K "read" "read" s_read f fd) (T : TX Γ mg) (c_BadTextU_initU : CalE P w Γ.K mg base Γ.cBadText "BadText" 1 ["self", "word"] (sp_BadTextU_initU Γ)) (c_RuleU_initU : CalC P w Γ.K mg base (L2.CX P w) Γ.cRule "Rule" 5 ["self", "kind", "parts"] (sp_RuleU_initU Γ)) (c_rows_in : Cal P w Γ.K mg base CX0 "rows_in" 1 ["words"] (sp_rows_in Γ)) (c_table_in : Cal P w Γ.K mg base (L2.CX P w) "table_in" 3 ["rows", "empty"] (sp_table_in Γ)) (c_terms_in : Cal P w Γ.K mg base (L2.CX P w) "terms_in" 3 ["rows", "empty"] (sp_terms_in Γ)) : FnOk P w Γ.K mg base (L2.CX P w) 7 f fd ["text"] (sp_read Γ) := by
  have nd := sc_read.nd
  refine F.okX sc_read (fun vs H Q E h => ?_) (fun cdv A outer s H vs Q E hr h => ⟨t_read Γ E, ?_, rd_read Γ  vs H Q E h⟩)
  · repeat (first | (obtain ⟨rfl, _⟩ := h; rfl) | (obtain ⟨_, h⟩ := h))
  · have hu := hr.units
    exact (pss_cons (ps_if (pt_not (pt_val (pe_callB call_isi (by rfl) T.b_isinstance (by decide +kernel) (pa_cons (pv 0) (pa_cons (pe_bltn (by rfl) T.b_str (by decide +kernel) (v := .ty "str") rfl) pa_nil))))) (pss_one (ps_raiseO rfl (takes_of rfl rfl rfl rfl) c_BadTextU_initU (hr.mono (by omega)) rfl (pa_cons pe_non pa_nil))) pss_nil)
  (pss_cons (ps_set (i := 1) nd rfl (Or.inl rfl) (pe_split (pv 0) pe_str))
  (pss_cons (ps_if (pt_cmpR op_notInU (pe_ix ix_seq (pv 1) pe_int (fun _ _ => rfl)) (pe_tup (pa_cons pe_str (pa_cons pe_str pa_nil))) (by rfl)) (pss_one (ps_raiseO rfl (takes_of rfl rfl rfl rfl) c_BadTextU_initU (hr.mono (by omega)) rfl (pa_cons pe_int pa_nil))) pss_nil)
  (pss_cons (ps_if (pt_cmpR (op_eqU hu) (pv 1) (pe_lst (pa_cons pe_str pa_nil)) (nomark _)) (pss_one (ps_ret (pe_mak c_RuleU_initU (hr.mono (by omega)) (by rfl) (passes_call (takes_of rfl rfl rfl rfl) (fun _ _ _ _ z => z)) (pa_cons pe_str (pa_cons (pe_tup pa_nil) pa_nil))))) pss_nil)
  (pss_cons (ps_asg (pe_cal c_rows_in (hr.mono (by omega)) (by rfl) pass0 (pa_cons (pe_slice sl_U (pv 1) (po_some pe_int) po_none) pa_nil)) (pg_tup rfl (pgs_cons (pg_name (i := 2) nd rfl (Or.inl rfl)) (pgs_cons (pg_name (i := 3) nd rfl (Or.inl rfl)) pgs_nil))))
  (pss_one (ps_ret (pe_mak c_RuleU_initU (hr.mono (by omega)) (by rfl) (passes_call (takes_of rfl rfl rfl rfl) (fun _ _ _ _ z => z)) (pa_cons (pe_ix ix_seq (pv 1) pe_int (fun _ _ => rfl)) (pa_cons (pe_ifExp (pt_cmpR (op_eqU hu) (pe_ix ix_seq (pv 1) pe_int (fun _ _ => rfl)) pe_str (nomark _)) (pe_cal c_table_in (hr.mono (by omega)) (by rfl) (passes_call (takes_of rfl rfl rfl rfl) (fun _ _ _ _ z => z)) (pa_cons (pv 2) (pa_cons (pv 3) pa_nil))) (pe_cal c_terms_in (hr.mono (by omega)) (by rfl) (passes_call (takes_of rfl rfl rfl rfl) (fun _ _ _ _ z => z)) (pa_cons (pv 2) (pa_cons (pv 3) pa_nil)))) pa_nil))))))))))
theorem ok__law_random {f : Addr} {fd : FuncData} (F : Fun Γ.K "_law_random" "_law_random" s__law_random f fd) (T : TX Γ mg) : FnOk P w Γ.K mg base CX0 1 f fd ["_law_script", "_law_salt"] (sp__law_random Γ) := by
  have nd := sc__law_random.nd
  refine F.ok sc__law_random (fun vs H Q E h => ?_) (fun cdv A outer s H vs Q E hr h => ⟨t__law_random Γ, ?_, rd__law_random Γ  vs H Q E h⟩)
  · repeat (first | (obtain ⟨rfl, _⟩ := h; rfl) | (obtain ⟨_, h⟩ := h))
  · have hu := hr.units
    exact (pss_shut DS (pss_cons (ps_set (i := 2) nd rfl (Or.inl rfl) (pv 1))
  (pss_cons (ps_for PassesOwn.never rfl (pi_seq (pv 0)) (pg_name (i := 3) nd rfl (Or.inl rfl)) (pss_one (ps_set (i := 2) nd rfl (Or.inl rfl) (pe_op op_modU (pe_callTy call_int1 (by rfl) T.b_int (by decide +kernel) (pa_cons (pe_op op_addU (pe_op op_mulU (pv 2) pe_int) (pe_callB call_abs (by rfl) T.b_abs (by decide +kernel) (pa_cons (pv 3) pa_nil))) pa_nil)) pe_int))))
  (pss_one (ps_ret (pe_op op_addU (pe_lst (pa_cons (pv 2) (pa_cons pe_int pa_nil))) (pe_lc (own := [("_law_cell", 3)]) (g := (gName 3)) (tt := (tTest (tOp rGe (tVar 3) (tOp rPowI (tC (.int 10)) (tC (.int 18)))))) rfl nd (pi_seq (pv 0)) (blkOk_by (N := N__law_random) (sc := (defScope s__law_random)) (own := [("_law_cell", 3)]) (by decide +kernel)) (fun _ _ _ _ _ => (pg_name (i := 3) nd rfl (Or.inl rfl))) (fun _ _ _ _ _ => pts_one (pt_cmpR op_geU (pv 3) (pe_op op_powU pe_int pe_int) (nomark _))) (fun _ _ _ _ _ => (pv 3)))))))))
theorem ok__law_below {f : Addr} {fd : FuncData} (F : Fun Γ.K "_law_below" "_law_below" s__law_below f fd) (T : TX Γ mg) : FnOk P w Γ.K mg base CX0 1 f fd ["_law_d", "_law_size"] (sp__law_below Γ) := by
  have nd := sc__law_below.nd
  refine F.ok sc__law_below (fun vs H Q E h => ?_) (fun cdv A outer s H vs Q E hr h => ⟨t__law_below Γ, ?_, rd__law_below Γ  vs H Q E h⟩)
  · repeat (first | (obtain ⟨rfl, _⟩ := h; rfl) | (obtain ⟨_, h⟩ := h))
  · have hu := hr.units
    exact (pss_open DS (pss_cut (ps_if (PW.pt (pw_and (pt_cmpR (op_eqU hu) (pe_ix ix_seq (pv 0) pe_int (fun _ _ => rfl)) pe_int (nomark _)) (pw_and1 (pt_cmpR op_gtU (pe_callB call_len (by rfl) T.b_len (by decide +kernel) (pa_cons (pv 0) pa_nil)) pe_int (nomark _))))) (pss_one (ps_asg (pe_bm PySem.F.plainAttrs_list PySem.F.slot_list_pop PySem.F.type_list_pop mt_popAt (pv 0) (pa_cons pe_int pa_nil)) (pg_sub (pv 0) pe_int set_list))) pss_nil)
  (pss_cons (ps_if (pt_cmpR op_gtU (pe_ix ix_seq (pv 0) pe_int (fun _ _ => rfl)) pe_int (nomark _)) (pss_cons (ps_set (i := 2) nd rfl (Or.inl rfl) (pe_op op_modU (pe_callTy call_int1 (by rfl) T.b_int (by decide +kernel) (pa_cons (pe_ix ix_seq (pv 0) pe_int (fun _ _ => rfl)) pa_nil)) (pv 1)))
  (pss_cons (ps_asg (pe_op op_divU (pe_ix ix_seq (pv 0) pe_int (fun _ _ => rfl)) (pv 1)) (pg_sub (pv 0) pe_int set_list))
  (pss_one (ps_ret (pv 2))))) pss_nil)
  (pss_cons (ps_asg (pe_op op_modU (pe_callTy call_int1 (by rfl) T.b_int (by decide +kernel) (pa_cons (pe_op op_addU (pe_op op_mulU (pe_ix ix_seq (pv 0) pe_int (fun _ _ => rfl)) pe_int) pe_int) pa_nil)) pe_int) (pg_sub (pv 0) pe_int set_list))
  (pss_one (ps_ret (pe_op op_modU (pe_callTy call_int1 (by rfl) T.b_int (by decide +kernel) (pa_cons (pe_op op_divU (pe_ix ix_seq (pv 0) pe_int (fun _ _ => rfl)) pe_int) pa_nil)) (pv 1))))))))
theorem ok__law_pick {f : Addr} {fd : FuncData} (F : Fun Γ.K "_law_pick" "_law_pick" s__law_pick f fd) (T : TX Γ mg) (c__law_below : Cal P w Γ.K mg base CX0 "_law_below" 1 ["_law_d", "_law_size"] (sp__law_below Γ)) : FnOk P w Γ.K mg base CX0 2 f fd ["_law_d", "_law_items"] (sp__law_pick Γ) := by
  have nd := sc__law_pick.nd
  refine F.ok sc__law_pick (fun vs H Q E h => ?_) (fun cdv A outer s H vs Q E hr h => ⟨t__law_pick Γ, ?_, rd__law_pick Γ  vs H Q E h⟩)
  · repeat (first | (obtain ⟨rfl, _⟩ := h; rfl) | (obtain ⟨_, h⟩ := h))
  · have hu := hr.units
    exact (pss_one (ps_ret (pe_ix ix_seq (pv 1) (pe_cal c__law_below (hr.mono (by omega)) (by rfl) pass0 (pa_cons (pv 0) (pa_cons (pe_callB call_len (by rfl) T.b_len (by decide +kernel) (pa_cons (pv 1) pa_nil)) pa_nil))) (fun _ _ => rfl))))
theorem ok__law_table {f : Addr} {fd : FuncData} (F : Fun Γ.K "_law_table" "_law_table" s__law_table f fd) (T : TX Γ mg) (c__law_below : Cal P w Γ.K mg base CX0 "_law_below" 1 ["_law_d", "_law_size"] (sp__law_below Γ)) : FnOk P w Γ.K mg base CX0 2 f fd ["_law_d", "_law_most"] (sp__law_table Γ) := by
  have nd := sc__law_table.nd
  refine F.ok sc__law_table (fun vs H Q E h => ?_) (fun cdv A outer s H vs Q E hr h => ⟨t__law_table Γ, ?_, rd__law_table Γ  vs H Q E h⟩)
  · repeat (first | (obtain ⟨rfl, _⟩ := h; rfl) | (obtain ⟨_, h⟩ := h))
  · have hu := hr.units
    exact (pss_cons (ps_par (i := 1) (j := 2) rfl nd rfl rfl (by decide) rfl rfl (pa_cons (pe_op op_addU pe_int (pe_cal c__law_below (hr.mono (by omega)) (by rfl) pass0 (pa_cons (pv 0) (pa_cons (pe_op op_subU (pv 1) pe_int) pa_nil)))) (pa_cons (pe_cal c__law_below (hr.mono (by omega)) (by rfl) pass0 (pa_cons (pv 0) (pa_cons pe_int pa_nil))) pa_nil)) (by rfl))
  (pss_cons (ps_set (i := 3) nd rfl (Or.inl rfl) (pe_op op_addU (pe_lst (pa_cons pe_int (pa_cons pe_int pa_nil))) (pe_lc (own := [("_law_k", 8)]) (g := (gName 8)) (tt := tYes) rfl nd (pi_range1 rfl T.b_range (pa_cons (pe_op op_subU (pv 1) pe_int) pa_nil)) (blkOk_by (N := N__law_table) (sc := (defScope s__law_table)) (own := [("_law_k", 8)]) (by decide +kernel)) (fun _ _ _ _ _ => (pg_name (i := 8) nd rfl (Or.inl rfl))) (fun _ _ _ _ _ => pts_nil) (fun _ _ _ _ _ => (pe_op op_subU (pe_cal c__law_below (hr.mono (by omega)) (by rfl) pass0 (pa_cons (pv 0) (pa_cons pe_int pa_nil))) pe_int)))))
  (pss_cons (ps_set (i := 4) nd rfl (Or.inl rfl) (pe_lst pa_nil))
  (pss_cons (ps_for PassesOwn.never rfl (pi_range2 rfl T.b_range (pa_cons pe_int (pa_cons (pv 1) pa_nil))) (pg_name (i := 5) nd rfl (Or.inl rfl)) (pss_cons (ps_set (i := 6) nd rfl (Or.inl rfl) (pe_lst pa_nil))
  (pss_cons (ps_for PassesOwn.never rfl (pi_range2 rfl T.b_range (pa_cons pe_int (pa_cons (pe_op op_addU (pe_op op_subU (pv 1) (pv 5)) pe_int) pa_nil))) (pg_name (i := 7) nd rfl (Or.inl rfl)) (pss_one (ps_expr (pe_bm PySem.F.plainAttrs_list PySem.F.slot_list_append PySem.F.type_list_append mt_append (pv 6) (pa_cons (pe_ifExp (pt_cmpR (op_eqU hu) (pv 2) pe_int (nomark _)) (pe_cal c__law_below (hr.mono (by omega)) (by rfl) pass0 (pa_cons (pv 0) (pa_cons pe_int pa_nil))) (pe_op op_subU (pe_op op_subU (pe_ix ix_seq (pv 3) (pe_op op_addU (pv 5) (pv 7)) (fun _ _ => rfl)) (pe_ix ix_seq (pv 3) (pv 5) (fun _ _ => rfl))) (pe_ix ix_seq (pv 3) (pv 7) (fun _ _ => rfl)))) pa_nil)))))
  (pss_one (ps_expr (pe_bm PySem.F.plainAttrs_list PySem.F.slot_list_append PySem.F.type_list_append mt_append (pv 4) (pa_cons (pv 6) pa_nil)))))))
  (pss_cut (ps_if (pt_cmpR (op_eqU hu) (pv 2) pe_int (nomark _)) (pss_cons (ps_set (i := 5) nd rfl (Or.inl rfl) (pe_cal c__law_below (hr.mono (by omega)) (by rfl) pass0 (pa_cons (pv 0) (pa_cons (pe_op op_subU (pv 1) pe_int) pa_nil))))
  (pss_one (ps_asg (pe_cal c__law_below (hr.mono (by omega)) (by rfl) pass0 (pa_cons (pv 0) (pa_cons pe_int pa_nil))) (pg_sub (pe_ix ix_seq (pv 4) (pv 5) (fun _ _ => rfl)) (pe_cal c__law_below (hr.mono (by omega)) (by rfl) pass0 (pa_cons (pv 0) (pa_cons (pe_callB call_len (by rfl) T.b_len (by decide +kernel) (pa_cons (pe_ix ix_seq (pv 4) (pv 5) (fun _ _ => rfl)) pa_nil)) pa_nil))) set_list)))) pss_nil)
  (pss_one (ps_ret (pe_callTy call_tuple_of (by rfl) T.b_tuple (by decide +kernel) (pa_cons (pe_lc (own := [("_law_row", 6)]) (g := (gName 6)) (tt := tYes) rfl nd (pi_seq (pv 4)) (blkOk_by (N := N__law_table) (sc := (defScope s__law_table)) (own := [("_law_row", 6)]) (by decide +kernel)) (fun _ _ _ _ _ => (pg_name (i := 6) nd rfl (Or.inl rfl))) (fun _ _ _ _ _ => pts_nil) (fun _ _ _ _ _ => (pe_callTy call_tuple_of (by rfl) T.b_tuple (by decide +kernel) (pa_cons (pv 6) pa_nil)))) pa_nil)))))))))
theorem ok__law_terms {f : Addr} {fd : FuncData} (F : Fun Γ.K "_law_terms" "_law_terms" s__law_terms f fd) (T : TX Γ mg) (c__law_below : Cal P w Γ.K mg base CX0 "_law_below" 1 ["_law_d", "_law_size"] (sp__law_below Γ)) (c__law_pick : Cal P w Γ.K mg base CX0 "_law_pick" 2 ["_law_d", "_law_items"] (sp__law_pick Γ)) : FnOk P w Γ.K mg base CX0 3 f fd ["_law_d"] (sp__law_terms Γ) := by
  have nd := sc__law_terms.nd
  refine F.ok sc__law_terms (fun vs H Q E h => ?_) (fun cdv A outer s H vs Q E hr h => ⟨t__law_terms Γ, ?_, rd__law_terms Γ  vs H Q E h⟩)
  · repeat (first | (obtain ⟨rfl, _⟩ := h; rfl) | (obtain ⟨_, h⟩ := h))
  · have hu := hr.units
    exact (pss_cons (ps_par (i := 1) (j := 2) rfl nd rfl rfl (by decide) rfl rfl (pa_cons (pe_cal c__law_pick (hr.mono (by omega)) (by rfl) pass0 (pa_cons (pv 0) (pa_cons (pe_lst (pa_cons pe_int (pa_cons (pe_un un_neg pe_int) (pa_cons pe_int (pa_cons pe_int (pa_cons pe_int pa_nil)))))) pa_nil))) (pa_cons (pe_cal c__law_below (hr.mono (by omega)) (by rfl) pass0 (pa_cons (pv 0) (pa_cons pe_int pa_nil))) pa_nil)) (by rfl))
  (pss_cons (ps_set (i := 3) nd rfl (Or.inl rfl) (pe_ix ix_seq (pe_lst (pa_cons (pe_tup pa_nil) (pa_cons (pe_tup (pa_cons (pe_tup (pa_cons (pv 1) (pa_cons pe_int (pa_cons pe_int pa_nil)))) pa_nil)) (pa_cons (pe_tup (pa_cons (pe_tup (pa_cons (pv 1) (pa_cons pe_int (pa_cons pe_int pa_nil)))) pa_nil)) (pa_cons (pe_tup (pa_cons (pe_tup (pa_cons (pe_op op_mulU pe_int (pv 1)) (pa_cons pe_int (pa_cons pe_int pa_nil)))) (pa_cons (pe_tup (pa_cons (pe_op op_mulU pe_int (pv 1)) (pa_cons pe_int (pa_cons pe_int pa_nil)))) pa_nil))) pa_nil))))) (pe_callB (call_min2 rfl) (by rfl) T.b_min (by decide +kernel) (pa_cons (pv 2) (pa_cons pe_int pa_nil))) (fun _ _ => rfl)))
  (pss_cut (ps_if (pt_cmpR (op_eqU hu) (pv 2) pe_int (nomark _)) (pss_one (ps_set (i := 3) nd rfl (Or.inl rfl) (pe_tup (pa_cons (pe_tup (pa_cons (pe_op op_mulU pe_int (pv 1)) (pa_cons pe_int (pa_cons pe_int pa_nil)))) (pa_cons (pe_tup (pa_cons (pe_op op_mulU pe_int (pv 1)) (pa_cons pe_int (pa_cons pe_int pa_nil)))) (pa_cons (pe_tup (pa_cons (pe_op op_mulU pe_int (pv 1)) (pa_cons pe_int (pa_cons pe_int pa_nil)))) pa_nil)))))) pss_nil)
  (pss_cut (ps_if (pt_cmpR (op_eqU hu) (pv 2) pe_int (nomark _)) (pss_one (ps_set (i := 3) nd rfl (Or.inl rfl) (pe_tup (pa_cons (pe_tup (pa_cons (pe_op op_mulU pe_int (pv 1)) (pa_cons pe_int (pa_cons pe_int pa_nil)))) (pa_cons (pe_tup (pa_cons (pe_op op_mulU pe_int (pv 1)) (pa_cons pe_int (pa_cons pe_int pa_nil)))) (pa_cons (pe_tup (pa_cons (pe_op op_mulU pe_int (pv 1)) (pa_cons pe_int (pa_cons pe_int pa_nil)))) (pa_cons (pe_tup (pa_cons (pe_op op_mulU pe_int (pv 1)) (pa_cons pe_int (pa_cons pe_int pa_nil)))) pa_nil))))))) pss_nil)
  (pss_cut (ps_if (PW.pt (pw_or (pt_cmpR (op_eqU hu) (pe_cal c__law_below (hr.mono (by omega)) (by rfl) pass0 (pa_cons (pv 0) (pa_cons pe_int pa_nil))) pe_int (nomark _)) (pw_or1 (pt_cmpR (op_eqU hu) (pv 2) pe_int (nomark _))))) (pss_one (ps_set (i := 3) nd rfl (Or.inl rfl) (pe_op op_addU (pv 3) (pe_tup (pa_cons (pe_tup (pa_cons (pe_op op_subU (pe_cal c__law_below (hr.mono (by omega)) (by rfl) pass0 (pa_cons (pv 0) (pa_cons pe_int pa_nil))) pe_int) (pa_cons (pe_cal c__law_below (hr.mono (by omega)) (by rfl) pass0 (pa_cons (pv 0) (pa_cons pe_int pa_nil))) (pa_cons (pe_cal c__law_below (hr.mono (by omega)) (by rfl) pass0 (pa_cons (pv 0) (pa_cons pe_int pa_nil))) pa_nil)))) pa_nil))))) pss_nil)
  (pss_cut (ps_if (pt_cmpR (op_eqU hu) (pe_cal c__law_below (hr.mono (by omega)) (by rfl) pass0 (pa_cons (pv 0) (pa_cons pe_int pa_nil))) pe_int (nomark _)) (pss_one (ps_set (i := 3) nd rfl (Or.inl rfl) (pe_op op_addU (pe_cal c__law_pick (hr.mono (by omega)) (by rfl) pass0 (pa_cons (pv 0) (pa_cons (pe_lst (pa_cons (pv 3) (pa_cons (pe_tup pa_nil) pa_nil))) pa_nil))) (pe_tup (pa_cons (pe_tup (pa_cons (pe_op op_mulU pe_int (pv 1)) (pa_cons pe_int (pa_cons pe_int pa_nil)))) (pa_cons (pe_tup (pa_cons (pe_op op_mulU (pe_un un_neg pe_int) (pv 1)) (pa_cons pe_int (pa_cons pe_int pa_nil)))) pa_nil)))))) pss_nil)
  (pss_one (ps_ret (pe_slice sl_U (pv 3) po_none (po_some pe_int))))))))))
theorem ok__law_rule {f : Addr} {fd : FuncData} (F : Fun Γ.K "_law_rule" "_law_rule" s__law_rule f fd) (T : TX Γ mg) (c_RuleU_initU : CalC P w Γ.K mg base (L2.CX P w) Γ.cRule "Rule" 5 ["self", "kind", "parts"] (sp_RuleU_initU Γ)) (c__law_below : Cal P w Γ.K mg base CX0 "_law_below" 1 ["_law_d", "_law_size"] (sp__law_below Γ)) (c__law_table : Cal P w Γ.K mg base CX0 "_law_table" 2 ["_law_d", "_law_most"] (sp__law_table Γ)) (c__law_terms : Cal P w Γ.K mg base CX0 "_law_terms" 3 ["_law_d"] (sp__law_terms Γ)) : FnOk P w Γ.K mg base CX0 7 f fd ["_law_d", "_law_most"] (sp__law_rule Γ) := by
  have nd := sc__law_rule.nd
  refine F.ok sc__law_rule (fun vs H Q E h => ?_) (fun cdv A outer s H vs Q E hr h => ⟨t__law_rule Γ, ?_, rd__law_rule Γ  vs H Q E h⟩)
  · repeat (first | (obtain ⟨rfl, _⟩ := h; rfl) | (obtain ⟨_, h⟩ := h))
  · have hu := hr.units
    exact (pss_cons (ps_if (pt_cmpR (op_eqU hu) (pe_cal c__law_below (hr.mono (by omega)) (by rfl) pass0 (pa_cons (pv 0) (pa_cons pe_int pa_nil))) pe_int (nomark _)) (pss_one (ps_ret (pe_mak c_RuleU_initU (hr.mono (by omega)) (by rfl) passL (pa_cons pe_str (pa_cons (pe_cal c__law_table (hr.mono (by omega)) (by rfl) pass0 (pa_cons (pv 0) (pa_cons (pv 1) pa_nil))) pa_nil))))) pss_nil)
  (pss_one (ps_ret (pe_mak c_RuleU_initU (hr.mono (by omega)) (by rfl) passL (pa_cons pe_str (pa_cons (pe_cal c__law_terms (hr.mono (by omega)) (by rfl) pass0 (pa_cons (pv 0) pa_nil)) pa_nil))))))
theorem ok__law_number {f : Addr} {fd : FuncData} (F : Fun Γ.K "_law_number" "_law_number" s__law_number f fd) (T : TX Γ mg) : FnOk P w Γ.K mg base CX0 1 f fd ["_law_word", "_law_low", "_law_high"] (sp__law_number Γ) := by
  have nd := sc__law_number.nd
  refine F.ok sc__law_number (fun vs H Q E h => ?_) (fun cdv A outer s H vs Q E hr h => ⟨t__law_number Γ, ?_, rd__law_number Γ  vs H Q E h⟩)
  · repeat (first | (obtain ⟨rfl, _⟩ := h; rfl) | (obtain ⟨_, h⟩ := h))
  · have hu := hr.units
    exact (pss_cons (ps_set (i := 3) nd rfl (Or.inl rfl) (pe_ifExp (pt_cmpR (op_eqU hu) (pe_slice sl_U (pv 0) po_none (po_some pe_int)) pe_str (nomark _)) (pe_slice sl_U (pv 0) (po_some pe_int) po_none) (pv 0)))
  (pss_cons (ps_if (PW.pt (pw_or (pt_cmpR (op_eqU hu) (pv 3) pe_str (nomark _)) (pw_or (pt_cmpR op_gtU (pe_callB call_len (by rfl) T.b_len (by decide +kernel) (pa_cons (pv 3) pa_nil)) pe_int (nomark _)) (pw_or1 (pt_cmpR (op_neU hu) (pe_lc (own := [("_law_sign", 4)]) (g := (gName 4)) (tt := (tTest (tOp rNotInSign (tVar 4) (tC (.str "0123456789"))))) rfl nd (pi_str (pv 3)) (blkOk_by (N := N__law_number) (sc := (defScope s__law_number)) (own := [("_law_sign", 4)]) (by decide +kernel)) (fun _ _ _ _ _ => (pg_name (i := 4) nd rfl (Or.inl rfl))) (fun _ _ _ _ _ => pts_one (pt_cmpR op_notIn_sign (pv 4) pe_str (by rfl))) (fun _ _ _ _ _ => (pv 4))) (pe_lst pa_nil) (nomark _)))))) (pss_one (ps_ret pe_bl)) pss_nil)
  (pss_one (ps_ret (pe_and (pe_cmpR (op_eqU hu) (pe_callTy call_str_int (by rfl) T.b_str (by decide +kernel) (pa_cons (pe_callTy call_int_str (by rfl) T.b_int (by decide +kernel) (pa_cons (pv 0) pa_nil)) pa_nil)) (pv 0) (nomark _)) (pe_one (pe_chain op_leU op_leU (pv 1) (pe_callTy call_int_str (by rfl) T.b_int (by decide +kernel) (pa_cons (pv 0) pa_nil)) (pv 2))))))))
theorem ok__law_term_wrong {f : Addr} {fd : FuncData} (F : Fun Γ.K "_law_term_wrong" "_law_term_wrong" s__law_term_wrong f fd) (T : TX Γ mg) (c__law_number : Cal P w Γ.K mg base CX0 "_law_number" 1 ["_law_word", "_law_low", "_law_high"] (sp__law_number Γ)) : FnOk P w Γ.K mg base CX0 2 f fd ["_law_words_so"] (sp__law_term_wrong Γ) := by
  have nd := sc__law_term_wrong.nd
  refine F.ok sc__law_term_wrong (fun vs H Q E h => ?_) (fun cdv A outer s H vs Q E hr h => ⟨t__law_term_wrong Γ, ?_, rd__law_term_wrong Γ  vs H Q E h⟩)
  · repeat (first | (obtain ⟨rfl, _⟩ := h; rfl) | (obtain ⟨_, h⟩ := h))
  · have hu := hr.units
    exact (pss_cons (ps_if (pt_cmpR (op_eqU hu) (pe_callB call_len (by rfl) T.b_len (by decide +kernel) (pa_cons (pv 0) pa_nil)) pe_int (nomark _)) (pss_one (ps_ret pe_non)) pss_nil)
  (pss_cons (ps_for PassesOwn.never rfl (pi_range2 rfl T.b_range (pa_cons pe_int (pa_cons (pe_callB call_len (by rfl) T.b_len (by decide +kernel) (pa_cons (pv 0) pa_nil)) pa_nil))) (pg_name (i := 1) nd rfl (Or.inl rfl)) (pss_cons (ps_set (i := 2) nd rfl (Or.inl rfl) (pe_op op_modU (pv 1) pe_int))
  (pss_cons (ps_set (i := 3) nd rfl (Or.inl rfl) (pe_ix ix_seq (pe_lst (pa_cons (pe_tup (pa_cons pe_int (pa_cons pe_int pa_nil))) (pa_cons (pe_tup (pa_cons (pe_un un_neg (pe_op op_powU pe_int pe_int)) (pa_cons (pe_op op_powU pe_int pe_int) pa_nil))) (pa_cons (pe_tup (pa_cons pe_int (pa_cons pe_int pa_nil))) (pa_cons (pe_tup (pa_cons pe_int (pa_cons pe_int pa_nil))) pa_nil))))) (pv 2) (fun _ _ => rfl)))
  (pss_cons (ps_if (PW.pt (pw_and (pt_cmpR (op_eqU hu) (pv 2) pe_int (nomark _)) (pw_and1 (PW.pt (pw_or (pt_cmpR (op_neU hu) (pe_ix ix_seq (pv 0) (pv 1) (fun _ _ => rfl)) pe_str (nomark _)) (pw_or1 (pt_cmpR op_geU (pv 1) pe_int (nomark _)))))))) (pss_one (ps_ret (pv 1))) pss_nil)
  (pss_one (ps_if (PW.pt (pw_and (pt_cmpR op_gtU (pv 2) pe_int (nomark _)) (pw_and1 (pt_not (pt_val (pe_cal c__law_number (hr.mono (by omega)) (by rfl) pass0 (pa_cons (pe_ix ix_seq (pv 0) (pv 1) (fun _ _ => rfl)) (pa_cons (pe_ix ix_seq (pv 3) pe_int (fun _ _ => rfl)) (pa_cons (pe_ix ix_seq (pv 3) pe_int (fun _ _ => rfl)) pa_nil))))))))) (pss_one (ps_ret (pv 1))) pss_nil))))))
  (pss_one (ps_ret (pe_ifExp (pt_cmpR (op_eqU hu) (pe_op op_modU (pe_callB call_len (by rfl) T.b_len (by decide +kernel) (pa_cons (pv 0) pa_nil)) pe_int) pe_int (nomark _)) pe_non (pe_callB call_len (by rfl) T.b_len (by decide +kernel) (pa_cons (pv 0) pa_nil)))))))
theorem ok__law_table_wrong {f : Addr} {fd : FuncData} (F : Fun Γ.K "_law_table_wrong" "_law_table_wrong" s__law_table_wrong f fd) (T : TX Γ mg) (c__law_number : Cal P w Γ.K mg base CX0 "_law_number" 1 ["_law_word", "_law_low", "_law_high"] (sp__law_number Γ)) : FnOk P w Γ.K mg base CX0 2 f fd ["_law_words_so"] (sp__law_table_wrong Γ) := by
  have nd := sc__law_table_wrong.nd
  refine F.ok sc__law_table_wrong (fun vs H Q E h => ?_) (fun cdv A outer s H vs Q E hr h => ⟨t__law_table_wrong Γ, ?_, rd__law_table_wrong Γ  vs H Q E h⟩)
  · repeat (first | (obtain ⟨rfl, _⟩ := h; rfl) | (obtain ⟨_, h⟩ := h))
  · have hu := hr.units
    exact (pss_cons (ps_asg (pe_tup (pa_cons pe_int (pa_cons pe_int (pa_cons pe_bl pa_nil)))) (pg_tup rfl (pgs_cons (pg_name (i := 1) nd rfl (Or.inl rfl)) (pgs_cons (pg_name (i := 2) nd rfl (Or.inl rfl)) (pgs_cons (pg_name (i := 3) nd rfl (Or.inl rfl)) pgs_nil)))))
  (pss_cons (ps_for PassesOwn.never rfl (pi_range2 rfl T.b_range (pa_cons pe_int (pa_cons (pe_callB call_len (by rfl) T.b_len (by decide +kernel) (pa_cons (pv 0) pa_nil)) pa_nil))) (pg_name (i := 4) nd rfl (Or.inl rfl)) (pss_one (ps_if (pt_cmpR (op_eqU hu) (pe_ix ix_seq (pv 0) (pv 4) (fun _ _ => rfl)) pe_str (nomark _)) (pss_cons (ps_if (PW.pt (pw_or (pt_cmpR (op_eqU hu) (pv 2) pe_int (nomark _)) (pw_or (PW.pt (pw_and (pt_not (pt_val (pv 3))) (pw_and1 (pt_cmpR op_ltU (pv 2) (pv 1) (nomark _))))) (pw_or (PW.pt (pw_and (pt_val (pv 3)) (pw_and1 (pt_cmpR (op_eqU hu) (pv 2) pe_int (nomark _))))) (pw_or1 (pt_cmpR (op_eqU hu) (pv 1) pe_int (nomark _))))))) (pss_one (ps_ret (pv 4))) pss_nil)
  (pss_one (ps_par3 (i := 1) (j := 2) (l := 3) rfl nd rfl rfl rfl (by decide) (by decide) (by decide) rfl rfl rfl (pa_cons (pe_op op_subU (pe_ifExp (pt_val (pv 3)) (pv 2) (pv 1)) pe_int) (pa_cons pe_int (pa_cons pe_bl pa_nil))) (by rfl)))) (pss_one (ps_if (PW.pt (pw_or (pt_cmpR (op_eqU hu) (pv 2) (pv 1) (nomark _)) (pw_or1 (pt_not (pt_val (pe_cal c__law_number (hr.mono (by omega)) (by rfl) pass0 (pa_cons (pe_ix ix_seq (pv 0) (pv 4) (fun _ _ => rfl)) (pa_cons (pe_un un_neg (pe_op op_powU pe_int pe_int)) (pa_cons (pe_op op_powU pe_int pe_int) pa_nil))))))))) (pss_one (ps_ret (pv 4))) (pss_one (ps_set (i := 2) nd rfl (Or.inl rfl) (pe_op op_addU (pv 2) pe_int))))))))
  (pss_cons (ps_set (i := 5) nd rfl (Or.inl rfl) (pe_ifExp (pt_val (pv 3)) (pe_cmpR (op_eqU hu) (pv 2) pe_int (nomark _)) (pe_chain (op_eqU hu) (op_eqU hu) (pv 2) (pv 1) pe_int)))
  (pss_one (ps_ret (pe_ifExp (pt_val (pv 5)) pe_non (pe_callB call_len (by rfl) T.b_len (by decide +kernel) (pa_cons (pv 0) pa_nil))))))))
theorem ok__law_wrong {f : Addr} {fd : FuncData} (F : Fun Γ.K "_law_wrong" "_law_wrong" s__law_wrong f fd) (T : TX Γ mg) (c__law_table_wrong : Cal P w Γ.K mg base CX0 "_law_table_wrong" 2 ["_law_words_so"] (sp__law_table_wrong Γ)) (c__law_term_wrong : Cal P w Γ.K mg base CX0 "_law_term_wrong" 2 ["_law_words_so"] (sp__law_term_wrong Γ)) : FnOk P w Γ.K mg base CX0 3 f fd ["_law_text"] (sp__law_wrong Γ) := by
  have nd := sc__law_wrong.nd
  refine F.ok sc__law_wrong (fun vs H Q E h => ?_) (fun cdv A outer s H vs Q E hr h => ⟨t__law_wrong Γ, ?_, rd__law_wrong Γ  vs H Q E h⟩)
  · repeat (first | (obtain ⟨rfl, _⟩ := h; rfl) | (obtain ⟨_, h⟩ := h))
  · have hu := hr.units
    exact (pss_cons (ps_set (i := 1) nd rfl (Or.inl rfl) (pe_split (pv 0) pe_str))
  (pss_cons (ps_if (pt_cmpR op_notInU (pe_ix ix_seq (pv 1) pe_int (fun _ _ => rfl)) (pe_lst (pa_cons pe_str (pa_cons pe_str pa_nil))) (by rfl)) (pss_one (ps_ret pe_int)) pss_nil)
  (pss_one (ps_ret (pe_ifExp (pt_cmpR (op_eqU hu) (pe_ix ix_seq (pv 1) pe_int (fun _ _ => rfl)) pe_str (nomark _)) (pe_cal c__law_table_wrong (hr.mono (by omega)) (by rfl) pass0 (pa_cons (pv 1) pa_nil)) (pe_cal c__law_term_wrong (hr.mono (by omega)) (by rfl) pass0 (pa_cons (pv 1) pa_nil)))))))
theorem ok__law_spoilt {f : Addr} {fd : FuncData} (F : Fun Γ.K "_law_spoilt" "_law_spoilt" s__law_spoilt f fd) (T : TX Γ mg) (c__law_below : Cal P w Γ.K mg base CX0 "_law_below" 1 ["_law_d", "_law_size"] (sp__law_below Γ)) (c__law_pick : Cal P w Γ.K mg base CX0 "_law_pick" 2 ["_law_d", "_law_items"] (sp__law_pick Γ)) : FnOk P w Γ.K mg base CX0 3 f fd ["_law_d", "_law_text"] (sp__law_spoilt Γ) := by
  have nd := sc__law_spoilt.nd
  refine F.ok sc__law_spoilt (fun vs H Q E h => ?_) (fun cdv A outer s H vs Q E hr h => ⟨t__law_spoilt Γ, ?_, rd__law_spoilt Γ  vs H Q E h⟩)
  · repeat (first | (obtain ⟨rfl, _⟩ := h; rfl) | (obtain ⟨_, h⟩ := h))
  · have hu := hr.units
    exact (pss_cons (ps_par (i := 2) (j := 3) rfl nd rfl rfl (by decide) rfl rfl (pa_cons (pe_cal c__law_below (hr.mono (by omega)) (by rfl) pass0 (pa_cons (pv 0) (pa_cons pe_int pa_nil))) (pa_cons (pe_cal c__law_below (hr.mono (by omega)) (by rfl) pass0 (pa_cons (pv 0) (pa_cons (pe_op op_addU (pe_callB call_len (by rfl) T.b_len (by decide +kernel) (pa_cons (pv 1) pa_nil)) pe_int) pa_nil))) pa_nil)) (by rfl))
  (pss_cons (ps_set (i := 4) nd rfl (Or.inl rfl) (pe_cal c__law_pick (hr.mono (by omega)) (by rfl) pass0 (pa_cons (pv 0) (pa_cons (pe_callTy (call_listS rfl) (by rfl) T.b_list (by decide +kernel) (pa_cons pe_str pa_nil)) pa_nil))))
  (pss_cons (ps_if (pt_cmpR (op_eqU hu) (pv 2) pe_int (nomark _)) (pss_one (ps_ret (pe_slice sl_U (pv 1) po_none (po_some (pv 3))))) pss_nil)
  (pss_cons (ps_if (pt_cmpR (op_eqU hu) (pv 2) pe_int (nomark _)) (pss_one (ps_ret (pe_op op_addU (pe_slice sl_U (pv 1) po_none (po_some (pv 3))) (pe_slice sl_U (pv 1) (po_some (pe_op op_addU (pv 3) pe_int)) po_none)))) pss_nil)
  (pss_cons (ps_if (pt_cmpR (op_eqU hu) (pv 2) pe_int (nomark _)) (pss_one (ps_ret (pe_op op_addU (pe_op op_addU (pe_slice sl_U (pv 1) po_none (po_some (pv 3))) (pv 4)) (pe_slice sl_U (pv 1) (po_some (pe_op op_addU (pv 3) pe_int)) po_none)))) pss_nil)
  (pss_cons (ps_if (pt_cmpR (op_eqU hu) (pv 2) pe_int (nomark _)) (pss_one (ps_ret (pe_op op_addU (pe_op op_addU (pe_slice sl_U (pv 1) po_none (po_some (pv 3))) (pe_slice sl_U (pv 1) (po_some (pv 3)) (po_some (pe_op op_addU (pv 3) pe_int)))) (pe_slice sl_U (pv 1) (po_some (pv 3)) po_none)))) pss_nil)
  (pss_one (ps_ret (pe_op op_addU (pe_op op_addU (pe_slice sl_U (pv 1) po_none (po_some (pv 3))) (pv 4)) (pe_slice sl_U (pv 1) (po_some (pv 3)) po_none))))))))))
theorem ok__law_told {f : Addr} {fd : FuncData} (F : Fun Γ.K "_law_told" "_law_told" s__law_told f fd) (T : TX Γ mg) (c_read : Cal P w Γ.K mg base (L2.CX P w) "read" 7 ["text"] (sp_read Γ)) : FnOk P w Γ.K mg base CX0 8 f fd ["_law_text"] (sp__law_told Γ) := by
  have nd := sc__law_told.nd
  refine F.ok sc__law_told (fun vs H Q E h => ?_) (fun cdv A outer s H vs Q E hr h => ⟨t__law_told_k23 Γ, ?_, rd__law_told_k23 Γ ⟨T.e_BadText_BadText⟩ vs H Q E h⟩)
  · repeat (first | (obtain ⟨rfl, _⟩ := h; rfl) | (obtain ⟨_, h⟩ := h))
  · have hu := hr.units
    exact (pss_cons (ps_set (i := 1) nd rfl (Or.inl rfl) (pe_lst pa_nil))
  (pss_cons (ps_try_mix (tb := fun W => (tDrop (tCalS (sp_read Γ) (WE' W) (tCons (tVar 0) tNil)))) (l := ([((.ref Γ.cBadText : Value), some 2, (fun a cls d => (tDrop (tBM Γ.K "list" rAppend (tVar 1) (tCons (tXf a cls d Γ.cBadText "word" (tVar 2)) tNil)))))] : List HdS)) (Wout := fun _ _ _ _ => False) nd rfl rfl takes0 (fun W pn xe tk px => (pss_one (ps_expr (pe_calS c_read (hr.mono (by omega)) (by rfl) (fun σ => passAt' tk σ) (pa_cons (pv 0) pa_nil))))) (.consAs (ts := (fun a cls d => (tDrop (tBM Γ.K "list" rAppend (tVar 1) (tCons (tXf a cls d Γ.cBadText "word" (tVar 2)) tNil))))) (i := 2) rfl rfl ⟨rfl, by decide, .inl T.m_BadText⟩ (fun a oe cls d pn hz hf => (pss_one (ps_expr (pe_bm PySem.F.plainAttrs_list PySem.F.slot_list_append PySem.F.type_list_append mt_append (pv 1) (pa_cons (pe_xf T.err_BadText.X T.err_BadText.n hz hf (pv 2)) pa_nil))))) .nil))
  (pss_one (ps_ret (pv 1)))))
theorem ok_law {f : Addr} {fd : FuncData} (F : Fun Γ.K "law" "law" s_law f fd) (T : TX Γ mg) (c__law_random : Cal P w Γ.K mg base CX0 "_law_random" 1 ["_law_script", "_law_salt"] (sp__law_random Γ)) (c__law_rule : Cal P w Γ.K mg base CX0 "_law_rule" 7 ["_law_d", "_law_most"] (sp__law_rule Γ)) (c__law_spoilt : Cal P w Γ.K mg base CX0 "_law_spoilt" 3 ["_law_d", "_law_text"] (sp__law_spoilt Γ)) (c__law_told : Cal P w Γ.K mg base CX0 "_law_told" 8 ["_law_text"] (sp__law_told Γ)) (c__law_wrong : Cal P w Γ.K mg base CX0 "_law_wrong" 3 ["_law_text"] (sp__law_wrong Γ)) (c_read : Cal P w Γ.K mg base (L2.CX P w) "read" 7 ["text"] (sp_read Γ)) (c_write : Cal P w Γ.K mg base CX0 "write" 1 ["rule"] (sp_write Γ)) (p_Rule_kind : CalP P w Γ.K mg base Γ.cRule "kind" "form" 1) (p_Rule_parts : CalP P w Γ.K mg base Γ.cRule "parts" "body" 1) : FnOk P w Γ.K mg base CX0 9 f fd ["_law_script"] (spLaw Γ.K) := by
  have nd := sc_law.nd
  refine F.ok sc_law (fun vs H Q E h => ?_) (fun cdv A outer s H vs Q E hr h => ⟨t_law_k23 Γ, ?_, rd_law_k23 Γ  vs H Q E h⟩)
  · repeat (first | (obtain ⟨rfl, _⟩ := h; rfl) | (obtain ⟨_, h⟩ := h))
  · have hu := hr.units
    exact (pss_cons (ps_set (i := 1) nd rfl (Or.inl rfl) (pe_cal c__law_random (hr.mono (by omega)) (by rfl) pass0 (pa_cons (pv 0) (pa_cons pe_int pa_nil))))
  (pss_cons (ps_for PassesOwn.never rfl (pi_range1 rfl T.b_range (pa_cons pe_int pa_nil)) (pg_name (i := 2) nd rfl (Or.inl rfl)) (pss_cons (ps_set (i := 3) nd rfl (Or.inl rfl) (pe_cal c__law_rule (hr.mono (by omega)) (by rfl) pass0 (pa_cons (pv 1) (pa_cons pe_int pa_nil))))
  (pss_cons (ps_set (i := 4) nd rfl (Or.inl rfl) (pe_join pe_str (pe_lc (own := [("_law_row", 10)]) (g := (gName 10)) (tt := tYes) rfl nd (pi_seq (pe_prp p_Rule_parts (hr.mono (by omega)) (pv 3) rfl)) (blkOk_by (N := N_law) (sc := (defScope s_law)) (own := [("_law_row", 10)]) (by decide +kernel)) (fun _ _ _ _ _ => (pg_name (i := 10) nd rfl (Or.inl rfl))) (fun _ _ _ _ _ => pts_nil) (fun _ _ _ _ _ => (pe_join pe_str (pe_lc (own := [("_law_number_here", 11)]) (g := (gName 11)) (tt := tYes) rfl nd (pi_seq (pv 10)) (by apply blkOk_by; rfl) (fun _ _ _ _ _ => (pg_name (i := 11) nd rfl (Or.inl rfl))) (fun _ _ _ _ _ => pts_nil) (fun _ _ _ _ _ => (pe_callTy call_str_int (by rfl) T.b_str (by decide +kernel) (pa_cons (pv 11) pa_nil)))))))))
  (pss_cons (ps_set (i := 4) nd rfl (Or.inl rfl) (pe_cal c__law_spoilt (hr.mono (by omega)) (by rfl) pass0 (pa_cons (pv 1) (pa_cons (pe_op op_addU (pe_prp p_Rule_kind (hr.mono (by omega)) (pv 3) rfl) (pe_ifExp (pt_cmpR (op_neU hu) (pv 4) pe_str (nomark _)) (pe_op op_addU pe_str (pv 4)) pe_str)) pa_nil))))
  (pss_cons (ps_set (i := 5) nd rfl (Or.inl rfl) (pe_cal c__law_wrong (hr.mono (by omega)) (by rfl) pass0 (pa_cons (pv 4) pa_nil)))
  (pss_one (ps_if (PW.pt (pw_or (pt_cmpR (op_neU hu) (pe_cal c__law_told (hr.mono (by omega)) (by rfl) pass0 (pa_cons (pv 4) pa_nil)) (pe_ifExp (pt_cmpR op_isU (pv 5) pe_non (nomark _)) (pe_lst pa_nil) (pe_lst (pa_cons (pv 5) pa_nil))) (nomark _)) (pw_or1 (PW.pt (pw_and (pt_cmpR op_isU (pv 5) pe_non (nomark _)) (pw_and1 (pt_cmpR (op_neU hu) (pe_cal c_write (hr.mono (by omega)) (by rfl) pass0 (pa_cons (pe_cal c_read (hr.mono (by omega)) (by rfl) passL (pa_cons (pv 4) pa_nil)) pa_nil)) (pv 4) (nomark _)))))))) (pss_one (ps_ret pe_bl)) pss_nil)))))))
  (pss_cons (ps_set (i := 6) nd rfl (Or.inl rfl) (pe_join pe_str (pe_op op_mulU (pe_lst (pa_cons pe_str pa_nil)) pe_int)))
  (pss_cons (ps_set (i := 7) nd rfl (Or.inl rfl) (pe_lst (pa_cons pe_str (pa_cons pe_str (pa_cons pe_str (pa_cons pe_str (pa_cons pe_str (pa_cons pe_str (pa_cons pe_str (pa_cons pe_str (pa_cons pe_str pa_nil)))))))))))
  (pss_cons (ps_set (i := 7) nd rfl (Or.inl rfl) (pe_op op_addU (pv 7) (pe_lst (pa_cons pe_str (pa_cons pe_str (pa_cons pe_str (pa_cons pe_str (pa_cons pe_str pa_nil))))))))
  (pss_cons (ps_set (i := 7) nd rfl (Or.inl rfl) (pe_op op_addU (pv 7) (pe_lst (pa_cons pe_str (pa_cons pe_str (pa_cons pe_str (pa_cons pe_str (pa_cons pe_str pa_nil))))))))
  (pss_cons (ps_set (i := 7) nd rfl (Or.inl rfl) (pe_op op_addU (pv 7) (pe_lst (pa_cons pe_str (pa_cons pe_str (pa_cons pe_str (pa_cons pe_str (pa_cons pe_str (pa_cons pe_str (pa_cons pe_str pa_nil))))))))))
  (pss_cons (ps_set (i := 7) nd rfl (Or.inl rfl) (pe_op op_addU (pv 7) (pe_lst (pa_cons pe_str (pa_cons pe_str pa_nil)))))
  (pss_cons (ps_set (i := 8) nd rfl (Or.inl rfl) (pe_op op_addU (pe_op op_addU pe_str (pe_op op_mulS pe_str pe_int)) pe_str))
  (pss_cons (ps_for PassesOwn.never rfl (pi_seq (pe_op op_addU (pv 7) (pe_lst (pa_cons (pv 8) (pa_cons (pe_op op_addU (pv 8) pe_str) (pa_cons (pe_op op_addU (pv 8) pe_str) (pa_cons (pe_op op_addU pe_str (pv 6)) (pa_cons (pe_op op_addU (pe_op op_addU pe_str (pv 6)) pe_str) (pa_cons pe_str pa_nil))))))))) (pg_name (i := 4) nd rfl (Or.inl rfl)) (pss_cons (ps_set (i := 5) nd rfl (Or.inl rfl) (pe_cal c__law_wrong (hr.mono (by omega)) (by rfl) pass0 (pa_cons (pv 4) pa_nil)))
  (pss_one (ps_if (pt_cmpR (op_neU hu) (pe_cal c__law_told (hr.mono (by omega)) (by rfl) pass0 (pa_cons (pv 4) pa_nil)) (pe_ifExp (pt_cmpR op_isU (pv 5) pe_non (nomark _)) (pe_lst pa_nil) (pe_lst (pa_cons (pv 5) pa_nil))) (nomark _)) (pss_one (ps_ret pe_bl)) pss_nil))))
  (pss_cons (ps_set (i := 7) nd rfl (Or.inl rfl) (pe_lst (pa_cons (pe_tup (pa_cons pe_str (pa_cons pe_int pa_nil))) (pa_cons (pe_tup (pa_cons pe_str (pa_cons pe_int pa_nil))) (pa_cons (pe_tup (pa_cons pe_str (pa_cons pe_int pa_nil))) pa_nil)))))
  (pss_cons (ps_for PassesOwn.never rfl (pi_seq (pe_op op_addU (pv 7) (pe_lst (pa_cons (pe_tup (pa_cons (pe_op op_addU (pe_op op_addU pe_str (pe_op op_mulS pe_str pe_int)) pe_str) (pa_cons pe_int pa_nil))) pa_nil)))) (pg_tup rfl (pgs_cons (pg_name (i := 4) nd rfl (Or.inl rfl)) (pgs_cons (pg_name (i := 9) nd rfl (Or.inl rfl)) pgs_nil))) (pss_one (ps_if (pt_cmpR (op_neU hu) (pe_cal c__law_told (hr.mono (by omega)) (by rfl) pass0 (pa_cons (pv 4) pa_nil)) (pe_lst (pa_cons (pv 9) pa_nil)) (nomark _)) (pss_one (ps_ret pe_bl)) pss_nil)))
  (pss_one (ps_ret (pe_cmpR (op_eqU hu) (pe_lc (own := [("_law_value", 12)]) (g := (gName 12)) (tt := (tTest (tOp (rNeU Γ.K) (tCal (sp__law_told Γ) E0 (tCons (tVar 12) tNil)) (tLst (tCons (tC .non) tNil))))) rfl nd (pi_seq (pe_lst (pa_cons pe_non (pa_cons pe_int (pa_cons pe_bl (pa_cons (pe_lst pa_nil) (pa_cons (pe_tup pa_nil) (pa_cons pe_dnewK (pa_cons (pe_lst (pa_cons pe_str pa_nil)) pa_nil))))))))) (blkOk_by (N := N_law) (sc := (defScope s_law)) (own := [("_law_value", 12)]) (by decide +kernel)) (fun _ _ _ _ _ => (pg_name (i := 12) nd rfl (Or.inl rfl))) (fun _ _ _ _ _ => pts_one (pt_cmpR (op_neU hu) (pe_cal c__law_told (hr.mono (by omega)) (by rfl) pass0 (pa_cons (pv 12) pa_nil)) (pe_lst (pa_cons pe_non pa_nil)) (nomark _))) (fun _ _ _ _ _ => (pv 12))) (pe_lst pa_nil) (nomark _))))))))))))))))
end
abbrev s_Rule_kind : Stmt := inClass (top 14) 1
abbrev s_Rule_parts : Stmt := inClass (top 14) 2
theorem all {l : PySem.W.OpenLaw} {w : World} {K : PySem.W.Frag} {h : Heap} {mg : Str → Option Value} {fa : Addr} (X : K.In h) (G : h.Ns mainGlobals mg) (hfa : mg "law" = some (.ref fa))
    {cBadRule cBadText cRule f_RuleU_initU f_BadTextU_initU pp_Rule_kind pg__Rule_kind pp_Rule_parts pg__Rule_parts : Addr}
    {t_MOST_TABLE t_MOST_POINTS t_MOST_TERMS t_MOST_EXPONENT t_FIGURES t_SIGN : Tok}
    {rest_Rule_kind : List Value}
    {rest_Rule_parts : List Value}
    {nmBadText qBadText : Str} {NBadText : Addr} {bsBadText bmBadText : List Value} {snBadText : List Str} {subBadText : List Value} {abBadText : Bool} {colBadText : Option Bool} {ddBadText : Option Addr} {k0BadText k1BadText k2BadText k3BadText k5BadText : Option Value}
    (D_is_integer : DefAt K mg "is_integer" "is_integer" s_is_integer)
    (D_is_from : DefAt K mg "is_from" "is_from" s_is_from)
    (D_are_rows : DefAt K mg "are_rows" "are_rows" s_are_rows)
    (D_is_term : DefAt K mg "is_term" "is_term" s_is_term)
    (D_are_terms : DefAt K mg "are_terms" "are_terms" s_are_terms)
    (D_write : DefAt K mg "write" "write" s_write)
    (D_number_in : DefAt K mg "number_in" "number_in" s_number_in)
    (D_rows_in : DefAt K mg "rows_in" "rows_in" s_rows_in)
    (D_terms_in : DefAt K mg "terms_in" "terms_in" s_terms_in)
    (D_table_in : DefAt K mg "table_in" "table_in" s_table_in)
    (D_read : DefAt K mg "read" "read" s_read)
    (D__law_random : DefAt K mg "_law_random" "_law_random" s__law_random)
    (D__law_below : DefAt K mg "_law_below" "_law_below" s__law_below)
    (D__law_pick : DefAt K mg "_law_pick" "_law_pick" s__law_pick)
    (D__law_table : DefAt K mg "_law_table" "_law_table" s__law_table)
    (D__law_terms : DefAt K mg "_law_terms" "_law_terms" s__law_terms)
    (D__law_rule : DefAt K mg "_law_rule" "_law_rule" s__law_rule)
    (D__law_number : DefAt K mg "_law_number" "_law_number" s__law_number)
    (D__law_term_wrong : DefAt K mg "_law_term_wrong" "_law_term_wrong" s__law_term_wrong)
    (D__law_table_wrong : DefAt K mg "_law_table_wrong" "_law_table_wrong" s__law_table_wrong)
    (D__law_wrong : DefAt K mg "_law_wrong" "_law_wrong" s__law_wrong)
    (D__law_spoilt : DefAt K mg "_law_spoilt" "_law_spoilt" s__law_spoilt)
    (D__law_told : DefAt K mg "_law_told" "_law_told" s__law_told)
    (D_law : DefAt K mg "law" "law" s_law)
    (b_abs : PySem.W.nsIn K mainGlobals "abs" = some none)
    (b_all : PySem.W.nsIn K mainGlobals "all" = some none)
    (b_bool : PySem.W.nsIn K mainGlobals "bool" = some none)
    (b_enumerate : PySem.W.nsIn K mainGlobals "enumerate" = some none)
    (b_int : PySem.W.nsIn K mainGlobals "int" = some none)
    (b_isinstance : PySem.W.nsIn K mainGlobals "isinstance" = some none)
    (b_len : PySem.W.nsIn K mainGlobals "len" = some none)
    (b_list : PySem.W.nsIn K mainGlobals "list" = some none)
    (b_min : PySem.W.nsIn K mainGlobals "min" = some none)
    (b_range : PySem.W.nsIn K mainGlobals "range" = some none)
    (b_str : PySem.W.nsIn K mainGlobals "str" = some none)
    (b_tuple : PySem.W.nsIn K mainGlobals "tuple" = some none)
    (g_MOST_TABLE : PySem.W.nsIn K mainGlobals "MOST_TABLE" = some (some (.int 40 t_MOST_TABLE)))
    (g_MOST_POINTS : PySem.W.nsIn K mainGlobals "MOST_POINTS" = some (some (.int 1000000 t_MOST_POINTS)))
    (g_MOST_TERMS : PySem.W.nsIn K mainGlobals "MOST_TERMS" = some (some (.int 6 t_MOST_TERMS)))
    (g_MOST_EXPONENT : PySem.W.nsIn K mainGlobals "MOST_EXPONENT" = some (some (.int 4 t_MOST_EXPONENT)))
    (g_FIGURES : PySem.W.nsIn K mainGlobals "FIGURES" = some (some (.str "0123456789" t_FIGURES)))
    (g_SIGN : PySem.W.nsIn K mainGlobals "SIGN" = some (some (.str "/" t_SIGN)))
    (a_BadRule : PySem.W.nsIn K mainGlobals "BadRule" = some (some (.ref cBadRule)))
    (a_BadText : PySem.W.nsIn K mainGlobals "BadText" = some (some (.ref cBadText)))
    (a_Rule : PySem.W.nsIn K mainGlobals "Rule" = some (some (.ref cRule)))
    (pg_Rule : PySem.W.plainGet K cRule Str.empty = true)
    (hd_Rule : PySem.W.hasDictIn K cRule = true)
    (po_Rule : PySem.W.plainOver K cRule = true)
    (sa_Rule : PySem.W.findIn K (.ref cRule) "__setattr__" = some (some (.builtin "object.__setattr__")))
    (nF_Rule : PySem.W.findIn K (.ref cRule) "form" = some none)
    (nB_Rule : PySem.W.findIn K (.ref cRule) "body" = some none)
    (f_RuleU_initU_at : PySem.W.findIn K (.ref cRule) "__init__" = some (some (.ref f_RuleU_initU)))
    (i_RuleU_initU : PySem.W.isFn K (.ref f_RuleU_initU) = true)
    (F_RuleU_initU : FunAt K "__init__" "Rule.__init__" s_RuleU_initU f_RuleU_initU)
    (mk_RuleU_initU : PySem.W.makesIn K cRule = true)
    (kc_RuleU_initU : PySem.W.keepIn K (.ref cRule) = true)
    (f_BadTextU_initU_at : PySem.W.findIn K (.ref cBadText) "__init__" = some (some (.ref f_BadTextU_initU)))
    (i_BadTextU_initU : PySem.W.isFn K (.ref f_BadTextU_initU) = true)
    (F_BadTextU_initU : FunAt K "__init__" "BadText.__init__" s_BadTextU_initU f_BadTextU_initU)
    (pf_Rule_kind : PySem.W.findIn K (.ref cRule) "kind" = some (some (.ref pp_Rule_kind)))
    (ps_Rule_kind : PySem.W.specialIn K (.ref pp_Rule_kind) "__get__" = some (some (.builtin "property.__get__")))
    (pt_Rule_kind : PySem.W.takesIn K (.ref pp_Rule_kind) = some true)
    (pr_Rule_kind : PySem.W.recIn K pp_Rule_kind "property" = some (.ref pg__Rule_kind :: rest_Rule_kind))
    (pF_Rule_kind : FunAt K "kind" "Rule.kind" s_Rule_kind pg__Rule_kind)
    (pf_Rule_parts : PySem.W.findIn K (.ref cRule) "parts" = some (some (.ref pp_Rule_parts)))
    (ps_Rule_parts : PySem.W.specialIn K (.ref pp_Rule_parts) "__get__" = some (some (.builtin "property.__get__")))
    (pt_Rule_parts : PySem.W.takesIn K (.ref pp_Rule_parts) = some true)
    (pr_Rule_parts : PySem.W.recIn K pp_Rule_parts "property" = some (.ref pg__Rule_parts :: rest_Rule_parts))
    (pF_Rule_parts : FunAt K "parts" "Rule.parts" s_Rule_parts pg__Rule_parts)
    (xx_BadRule : PySem.W.excIn K cBadRule [.type "ValueError", .type "Exception", .type "BaseException", .type "object"] "ValueError.__new__" = true)
    (xk_BadRule : PySem.W.keepIn K (.ref cBadRule) = true)
    (xb_BadRule : PySem.W.subIn K (.ref cBadRule) (.type "BaseException") = some true)
    (xt_BadRule : PySem.W.typeIn K (.ref cBadRule) = some (.type "type"))
    (xi_BadText : PySem.W.isClsIn K cBadText = true)
    (xb_BadText : PySem.W.subIn K (.ref cBadText) (.type "BaseException") = some true)
    (xt_BadText : PySem.W.typeIn K (.ref cBadText) = some (.type "type"))
    (es_BadText_BadText : PySem.W.subIn K (.ref cBadText) (.ref cBadText) = some true)
    (oc_BadText : K.lookup cBadText = some (excClassObj nmBadText qBadText cBadText NBadText bsBadText bmBadText true snBadText subBadText abBadText colBadText ddBadText k0BadText k1BadText k2BadText k3BadText k5BadText "ValueError.__new__"))
    (or_BadText : PySem.HandSPX.refsVE bmBadText = true)
    (os_BadText : PySem.W.findIn K (.ref cBadText) "__setattr__" = some (some (.builtin "object.__setattr__")))
    (ox_BadText : PySem.W.subIn K (.ref cBadText) (.type "BaseException") = some true)
    (ot_BadText : PySem.W.typeIn K (.ref cBadText) = some (.type "type"))
    (okk_BadText : PySem.W.keepIn K (.ref cBadText) = true)
    (oga_BadText : PySem.W.findIn K (.ref cBadText) "__getattribute__" = some (some (.builtin "BaseException.__getattribute__")))
    (ogg_BadText : PySem.W.findIn K (.ref cBadText) "__getattr__" = some none)
    (ohd_BadText : PySem.W.hasDictIn K cBadText = true)
    (on_BadText : PySem.W.findIn K (.ref cBadText) "word" = some none)
    : ∃ fd : FuncData, (∀ (s : Shared) (v : Value), BindsTo s fd ⟨[v], []⟩ [("_law_script", v)]) ∧ ∀ base : Heap, K.In base → base.Ns mainGlobals mg → FnOk l.prog w K mg base CX0 9 fa fd ["_law_script"] (spLaw K) := by
  obtain ⟨Γ, hΓ⟩ : ∃ Γ : Gm, Γ = { K := K, cRule := cRule, cGame := fa, cSplitError := fa, cBadRule := cBadRule, cBadHeap := fa, cBadSplit := fa, cNoTerms := fa, cNoTable := fa, cNotSure := fa, cBadWay := fa, cBadStyle := fa, cBadSums := fa, cBadNumber := fa, cTooGreat := fa, cBadRow := fa, cBadPlace := fa, cBadText := cBadText, aSTYLES := fa } := ⟨_, rfl⟩
  have hK : K = Γ.K := by rw [hΓ]
  have h_cBadRule : cBadRule = Γ.cBadRule := by rw [hΓ]
  have h_cBadText : cBadText = Γ.cBadText := by rw [hΓ]
  have h_cRule : cRule = Γ.cRule := by rw [hΓ]
  clear hΓ
  subst h_cBadRule h_cBadText h_cRule hK
  have cls_Rule : Cls Γ.K Γ.cRule := ⟨pg_Rule, hd_Rule, po_Rule, sa_Rule⟩
  have T : TX Γ mg := {
    b_abs := PySem.W.mg_none_of X G b_abs
    b_all := PySem.W.mg_none_of X G b_all
    b_bool := PySem.W.mg_none_of X G b_bool
    b_enumerate := PySem.W.mg_none_of X G b_enumerate
    b_int := PySem.W.mg_none_of X G b_int
    b_isinstance := PySem.W.mg_none_of X G b_isinstance
    b_len := PySem.W.mg_none_of X G b_len
    b_list := PySem.W.mg_none_of X G b_list
    b_min := PySem.W.mg_none_of X G b_min
    b_range := PySem.W.mg_none_of X G b_range
    b_str := PySem.W.mg_none_of X G b_str
    b_tuple := PySem.W.mg_none_of X G b_tuple
    c_MOST_TABLE := ⟨_, PySem.W.mg_of X G g_MOST_TABLE⟩
    c_MOST_POINTS := ⟨_, PySem.W.mg_of X G g_MOST_POINTS⟩
    c_MOST_TERMS := ⟨_, PySem.W.mg_of X G g_MOST_TERMS⟩
    c_MOST_EXPONENT := ⟨_, PySem.W.mg_of X G g_MOST_EXPONENT⟩
    c_FIGURES := ⟨_, PySem.W.mg_of X G g_FIGURES⟩
    c_SIGN := ⟨_, PySem.W.mg_of X G g_SIGN⟩
    x_BadRule := ⟨⟨_, xx_BadRule, _, _, PySem.F.excBase_ValueError⟩, PySem.W.mg_of X G a_BadRule, xk_BadRule, xb_BadRule, xt_BadRule⟩
    m_BadText := PySem.W.mg_of X G a_BadText
    e_BadText_BadText := exm_of xb_BadText xi_BadText xt_BadText es_BadText_BadText
    rule := ⟨cls_Rule, nF_Rule, nB_Rule⟩
    err_BadText := ⟨oex_mk oc_BadText or_BadText os_BadText ox_BadText ot_BadText okk_BadText, ⟨oga_BadText, ogg_BadText, ox_BadText, ohd_BadText⟩, on_BadText⟩
  }
  obtain ⟨fl, fdl, ml, Fl⟩ := D_law
  cases hfa.symm.trans ml
  obtain ⟨f_is_integer, fd_is_integer, m_is_integer, F_is_integer⟩ := D_is_integer
  obtain ⟨f_is_from, fd_is_from, m_is_from, F_is_from⟩ := D_is_from
  obtain ⟨f_are_rows, fd_are_rows, m_are_rows, F_are_rows⟩ := D_are_rows
  obtain ⟨f_is_term, fd_is_term, m_is_term, F_is_term⟩ := D_is_term
  obtain ⟨f_are_terms, fd_are_terms, m_are_terms, F_are_terms⟩ := D_are_terms
  obtain ⟨f_write, fd_write, m_write, F_write⟩ := D_write
  obtain ⟨f_number_in, fd_number_in, m_number_in, F_number_in⟩ := D_number_in
  obtain ⟨f_rows_in, fd_rows_in, m_rows_in, F_rows_in⟩ := D_rows_in
  obtain ⟨f_terms_in, fd_terms_in, m_terms_in, F_terms_in⟩ := D_terms_in
  obtain ⟨f_table_in, fd_table_in, m_table_in, F_table_in⟩ := D_table_in
  obtain ⟨f_read, fd_read, m_read, F_read⟩ := D_read
  obtain ⟨f__law_random, fd__law_random, m__law_random, F__law_random⟩ := D__law_random
  obtain ⟨f__law_below, fd__law_below, m__law_below, F__law_below⟩ := D__law_below
  obtain ⟨f__law_pick, fd__law_pick, m__law_pick, F__law_pick⟩ := D__law_pick
  obtain ⟨f__law_table, fd__law_table, m__law_table, F__law_table⟩ := D__law_table
  obtain ⟨f__law_terms, fd__law_terms, m__law_terms, F__law_terms⟩ := D__law_terms
  obtain ⟨f__law_rule, fd__law_rule, m__law_rule, F__law_rule⟩ := D__law_rule
  obtain ⟨f__law_number, fd__law_number, m__law_number, F__law_number⟩ := D__law_number
  obtain ⟨f__law_term_wrong, fd__law_term_wrong, m__law_term_wrong, F__law_term_wrong⟩ := D__law_term_wrong
  obtain ⟨f__law_table_wrong, fd__law_table_wrong, m__law_table_wrong, F__law_table_wrong⟩ := D__law_table_wrong
  obtain ⟨f__law_wrong, fd__law_wrong, m__law_wrong, F__law_wrong⟩ := D__law_wrong
  obtain ⟨f__law_spoilt, fd__law_spoilt, m__law_spoilt, F__law_spoilt⟩ := D__law_spoilt
  obtain ⟨f__law_told, fd__law_told, m__law_told, F__law_told⟩ := D__law_told
  obtain ⟨fd_RuleU_initU, F_RuleU_initU⟩ := F_RuleU_initU
  obtain ⟨fd_BadTextU_initU, F_BadTextU_initU⟩ := F_BadTextU_initU
  obtain ⟨pd_Rule_kind, pF_Rule_kind⟩ := pF_Rule_kind
  obtain ⟨pd_Rule_parts, pF_Rule_parts⟩ := pF_Rule_parts
  refine ⟨fdl, fun s v => ?_, fun base kin kns => ?_⟩
  · obtain ⟨_, _, _, _, _, _, _, _, _, rfl, _, _⟩ := Fl.ex
    exact .of_eq rfl
  have p_Rule_kind : CalP l.prog w Γ.K mg base Γ.cRule "kind" "form" 1 := by
    obtain ⟨_, _, _, _, _, _, _, _, _, rfl, lk, hcd⟩ := pF_Rule_kind.ex
    exact ⟨cls_Rule, pp_Rule_kind, pg__Rule_kind, _, ⟨pf_Rule_kind, ps_Rule_kind, pt_Rule_kind, ⟨_, pr_Rule_kind⟩⟩, fn_getter (k := 0) (N := ["self"]) lk hcd ⟨rfl, rfl, rfl, by decide +kernel, rfl, by decide +kernel, by decide +kernel⟩ rfl rfl cls_Rule T.rule.nF, pF_Rule_kind.binds (ps := ["self"]) fun _ _ _ _ _ _ us hl => match us, hl with | [_], _ => rfl⟩
  have p_Rule_parts : CalP l.prog w Γ.K mg base Γ.cRule "parts" "body" 1 := by
    obtain ⟨_, _, _, _, _, _, _, _, _, rfl, lk, hcd⟩ := pF_Rule_parts.ex
    exact ⟨cls_Rule, pp_Rule_parts, pg__Rule_parts, _, ⟨pf_Rule_parts, ps_Rule_parts, pt_Rule_parts, ⟨_, pr_Rule_parts⟩⟩, fn_getter (k := 0) (N := ["self"]) lk hcd ⟨rfl, rfl, rfl, by decide +kernel, rfl, by decide +kernel, by decide +kernel⟩ rfl rfl cls_Rule T.rule.nB, pF_Rule_parts.binds (ps := ["self"]) fun _ _ _ _ _ _ us hl => match us, hl with | [_], _ => rfl⟩
  have c_is_integer : Cal l.prog w Γ.K mg base CX0 "is_integer" 1 ["value"] (sp_is_integer Γ) := ⟨f_is_integer, fd_is_integer, ok_is_integer F_is_integer T , m_is_integer, F_is_integer.kp, b_is_integer F_is_integer⟩
  have c_is_from : Cal l.prog w Γ.K mg base CX0 "is_from" 2 ["value", "low", "high"] (sp_is_from Γ) := ⟨f_is_from, fd_is_from, ok_is_from F_is_from T c_is_integer, m_is_from, F_is_from.kp, b_is_from F_is_from⟩
  have c_are_rows : Cal l.prog w Γ.K mg base CX0 "are_rows" 3 ["value"] (sp_are_rows Γ) := ⟨f_are_rows, fd_are_rows, ok_are_rows F_are_rows T c_is_from, m_are_rows, F_are_rows.kp, b_are_rows F_are_rows⟩
  have c_is_term : Cal l.prog w Γ.K mg base CX0 "is_term" 3 ["value"] (sp_is_term Γ) := ⟨f_is_term, fd_is_term, ok_is_term F_is_term T c_is_from, m_is_term, F_is_term.kp, b_is_term F_is_term⟩
  have c_are_terms : Cal l.prog w Γ.K mg base CX0 "are_terms" 4 ["value"] (sp_are_terms Γ) := ⟨f_are_terms, fd_are_terms, ok_are_terms F_are_terms T c_is_term, m_are_terms, F_are_terms.kp, b_are_terms F_are_terms⟩
  have c_RuleU_initU : CalC l.prog w Γ.K mg base (L2.CX l.prog w) Γ.cRule "Rule" 5 ["self", "kind", "parts"] (sp_RuleU_initU Γ) := ⟨PySem.W.mg_of X G a_Rule, f_RuleU_initU, fd_RuleU_initU, ok_RuleU_initU F_RuleU_initU T c_are_rows c_are_terms, ⟨mk_RuleU_initU, f_RuleU_initU_at, i_RuleU_initU, kc_RuleU_initU⟩, b_RuleU_initU F_RuleU_initU⟩
  have c_BadTextU_initU : CalE l.prog w Γ.K mg base Γ.cBadText "BadText" 1 ["self", "word"] (sp_BadTextU_initU Γ) := ⟨T.m_BadText, T.err_BadText.T, f_BadTextU_initU, fd_BadTextU_initU, ok_BadTextU_initU F_BadTextU_initU T , f_BadTextU_initU_at, i_BadTextU_initU, b_BadTextU_initU F_BadTextU_initU⟩
  have c_write : Cal l.prog w Γ.K mg base CX0 "write" 1 ["rule"] (sp_write Γ) := ⟨f_write, fd_write, ok_write F_write T , m_write, F_write.kp, b_write F_write⟩
  have c_number_in : Cal l.prog w Γ.K mg base CX0 "number_in" 1 ["word", "low", "high"] (sp_number_in Γ) := ⟨f_number_in, fd_number_in, ok_number_in F_number_in T , m_number_in, F_number_in.kp, b_number_in F_number_in⟩
  have c_rows_in : Cal l.prog w Γ.K mg base CX0 "rows_in" 1 ["words"] (sp_rows_in Γ) := ⟨f_rows_in, fd_rows_in, ok_rows_in F_rows_in T , m_rows_in, F_rows_in.kp, b_rows_in F_rows_in⟩
  have c_terms_in : Cal l.prog w Γ.K mg base (L2.CX l.prog w) "terms_in" 3 ["rows", "empty"] (sp_terms_in Γ) := ⟨f_terms_in, fd_terms_in, ok_terms_in F_terms_in T c_BadTextU_initU c_number_in, m_terms_in, F_terms_in.kp, b_terms_in F_terms_in⟩
  have c_table_in : Cal l.prog w Γ.K mg base (L2.CX l.prog w) "table_in" 3 ["rows", "empty"] (sp_table_in Γ) := ⟨f_table_in, fd_table_in, ok_table_in F_table_in T c_BadTextU_initU c_number_in, m_table_in, F_table_in.kp, b_table_in F_table_in⟩
  have c_read : Cal l.prog w Γ.K mg base (L2.CX l.prog w) "read" 7 ["text"] (sp_read Γ) := ⟨f_read, fd_read, ok_read F_read T c_BadTextU_initU c_RuleU_initU c_rows_in c_table_in c_terms_in, m_read, F_read.kp, b_read F_read⟩
  have c__law_random : Cal l.prog w Γ.K mg base CX0 "_law_random" 1 ["_law_script", "_law_salt"] (sp__law_random Γ) := ⟨f__law_random, fd__law_random, ok__law_random F__law_random T , m__law_random, F__law_random.kp, b__law_random F__law_random⟩
  have c__law_below : Cal l.prog w Γ.K mg base CX0 "_law_below" 1 ["_law_d", "_law_size"] (sp__law_below Γ) := ⟨f__law_below, fd__law_below, ok__law_below F__law_below T , m__law_below, F__law_below.kp, b__law_below F__law_below⟩
  have c__law_pick : Cal l.prog w Γ.K mg base CX0 "_law_pick" 2 ["_law_d", "_law_items"] (sp__law_pick Γ) := ⟨f__law_pick, fd__law_pick, ok__law_pick F__law_pick T c__law_below, m__law_pick, F__law_pick.kp, b__law_pick F__law_pick⟩
  have c__law_table : Cal l.prog w Γ.K mg base CX0 "_law_table" 2 ["_law_d", "_law_most"] (sp__law_table Γ) := ⟨f__law_table, fd__law_table, ok__law_table F__law_table T c__law_below, m__law_table, F__law_table.kp, b__law_table F__law_table⟩
  have c__law_terms : Cal l.prog w Γ.K mg base CX0 "_law_terms" 3 ["_law_d"] (sp__law_terms Γ) := ⟨f__law_terms, fd__law_terms, ok__law_terms F__law_terms T c__law_below c__law_pick, m__law_terms, F__law_terms.kp, b__law_terms F__law_terms⟩
  have c__law_rule : Cal l.prog w Γ.K mg base CX0 "_law_rule" 7 ["_law_d", "_law_most"] (sp__law_rule Γ) := ⟨f__law_rule, fd__law_rule, ok__law_rule F__law_rule T c_RuleU_initU c__law_below c__law_table c__law_terms, m__law_rule, F__law_rule.kp, b__law_rule F__law_rule⟩
  have c__law_number : Cal l.prog w Γ.K mg base CX0 "_law_number" 1 ["_law_word", "_law_low", "_law_high"] (sp__law_number Γ) := ⟨f__law_number, fd__law_number, ok__law_number F__law_number T , m__law_number, F__law_number.kp, b__law_number F__law_number⟩
  have c__law_term_wrong : Cal l.prog w Γ.K mg base CX0 "_law_term_wrong" 2 ["_law_words_so"] (sp__law_term_wrong Γ) := ⟨f__law_term_wrong, fd__law_term_wrong, ok__law_term_wrong F__law_term_wrong T c__law_number, m__law_term_wrong, F__law_term_wrong.kp, b__law_term_wrong F__law_term_wrong⟩
  have c__law_table_wrong : Cal l.prog w Γ.K mg base CX0 "_law_table_wrong" 2 ["_law_words_so"] (sp__law_table_wrong Γ) := ⟨f__law_table_wrong, fd__law_table_wrong, ok__law_table_wrong F__law_table_wrong T c__law_number, m__law_table_wrong, F__law_table_wrong.kp, b__law_table_wrong F__law_table_wrong⟩
  have c__law_wrong : Cal l.prog w Γ.K mg base CX0 "_law_wrong" 3 ["_law_text"] (sp__law_wrong Γ) := ⟨f__law_wrong, fd__law_wrong, ok__law_wrong F__law_wrong T c__law_table_wrong c__law_term_wrong, m__law_wrong, F__law_wrong.kp, b__law_wrong F__law_wrong⟩
  have c__law_spoilt : Cal l.prog w Γ.K mg base CX0 "_law_spoilt" 3 ["_law_d", "_law_text"] (sp__law_spoilt Γ) := ⟨f__law_spoilt, fd__law_spoilt, ok__law_spoilt F__law_spoilt T c__law_below c__law_pick, m__law_spoilt, F__law_spoilt.kp, b__law_spoilt F__law_spoilt⟩
  have c__law_told : Cal l.prog w Γ.K mg base CX0 "_law_told" 8 ["_law_text"] (sp__law_told Γ) := ⟨f__law_told, fd__law_told, ok__law_told F__law_told T c_read, m__law_told, F__law_told.kp, b__law_told F__law_told⟩
  exact ok_law Fl T c__law_random c__law_rule c__law_spoilt c__law_told c__law_wrong c_read c_write p_Rule_kind p_Rule_parts
theorem walk {l : PySem.W.OpenLaw} {q : Program} {loose : List Str} {XP : (Str → Option Value) → Heap → Prop} {YP : World → Heap → Prop} {d : DefRec} {K : Params → PySem.W.Frag} (hn : l.most = some 63) (hdf : d.params.defaults = [])
    (hY : ∀ (w : World) (h : Heap), YP w h → (K w.params).In h)
    (F : ∀ (w : World) (mg : Str → Option Value) (fa : Addr) (h : Heap), (K w.params).In h → h.Ns mainGlobals mg → mg d.name = some (.ref fa) →
      ∃ fd : FuncData, (∀ (s : Shared) (u : Value), BindsTo s fd ⟨[u], []⟩ [("_law_script", u)]) ∧ ∀ base : Heap, (K w.params).In base → base.Ns mainGlobals mg → FnOk l.prog w (K w.params) mg base CX0 9 fa fd ["_law_script"] (spLaw (K w.params))) :
    PySem.W.WalkO q loose XP YP l.row.toRowW d [] (fun f vs => PySem.call f vs) :=
  L2.walk_of (n := 63) (k := 9) (x := "_law_script") (CX := fun _ => CX0) (sp := fun w => spLaw (K w.params)) hn (by decide) hdf ⟨rfl, by decide, by decide⟩ hY F (fun _ _ a ns hl _ hS => ⟨a, ns, rfl, hS, hl, fun _ => rfl⟩) fun _ _ _ _ _ z => z

end Spt
open PySem PySem.W PyProof.Rows
set_option maxRecDepth 100000 in
set_option maxHeartbeats 0 in
theorem PySem.Challenge.cw_splitpoints_k23_whole_texts_refused_holds : PySem.Challenge.rw_splitpoints_k23_whole_texts_refused.Holds := by
  w_on; o_law; k_head; (case hw => w_witness2)
  k_fill
  refine Spt.walk (l := PySem.Challenge.rw_splitpoints_k23_whole_texts_refused) rfl rfl (fun w h Y => PySem.W.kIn_of Y) ?F
  case F =>
    intro w mg fa h KX G hmg
    refine' Spt.all KX G hmg ?D_is_integer ?D_is_from ?D_are_rows ?D_is_term ?D_are_terms ?D_write ?D_number_in ?D_rows_in ?D_terms_in ?D_table_in ?D_read ?D__law_random ?D__law_below ?D__law_pick ?D__law_table ?D__law_terms ?D__law_rule ?D__law_number ?D__law_term_wrong ?D__law_table_wrong ?D__law_wrong ?D__law_spoilt ?D__law_told ?D_law ?b_abs ?b_all ?b_bool ?b_enumerate ?b_int ?b_isinstance ?b_len ?b_list ?b_min ?b_range ?b_str ?b_tuple ?g_MOST_TABLE ?g_MOST_POINTS ?g_MOST_TERMS ?g_MOST_EXPONENT ?g_FIGURES ?g_SIGN ?a_BadRule ?a_BadText ?a_Rule ?pg_Rule ?hd_Rule ?po_Rule ?sa_Rule ?nF_Rule ?nB_Rule ?f_RuleU_initU_at ?i_RuleU_initU ?F_RuleU_initU ?mk_RuleU_initU ?kc_RuleU_initU ?f_BadTextU_initU_at ?i_BadTextU_initU ?F_BadTextU_initU ?pf_Rule_kind ?ps_Rule_kind ?pt_Rule_kind ?pr_Rule_kind ?pF_Rule_kind ?pf_Rule_parts ?ps_Rule_parts ?pt_Rule_parts ?pr_Rule_parts ?pF_Rule_parts ?xx_BadRule ?xk_BadRule ?xb_BadRule ?xt_BadRule ?xi_BadText ?xb_BadText ?xt_BadText ?es_BadText_BadText ?oc_BadText ?or_BadText ?os_BadText ?ox_BadText ?ot_BadText ?okk_BadText ?oga_BadText ?ogg_BadText ?ohd_BadText ?on_BadText
    (case a_BadRule => k_is)
    (case a_BadText => k_is)
    (case a_Rule => k_is)
    (case g_MOST_TABLE => k_is)
    (case g_MOST_POINTS => k_is)
    (case g_MOST_TERMS => k_is)
    (case g_MOST_EXPONENT => k_is)
    (case g_FIGURES => k_is)
    (case g_SIGN => k_is)
    (case f_RuleU_initU_at => k_is)
    (case f_BadTextU_initU_at => k_is)
    (case pf_Rule_kind => k_is)
    (case pf_Rule_parts => k_is)
    (case pr_Rule_kind => k_is)
    (case pr_Rule_parts => k_is)
    (case D_is_integer => (refine' Spt.def_mk KX G ?a ?l ?c ?k; (case a => k_is); (case l => k_is); (case c => k_is); (case k => k_is)))
    (case D_is_from => (refine' Spt.def_mk KX G ?a ?l ?c ?k; (case a => k_is); (case l => k_is); (case c => k_is); (case k => k_is)))
    (case D_are_rows => (refine' Spt.def_mk KX G ?a ?l ?c ?k; (case a => k_is); (case l => k_is); (case c => k_is); (case k => k_is)))
    (case D_is_term => (refine' Spt.def_mk KX G ?a ?l ?c ?k; (case a => k_is); (case l => k_is); (case c => k_is); (case k => k_is)))
    (case D_are_terms => (refine' Spt.def_mk KX G ?a ?l ?c ?k; (case a => k_is); (case l => k_is); (case c => k_is); (case k => k_is)))
    (case D_write => (refine' Spt.def_mk KX G ?a ?l ?c ?k; (case a => k_is); (case l => k_is); (case c => k_is); (case k => k_is)))
    (case D_number_in => (refine' Spt.def_mk KX G ?a ?l ?c ?k; (case a => k_is); (case l => k_is); (case c => k_is); (case k => k_is)))
    (case D_rows_in => (refine' Spt.def_mk KX G ?a ?l ?c ?k; (case a => k_is); (case l => k_is); (case c => k_is); (case k => k_is)))
    (case D_terms_in => (refine' Spt.def_mk KX G ?a ?l ?c ?k; (case a => k_is); (case l => k_is); (case c => k_is); (case k => k_is)))
    (case D_table_in => (refine' Spt.def_mk KX G ?a ?l ?c ?k; (case a => k_is); (case l => k_is); (case c => k_is); (case k => k_is)))
    (case D_read => (refine' Spt.def_mk KX G ?a ?l ?c ?k; (case a => k_is); (case l => k_is); (case c => k_is); (case k => k_is)))
    (case D__law_random => (refine' Spt.def_mk KX G ?a ?l ?c ?k; (case a => k_is); (case l => k_is); (case c => k_is); (case k => k_is)))
    (case D__law_below => (refine' Spt.def_mk KX G ?a ?l ?c ?k; (case a => k_is); (case l => k_is); (case c => k_is); (case k => k_is)))
    (case D__law_pick => (refine' Spt.def_mk KX G ?a ?l ?c ?k; (case a => k_is); (case l => k_is); (case c => k_is); (case k => k_is)))
    (case D__law_table => (refine' Spt.def_mk KX G ?a ?l ?c ?k; (case a => k_is); (case l => k_is); (case c => k_is); (case k => k_is)))
    (case D__law_terms => (refine' Spt.def_mk KX G ?a ?l ?c ?k; (case a => k_is); (case l => k_is); (case c => k_is); (case k => k_is)))
    (case D__law_rule => (refine' Spt.def_mk KX G ?a ?l ?c ?k; (case a => k_is); (case l => k_is); (case c => k_is); (case k => k_is)))
    (case D__law_number => (refine' Spt.def_mk KX G ?a ?l ?c ?k; (case a => k_is); (case l => k_is); (case c => k_is); (case k => k_is)))
    (case D__law_term_wrong => (refine' Spt.def_mk KX G ?a ?l ?c ?k; (case a => k_is); (case l => k_is); (case c => k_is); (case k => k_is)))
    (case D__law_table_wrong => (refine' Spt.def_mk KX G ?a ?l ?c ?k; (case a => k_is); (case l => k_is); (case c => k_is); (case k => k_is)))
    (case D__law_wrong => (refine' Spt.def_mk KX G ?a ?l ?c ?k; (case a => k_is); (case l => k_is); (case c => k_is); (case k => k_is)))
    (case D__law_spoilt => (refine' Spt.def_mk KX G ?a ?l ?c ?k; (case a => k_is); (case l => k_is); (case c => k_is); (case k => k_is)))
    (case D__law_told => (refine' Spt.def_mk KX G ?a ?l ?c ?k; (case a => k_is); (case l => k_is); (case c => k_is); (case k => k_is)))
    (case D_law => (refine' Spt.def_mk KX G ?a ?l ?c ?k; (case a => k_is); (case l => k_is); (case c => k_is); (case k => k_is)))
    (case b_abs => k_is)
    (case b_all => k_is)
    (case b_bool => k_is)
    (case b_enumerate => k_is)
    (case b_int => k_is)
    (case b_isinstance => k_is)
    (case b_len => k_is)
    (case b_list => k_is)
    (case b_min => k_is)
    (case b_range => k_is)
    (case b_str => k_is)
    (case b_tuple => k_is)
    (case pg_Rule => k_is)
    (case hd_Rule => k_is)
    (case po_Rule => k_is)
    (case sa_Rule => k_is)
    (case nF_Rule => k_is)
    (case nB_Rule => k_is)
    (case i_RuleU_initU => k_is)
    (case F_RuleU_initU => (refine' Spt.funat_mk ?l ?c ?k; (case l => k_is); (case c => k_is); (case k => k_is)))
    (case mk_RuleU_initU => k_is)
    (case kc_RuleU_initU => k_is)
    (case i_BadTextU_initU => k_is)
    (case F_BadTextU_initU => (refine' Spt.funat_mk ?l ?c ?k; (case l => k_is); (case c => k_is); (case k => k_is)))
    (case ps_Rule_kind => k_is)
    (case pt_Rule_kind => k_is)
    (case pF_Rule_kind => (refine' Spt.funat_mk ?l ?c ?k; (case l => k_is); (case c => k_is); (case k => k_is)))
    (case ps_Rule_parts => k_is)
    (case pt_Rule_parts => k_is)
    (case pF_Rule_parts => (refine' Spt.funat_mk ?l ?c ?k; (case l => k_is); (case c => k_is); (case k => k_is)))
    (case xx_BadRule => k_exc)
    (case xk_BadRule => k_is)
    (case xb_BadRule => k_is)
    (case xt_BadRule => k_is)
    (case xi_BadText => k_is)
    (case xb_BadText => k_is)
    (case xt_BadText => k_is)
    (case es_BadText_BadText => first | rfl | k_is)
    (case oc_BadText => k_is)
    (case or_BadText => rfl)
    (case os_BadText => k_is)
    (case ox_BadText => k_is)
    (case ot_BadText => k_is)
    (case okk_BadText => k_is)
    (case oga_BadText => k_is)
    (case ogg_BadText => k_is)
    (case ohd_BadText => k_is)
    (case on_BadText => k_is)
