import PyProof.Rows.All
import Wide.All
import OpenK.AllK
import Wide.FinOn
import HandS.ForMost
import HandS.Exc
import HandS.TryOnly
import HandS.TryMany
import HandS.ExcOwn
import HandS.WordsExc
import HandS.Wide
import HandS.IsInst
import HandS.Property
import HandS.Small
import HandS.Star
import HandS.Style
import HandS.TupAny
import HandS.TupMul
import KE.GoesEnum
import HandS.Walk
import HandS.Iter
import HandS.Dict
import HandS.Conv
import HandS.SortInts
import HandS.SortRule
import HandS.Set
import HandS.SetFor
import PyProof.Rows.SetFrom
import PySem.Challenge.RW_splitpoints_k12_whole_sums
set_option Elab.async false
set_option linter.all false
set_option maxRecDepth 100000
set_option maxHeartbeats 8000000
namespace Spt
open PySem PySem.Spec L2
open PyProof.Rows hiding St

/-! ### universal operators -/
section
variable {X : Cx}
def rAddS : R2 := fun x y H Q => ∃ i j, x = .str i ∧ y = .str j ∧ i.length + j.length ≤ sizeLine ∧ Q (.str (i ++ j)) H
def rAddI : R2 := rI0 fun i j => .int (i + j)
def rSubI : R2 := rI0 fun i j => .int (i - j)
def rAddU (K : PySem.W.Frag) : R2 := fun x y H Q => rAddI x y H Q ∨ rCat x y H Q ∨ rCatA K x y H Q ∨ rAddS x y H Q
theorem op_addU : OpR X (binaryOp .Add) (rAddU X.K) := by
  intro pins s σ H x y v u Q I rx ry h
  rcases h with h | h | h | h
  · exact op_add pins s σ H x y v u Q I rx ry h
  · exact op_cat pins s σ H x y v u Q I rx ry h
  · exact op_catA pins s σ H x y v u Q I rx ry h
  · exact op_add_str pins s σ H x y v u Q I rx ry h
theorem op_subU : OpR X (binaryOp .Sub) rSubI := op_sub
def rMulI : R2 := rI CMulW fun i j => .int (i * j)
def rMulU (K : PySem.W.Frag) : R2 := fun x y H Q => rMulI x y H Q ∨ rRep x y H Q ∨ rRepT K x y H Q
theorem op_mulU : OpR X (binaryOp .Mult) (rMulU X.K) := by
  intro pins s σ H x y v u Q I rx ry h
  rcases h with h | h | h
  · exact op_mulW pins s σ H x y v u Q I rx ry h
  · exact op_rep pins s σ H x y v u Q I rx ry h
  · exact op_repT pins s σ H x y v u Q I rx ry h
def rDivI : R2 := rI CDivW fun i j => .int (i / j)
theorem op_divU : OpR X (binaryOp .FloorDiv) rDivI := op_fdivW
def rModI : R2 := rI (fun _ j => 0 < j) fun i j => .int (i % j)
theorem op_modU : OpR X (binaryOp .Mod) rModI := op_mod
def rPowI : R2 := rI CPow fun i j => .int (i ^ j.toNat)
theorem op_powU : OpR X (binaryOp .Pow) rPowI := op_pow
def rLt : R2 := rI0 fun i j => .bl (decide (i < j))
def rLe : R2 := rI0 fun i j => .bl (decide (i ≤ j))
def rGt : R2 := rI0 fun i j => .bl (decide (j < i))
def rGe : R2 := rI0 fun i j => .bl (decide (j ≤ i))
theorem op_ltU : OpR X (compareOp .Lt) rLt := op_lt
theorem op_leU : OpR X (compareOp .LtE) rLe := op_le
theorem op_gtU : OpR X (compareOp .Gt) rGt := op_gt
theorem op_geU : OpR X (compareOp .GtE) rGe := op_ge
def rEqU (K : PySem.W.Frag) : R2 := fun x y H Q => rEq x y H Q ∨ rEqD K x y H Q
def rNeU (K : PySem.W.Frag) : R2 := fun x y H Q => rNe x y H Q ∨ rNeD K x y H Q
theorem op_eqU (hu : X.A.units + 64 < cLine) : OpR X (compareOp .Eq) (rEqU X.K) := by
  intro pins s σ H x y v u Q I rx ry h
  rcases h with h | h
  · exact op_eq pins s σ H x y v u Q I rx ry h
  · exact op_eqD hu pins s σ H x y v u Q I rx ry h
theorem op_neU (hu : X.A.units + 64 < cLine) : OpR X (compareOp .NotEq) (rNeU X.K) := by
  intro pins s σ H x y v u Q I rx ry h
  rcases h with h | h
  · exact op_ne pins s σ H x y v u Q I rx ry h
  · exact op_neD hu pins s σ H x y v u Q I rx ry h
def rIsN : R2 := fun x y H Q => y = .non ∧ Q (.bl (decide (x = .non))) H
def rNotN : R2 := fun x y H Q => y = .non ∧ Q (.bl (!decide (x = .non))) H
def rIsU : R2 := fun x y H Q => rIsN x y H Q ∨ rIsB x y H Q
def rNotIsU : R2 := fun x y H Q => rNotN x y H Q ∨ rNotB x y H Q
theorem op_isU : OpR X (compareOp .Is) rIsU := by
  intro pins s σ H x y v u Q I rx ry h
  rcases h with h | h
  · exact op_isN pins s σ H x y v u Q I rx ry h
  · exact op_isBl pins s σ H x y v u Q I rx ry h
theorem op_notIsU : OpR X (compareOp .IsNot) rNotIsU := by
  intro pins s σ H x y v u Q I rx ry h
  rcases h with h | h
  · exact op_notN pins s σ H x y v u Q I rx ry h
  · exact op_notBl pins s σ H x y v u Q I rx ry h
def rInS : R2 := fun x y H Q => ∃ i j, x = .str i ∧ y = .str j ∧ Q (.bl (!(Builtin.Str.occurrences j i 0 j.length 1).isEmpty)) H
def rNotInS : R2 := fun x y H Q => ∃ i j, x = .str i ∧ y = .str j ∧ Q (.bl (!(!(Builtin.Str.occurrences j i 0 j.length 1).isEmpty))) H
def rInU (K : PySem.W.Frag) : R2 := fun x y H Q => rIn K false x y H Q ∨ rInS x y H Q
def rNotInU (K : PySem.W.Frag) : R2 := fun x y H Q => rIn K true x y H Q ∨ rNotInS x y H Q
theorem op_inU : OpR X (compareOp .In) (rInU X.K) := by
  intro pins s σ H x y v u Q I rx ry h
  rcases h with h | h
  · exact op_in_seq pins s σ H x y v u Q I rx ry h
  · exact op_in_str pins s σ H x y v u Q I rx ry h
theorem op_notInU : OpR X (compareOp .NotIn) (rNotInU X.K) := by
  intro pins s σ H x y v u Q I rx ry h
  rcases h with h | h
  · exact op_notIn_seq pins s σ H x y v u Q I rx ry h
  · exact op_notin_str pins s σ H x y v u Q I rx ry h
/-- slices of lists, tuples, texts -/
abbrev RSl := V → Option Int → Option Int → Hp → VK → Prop
def rSlU (K : PySem.W.Frag) : RSl := fun x lo hi H Q => rSlL K x lo hi H Q ∨ rSlA K x lo hi H Q ∨ rSlS x lo hi H Q
theorem sl_U : SlR X (rSlU X.K) := by
  intro pins s σ H x v vl vu lo hi sl Q I rx hs pl pu h
  rcases h with h | h | h
  · exact sl_list pins s σ H x v vl vu lo hi sl Q I rx hs pl pu h
  · exact sl_tupA pins s σ H x v vl vu lo hi sl Q I rx hs pl pu h
  · exact sl_str pins s σ H x v vl vu lo hi sl Q I rx hs pl pu h
/-- what a for walks: a list or a tuple -/
def kSeq (K : PySem.W.Frag) (x : V) (H : Hp) (R : It → Hp → Prop) : Prop := (∃ a, x = .ref a ∧ (∃ xs, SqL K H a xs) ∧ R (Itl K a) H) ∨ (∃ a, x = .ref a ∧ (∃ xs, SqT K H a xs) ∧ R (Itt K a) H)
def iSeq (K : PySem.W.Frag) (tl : TE) : TI := fun σ H R => tl σ H fun x H1 => kSeq K x H1 R
theorem pi_seq {tg l : Expr} {tl : TE} (hl : PE X l tl) : PI X tg l (iSeq X.K tl) := by
  refine ⟨fun pins s σ H R I h => ?_⟩
  refine thn (hl.run pins s σ H _ I h) fun v s1 ⟨x, H1, I1, r1, q1⟩ => ?_
  rcases q1 with ⟨a, e, ⟨xs, hq⟩, q⟩ | ⟨a, e, ⟨xs, hq⟩, q⟩
  · subst e
    cases r1
    obtain ⟨its, rv, p, hz⟩ := I1.list hq
    refine wpAny_pyIter_list p.isList ?_
    refine ⟨s1.heap.objs.size, [s1.heap.objs.size], _, _, H1, rfl, I1.kept (t' := s1.toks) fun b o e => Heap.get?_push_of_some _ e, turn_list a _, ⟨_, Heap.get?_push_size _ rfl, rfl, rfl⟩, fun b hb => ?_, q⟩
    have e : b = s1.heap.objs.size := by simpa using hb
    subst e
    exact I1.fpOk (Nat.le_refl _) (I1.hok.fresh (Nat.le_refl _))
  · subst e
    cases r1
    obtain ⟨its, rv, p, hz⟩ := I1.tuple hq
    refine wpAny_pyIter_tuple (show s1.heap.IsTuple a its.toArray from p) ?_
    refine ⟨s1.heap.objs.size, [s1.heap.objs.size], _, _, H1, rfl, I1.kept (t' := s1.toks) fun b o e => Heap.get?_push_of_some _ e, turn_tuple a _, ⟨_, Heap.get?_push_size _ rfl, rfl, rfl⟩, fun b hb => ?_, q⟩
    have e : b = s1.heap.objs.size := by simpa using hb
    subst e
    exact I1.fpOk (Nat.le_refl _) (I1.hok.fresh (Nat.le_refl _))
end

/-! ### calls -/
structure Cal (P : Program) (w : World) (K : PySem.W.Frag) (mg : Str → Option Value) (base : Heap) (CX : CXT) (x : Str) (k : Nat) (ps : List Str) (sp : Sp) : Prop where
  ex : ∃ (f : Addr) (fd : FuncData), FnOk P w K mg base CX k f fd ps sp ∧ mg x = some (.ref f) ∧ PySem.W.keepIn K (.ref f) = true ∧ Binds K fd ps []
def tCal (sp : Sp) (E : XK) (t : TA) : TE := fun σ H Q => t σ H fun vs H1 => sp vs H1 Q E
def tCalS (sp : Sp) (E : St → XK) (t : TA) : TE := fun σ H Q => t σ H fun vs H1 => sp vs H1 Q (E σ)
section
variable {X : Cx} {CX : CXT} {k : Nat} {ps : List Str} {sp : Sp} {E : XK} {x : Str} {p pos : Pos} {e : Expr} {es : List Expr} {t : TA}
theorem tCal_eq (t : TA) : tCall sp [] E t = tCal sp E t := by
  funext σ H Q
  unfold tCall tCal
  simp only [List.append_nil]
theorem pe_cal (c : Cal X.prog X.w X.K X.mg X.base CX x k ps sp) (hr : Room k X.A) (hg : Gl X x) (hx : Passes CX X E) (ha : PA X (e :: es) t) (hdb : (x == ("__debug__" : Str)) = false := by decide)
    (he : starEach (e :: es) X.env = (false, eval e X.env) :: starEach es X.env := by rfl) (hpl : (backTo pos (starEach es X.env)).any (·.1) = false := by rfl) :
    PE X (.Call (.Name x p) (e :: es) [] pos) (tCal sp E t) := by
  obtain ⟨f, fd, F, hm, hk, hb⟩ := c.ex
  have h := pe_call (p := p) (pos := pos) F hr hg hm hk hb .nil hx ha hdb he hpl
  rw [tCal_eq] at h
  exact h
theorem pe_cal0 (c : Cal X.prog X.w X.K X.mg X.base CX x k ps sp) (hr : Room k X.A) (hg : Gl X x) (hx : Passes CX X E) (hdb : (x == ("__debug__" : Str)) = false := by decide) :
    PE X (.Call (.Name x p) [] [] pos) (tCal sp E tNil) := by
  obtain ⟨f, fd, F, hm, hk, hb⟩ := c.ex
  have h := pe_call0 (p := p) (pos := pos) F hr hg hm hk hb .nil hx hdb
  rw [tCal_eq] at h
  exact h
theorem pe_calS {E : St → XK} (c : Cal X.prog X.w X.K X.mg X.base CX x k ps sp) (hr : Room k X.A) (hg : Gl X x) (hx : ∀ σ, PassesAt CX X σ (E σ)) (ha : PA X (e :: es) t) (hdb : (x == ("__debug__" : Str)) = false := by decide)
    (he : starEach (e :: es) X.env = (false, eval e X.env) :: starEach es X.env := by rfl) (hpl : (backTo pos (starEach es X.env)).any (·.1) = false := by rfl) :
    PE X (.Call (.Name x p) (e :: es) [] pos) (tCalS sp E t) := by
  obtain ⟨f, fd, F, hm, hk, hb⟩ := c.ex
  exact pe_callS (p := p) (pos := pos) F hr hg hm hk hb hx ha hdb he hpl
end

/-! ### methods, makers -/
structure CalM (P : Program) (w : World) (K : PySem.W.Frag) (mg : Str → Option Value) (base : Heap) (CX : CXT) (C : Addr) (m : Str) (k : Nat) (ps : List Str) (sp : Sp) : Prop where
  cls : Cls K C
  ex : ∃ (f : Addr) (fd : FuncData), FnOk P w K mg base CX k f fd ps sp ∧ Meth K C m f ∧ Binds K fd ps []
structure CalC (P : Program) (w : World) (K : PySem.W.Frag) (mg : Str → Option Value) (base : Heap) (CX : CXT) (C : Addr) (x : Str) (k : Nat) (ps : List Str) (sp : Sp) : Prop where
  m : mg x = some (.ref C)
  ex : ∃ (f : Addr) (fd : FuncData), FnOk P w K mg base CX k f fd ps sp ∧ Mk K C f ∧ Binds K fd ps []
def tMet (C : Addr) (m : Str) (sp : Sp) (E : XK) (ta : TE) (t : TA) : TE := fun σ H Q => ta σ H fun x H1 => ∃ a dx fs, x = .ref a ∧ H1 a = some (.ins C dx fs) ∧ fs.lookup m = none ∧
  t σ H1 fun vs H2 => sp (x :: vs) H2 Q E
def tMetS (C : Addr) (m : Str) (sp : Sp) (E : St → XK) (ta : TE) (t : TA) : TE := fun σ H Q => ta σ H fun x H1 => ∃ a dx fs, x = .ref a ∧ H1 a = some (.ins C dx fs) ∧ fs.lookup m = none ∧
  t σ H1 fun vs H2 => sp (x :: vs) H2 Q (E σ)
def tMak (C : Addr) (sp : Sp) (E : XK) (t : TA) : TE := fun σ H Q => t σ H fun vs H1 => ∀ x dx, H1 x = none → H1 dx = none → dx ≠ x →
  sp (.ref x :: vs) (upd (upd H1 dx (.own x)) x (.ins C dx [])) (fun v H2 => v = .non ∧ Q (.ref x) H2) E
def tMakS (C : Addr) (sp : Sp) (E : St → XK) (t : TA) : TE := fun σ H Q => t σ H fun vs H1 => ∀ x dx, H1 x = none → H1 dx = none → dx ≠ x →
  sp (.ref x :: vs) (upd (upd H1 dx (.own x)) x (.ins C dx [])) (fun v H2 => v = .non ∧ Q (.ref x) H2) (E σ)
section
variable {X : Cx} {CX : CXT} {k : Nat} {C : Addr} {ps : List Str} {sp : Sp} {E : XK} {x m : Str} {p pos apos : Pos} {o e : Expr} {es : List Expr} {ta : TE} {t : TA}
theorem tMet_eq (ta : TE) (t : TA) : tMeth C m sp [] E ta t = tMet C m sp E ta t := by
  funext σ H Q
  unfold tMeth tMet
  simp only [List.append_nil]
theorem tMak_eq (t : TA) : tMake C sp [] E t = tMak C sp E t := by
  funext σ H Q
  unfold tMake tMak
  simp only [List.append_nil]
theorem pe_met {pl : Sem Bool} (he : PE X o ta) (c : CalM X.prog X.w X.K X.mg X.base CX C m k ps sp) (hr : Room k X.A) (hx : Passes CX X E) (ha : PA X (e :: es) t)
    (hst : starEach (e :: es) X.env = (false, eval e X.env) :: starEach es X.env := by rfl) (hpl : (backTo pos (starEach es X.env)).any (·.1) = false := by rfl)
    (ht : eval (.Call (.Attribute o m apos) (e :: es) [] pos) X.env = (do
      let ov ← eval o X.env
      standAt apos.atName
      let (f, first) ← holding [ov] (getMethod ov m pl)
      callWith pos f first (backTo pos (starEach (e :: es) X.env)) (backToKw pos (keywordEach [] X.env))) := by rfl) :
    PE X (.Call (.Attribute o m apos) (e :: es) [] pos) (tMet C m sp E ta t) := by
  obtain ⟨f, fd, F, hm, hb⟩ := c.ex
  have h := pe_meth he c.cls hm F hr hb .nil hx ha hst hpl ht
  rw [tMet_eq] at h
  exact h
theorem pe_met0 {pl : Sem Bool} (he : PE X o ta) (c : CalM X.prog X.w X.K X.mg X.base CX C m k ps sp) (hr : Room k X.A) (hx : Passes CX X E)
    (ht : eval (.Call (.Attribute o m apos) [] [] pos) X.env = (do
      let ov ← eval o X.env
      standAt apos.atName
      let (f, first) ← holding [ov] (getMethod ov m pl)
      callWith pos f first (backTo pos (starEach [] X.env)) (backToKw pos (keywordEach [] X.env))) := by rfl) :
    PE X (.Call (.Attribute o m apos) [] [] pos) (tMet C m sp E ta tNil) := by
  obtain ⟨f, fd, F, hm, hb⟩ := c.ex
  have h := pe_meth0 he c.cls hm F hr hb .nil hx ht
  rw [tMet_eq] at h
  exact h
theorem pe_metS {E : St → XK} {pl : Sem Bool} (he : PE X o ta) (c : CalM X.prog X.w X.K X.mg X.base CX C m k ps sp) (hr : Room k X.A) (hx : ∀ σ, PassesAt CX X σ (E σ)) (ha : PA X (e :: es) t)
    (hst : starEach (e :: es) X.env = (false, eval e X.env) :: starEach es X.env := by rfl) (hpl : (backTo pos (starEach es X.env)).any (·.1) = false := by rfl)
    (ht : eval (.Call (.Attribute o m apos) (e :: es) [] pos) X.env = (do
      let ov ← eval o X.env
      standAt apos.atName
      let (f, first) ← holding [ov] (getMethod ov m pl)
      callWith pos f first (backTo pos (starEach (e :: es) X.env)) (backToKw pos (keywordEach [] X.env))) := by rfl) :
    PE X (.Call (.Attribute o m apos) (e :: es) [] pos) (tMetS C m sp E ta t) := by
  obtain ⟨f, fd, F, hm, hb⟩ := c.ex
  refine ⟨fun pins s σ H Q I h => ?_⟩
  refine PySem.W.methodCall_KW (pl := pl) (thn (he.run pins s σ H _ I h) fun u s1 ⟨x, H1, I1, rx, a, dx, fs, ex, ea, l, q⟩ => ?_) ht
  subst ex
  obtain rfl : u = Value.ref a := rx
  refine getmeth_ok I1 ea c.cls hm l ?_
  refine PySem.W.callWith_K (first := [.ref a]) (h₀ := X.base) I.ok.mod.kin hm.kp (thn (ha.run pos pins s1 σ H1 _ I1 q) fun us s2 ⟨vs, H2, I2, r, q2⟩ => ⟨I2.kIn, ?_⟩) hst hpl
  exact run_fnS (us := .ref a :: us) (vs := .ref a :: vs) F hr hb (hx σ) I2 (.cons rfl r) q2
theorem pe_mak (c : CalC X.prog X.w X.K X.mg X.base CX C x k ps sp) (hr : Room (k + 1) X.A) (hg : Gl X x) (hx : Passes CX X E)
    (ha : PA X (e :: es) t) (hdb : (x == ("__debug__" : Str)) = false := by decide) (he : starEach (e :: es) X.env = (false, eval e X.env) :: starEach es X.env := by rfl) (hpl : (backTo pos (starEach es X.env)).any (·.1) = false := by rfl) :
    PE X (.Call (.Name x p) (e :: es) [] pos) (tMak C sp E t) := by
  obtain ⟨f, fd, F, M, hb⟩ := c.ex
  have h := pe_make (p := p) (pos := pos) M F hr hg c.m hb .nil hx ha hdb he hpl
  rw [tMak_eq] at h
  exact h
/-- run_make at the slots σ -/
theorem run_makeS {E : XK} {f : Addr} {fd : FuncData} {pins : List (Addr × Obj)} {σ : St} {H : Hp} {s : Shared} {Q : VK} {us : List Value} {vs : List V} (M : Mk X.K C f) (F : FnOk X.prog X.w X.K X.mg X.base CX k f fd ps sp) (hr : Room (k + 1) X.A) (hb : Binds X.K fd ps [])
    (hx : ∀ (pins : List (Addr × Obj)) (H : Hp) (s : Shared) (e : Value) (s' : Shared), Inv X pins σ H s → CX X.stack H s E e s' → X.xe e s') (I : Inv X pins σ H s) (r : Vals vs us)
    (h : ∀ x dx, H x = none → H dx = none → dx ≠ x → sp (.ref x :: vs) (upd (upd H dx (.own x)) x (.ins C dx [])) (fun v H2 => v = .non ∧ Q (.ref x) H2) E) :
    wpAny (model X.prog X.w) X.A (call (.ref C) us) (EP X pins σ Q) X.xe s := by
  have hq := h (s.heap.objs.size + 1) s.heap.objs.size (I.hok.fresh (Nat.le_succ _)) (I.hok.fresh (Nat.le_refl _)) (Nat.ne_of_lt (Nat.lt_succ_self _))
  have I2 := Inv.made (C := C) I
  have r2 : Vals (V.ref (s.heap.objs.size + 1) :: vs) (Value.ref (s.heap.objs.size + 1) :: us) := .cons rfl r
  have hl : (Value.ref (s.heap.objs.size + 1) :: us ++ ([] : List Value)).length = ps.length := by
    have e := r2.length
    rw [F.len _ _ _ _ hq] at e
    simpa using e.symm
  have hbb := hb _ (Value.ref (s.heap.objs.size + 1) :: us) I2.kIn hl
  rw [List.append_nil] at hbb
  refine wpAny_call (make_map (f := f) I.kIn M.makes M.init (beq_iff_eq.mp M.fn) (codeAny_mono (F.run _ X.stack _ _ ⟨Value.ref (s.heap.objs.size + 1) :: us, []⟩ (Value.ref (s.heap.objs.size + 1) :: us) _ _ E (hr.make C us [])
    (I2.env0.make C us []) hbb r2 hq) fun r s' hq' => ?_))
  cases r with
  | error e => exact hx pins _ _ e s' I2 hq'
  | ok fl =>
    cases fl with
    | ret u =>
      obtain ⟨v, H', I3, rv, ev, q3⟩ := I2.after hq'
      subst ev
      exact ⟨rv, ⟨V.ref (s.heap.objs.size + 1), H', I3, rfl, q3⟩⟩
    | next => exact False.elim hq'
    | brk => exact False.elim hq'
    | cont => exact False.elim hq'
theorem pe_makS {E : St → XK} (c : CalC X.prog X.w X.K X.mg X.base CX C x k ps sp) (hr : Room (k + 1) X.A) (hg : Gl X x) (hx : ∀ σ, PassesAt CX X σ (E σ))
    (ha : PA X (e :: es) t) (hdb : (x == ("__debug__" : Str)) = false := by decide) (he : starEach (e :: es) X.env = (false, eval e X.env) :: starEach es X.env := by rfl) (hpl : (backTo pos (starEach es X.env)).any (·.1) = false := by rfl) :
    PE X (.Call (.Name x p) (e :: es) [] pos) (tMakS C sp E t) := by
  obtain ⟨f, fd, F, M, hb⟩ := c.ex
  refine ⟨fun pins s σ H Q I h => ?_⟩
  refine wpAny_Call_Name_kw (ld_glob I hg c.m ?_ hdb)
  refine PySem.W.callWith_K (h₀ := X.base) I.ok.mod.kin M.kp (thn (ha.run pos pins s σ H _ I h) fun us s1 ⟨vs, H1, I1, r, q⟩ => ⟨I1.kIn, ?_⟩) he hpl
  exact run_makeS M F hr hb (hx σ) I1 r q
end

/-! ### a statement, then the rest, with a word between them -/
def tCut (t u : TS) : TS := fun D σ H => ∃ Mid : St → Hp → Prop, t { D with nx := Mid } σ H ∧ ∀ σ' H', Mid σ' H' → u D σ' H'
theorem pss_cut {X : Cx} {st : Stmt} {rest : List Stmt} {t u : TS} (h1 : PS X st t) (h2 : PSs X rest u) : PSs X (st :: rest) (tCut t u) := by
  refine ⟨fun pins s σ H D I h => ?_⟩
  obtain ⟨Mid, hm, hu⟩ := h
  refine wpAny_execs_cons (thn (h1.run pins s σ H { D with nx := Mid } I hm) fun f s1 q => ?_)
  cases f with
  | next =>
    obtain ⟨σ', H', I', q⟩ := q
    exact h2.run pins s1 σ' H' D I' (hu σ' H' q)
  | ret v => exact q
  | brk => exact q
  | cont => exact q
def tIfT (t u v : TT) : TT := fun σ H Q => t σ H fun c H1 => if c = true then u σ H1 Q else v σ H1 Q
theorem pt_ifExp {X : Cx} {c a b : Expr} {pos : Pos} {t u v : TT} (hc : PT X c t) (ha : PT X a u) (hb : PT X b v) : PT X (.IfExp c a b pos) (tIfT t u v) := by
  refine ⟨fun pins s σ H Q I h => ?_⟩
  refine PyProof.Rows.isTrue_IfExp (thn (hc.run pins s σ H _ I h) fun d s1 ⟨H1, I1, q1⟩ => ?_)
  cases d with
  | true => exact ha.run pins s1 σ H1 Q I1 q1
  | false => exact hb.run pins s1 σ H1 Q I1 q1
/-! ### a property that hands back an attribute -/
structure CalP (P : Program) (w : World) (K : PySem.W.Frag) (mg : Str → Option Value) (base : Heap) (C : Addr) (f fld : Str) (k : Nat) : Prop where
  cls : Cls K C
  ex : ∃ (p g : Addr) (fd : FuncData), PropOf K C f p g ∧ FnOk P w K mg base CX0 k g fd ["self"] (getSp C fld) ∧ Binds K fd ["self"] []
def kPrp (C : Addr) (fld : Str) (x : V) (H : Hp) (Q : VK) : Prop := ∃ a dx fs v, x = .ref a ∧ H a = some (.ins C dx fs) ∧ fs.lookup fld = some v ∧ Q v H
def tPrp (C : Addr) (fld : Str) (ta : TE) : TE := fun σ H Q => ta σ H fun x H1 => kPrp C fld x H1 Q
theorem pe_prp {X : Cx} {C : Addr} {f fld : Str} {k : Nat} {e : Expr} {ta : TE} {pos : Pos} (c : CalP X.prog X.w X.K X.mg X.base C f fld k) (hr : Room (k + 1) X.A) (he : PE X e ta)
    (hab : attributeBase e f X.env (eval e X.env) = eval e X.env) : PE X (.Attribute e f pos) (tPrp C fld ta) := by
  obtain ⟨p, g, fd, hp, F, hb⟩ := c.ex
  have h := pe_prop (pos := pos) (E := E0) he c.cls hp F hr hb .nil pass0 hab
  have e : tProp C (getSp C fld) [] E0 ta = tPrp C fld ta := by
    funext σ H Q
    show ta σ H _ = ta σ H _
    congr 1
    funext x H1
    refine propext ⟨fun ⟨a, dx, fs, ex, ea, a', dx', fs', v, e1, e2, l, q⟩ => ?_, fun ⟨a, dx, fs, v, ex, ea, l, q⟩ => ⟨a, dx, fs, ex, ea, a, dx, fs, v, rfl, ea, l, q⟩⟩
    cases e1
    exact ⟨a, dx', fs', v, ex, e2, l, q⟩
  rw [e] at h
  exact h

/-! ### raise X() of an own class without __init__ -/
structure ExcF (K : PySem.W.Frag) (mg : Str → Option Value) (x : Str) (C : Addr) : Prop where
  ex : ∃ bm, PySem.W.excIn K C bm "ValueError.__new__" = true ∧ (∃ B I, ExcBaseFacts B "ValueError.__new__" I bm)
  g : mg x = some (.ref C)
  k : PySem.W.keepIn K (.ref C) = true
  b : PySem.W.subIn K (.ref C) (.type "BaseException") = some true
  t : PySem.W.typeIn K (.ref C) = some (.type "type")
section
variable {X : Cx} {C : Addr} {x : Str} {p pos : Pos}
theorem pmk_own0 (F : ExcF X.K X.mg x C) (hg : Gl X x) (hdb : (x == ("__debug__" : Str)) = false := by decide) : PMk X (.Call (.Name x p) [] [] pos) (fun _ H Q => Q (.ref C) none H) := by
  obtain ⟨bm, q, B, I0, FB⟩ := F.ex
  intro pins s σ H Q I h
  refine wpAny_Call_Name_kw (ld_glob I hg F.g ?_ hdb)
  refine PySem.W.callWith_K0 I.kIn F.k ?_
  show wpAny _ _ (call (.ref C) []) _ _ _
  obtain ⟨bm, N, nm, qn, bs, hdct, sn, sub, ab, col, dd, k0, k1, k2, k3, k5, mN, hC, hN, hni, T⟩ := exc_obj I.kIn q
  refine wpAny_call_exc_subT FB T hC hN hni (fun h' e hm => ?_) (by show 0 ≤ sizeLine; exact Nat.zero_le _)
  exact mk_of I hm (raises_own F.b F.t) h (I.hok.gone hm.new)
/-- raise X() where W is wished of what is raised -/
def tRaise (C : Addr) (W : WX) : TS := fun _ σ H => W (.ref C) none σ H
theorem ps_raise0 {W : WX} {pos2 : Pos} (hc : X.calm = true) (tk : Takes X W) (F : ExcF X.K X.mg x C) (hg : Gl X x) (hdb : (x == ("__debug__" : Str)) = false := by decide) :
    PS X (.Raise (some (.Call (.Name x p) [] [] pos)) none pos2) (tRaise C W) := ps_raise hc tk (pmk_own0 F hg hdb)
end
def WE' (W : WX) : St → XK := fun σ cls d H => W cls d σ H
theorem passAt' {X : Cx} {W : WX} (tk : Takes X W) (σ : St) : PassesAt (L2.CX X.prog X.w) X σ (WE' W σ) := passAt tk σ

/-! ### a list of ints that is known by a word alone -/
def Plain : HO → Prop
  | .lst _ => True
  | .ext _ => True
  | _ => False
theorem inv_swap {X : Cx} {pins : List (Addr × Obj)} {σ : St} {H : Hp} {s : Shared} {d : Addr} {o o' : HO} (I : Inv X pins σ H s) (hd : H d = some o) (hp : Plain o) (new : ObjOk X.prog X.w (upd H d o') s.heap d o') :
    Inv X pins σ (upd H d o') s := by
  have ne : ∀ b u, H b = some u → ¬ Plain u → b ≠ d := fun b u e n z => by
    subst z
    rw [hd] at e
    cases e
    exact n hp
  have nn : ∀ b, H b = none → upd H d o' b = none := fun b e => by
    rw [upd_ne (fun z => by subst z; rw [hd] at e; cases e)]
    exact e
  refine ⟨I.ok, I.os, I.bare, ⟨fun b u e n hb hx => I.base.keep b u e n hb hx, fun b u e n hb hx => I.base.slot b u e n hb hx, fun b u e n hx => nn b (I.base.free b u e n hx), I.base.there, fun b xs e => ?_, fun b u v e => ?_, fun b ps e => ?_⟩, I.loc, I.cell, nn _ I.free, fun x c e => nn _ (I.freeC x c e), fun p hp' => ?_, fun b u q => ?_, I.len⟩
  · have e1 := I.base.tups b xs e
    rw [upd_ne (ne b _ e1 (fun z => z))]
    exact e1
  · have e1 := I.base.frzs b u v e
    rw [upd_ne (ne b _ e1 (fun z => z))]
    exact e1
  · obtain ⟨more, e1⟩ := I.base.tbls b ps e
    refine ⟨more, ?_⟩
    rw [upd_ne (ne b _ e1 (fun z => z))]
    exact e1
  · obtain ⟨h1, h2, h3⟩ := I.pin p hp'
    exact ⟨h1, nn _ h2, h3⟩
  · by_cases hb : b = d
    · subst hb
      rw [upd_same] at q
      cases q
      exact new
    · rw [upd_ne hb] at q
      refine (I.hok b u q).stay (fun c v _ r => r) (fun c r => ?_) (fun c xs r => ?_)
      · rw [upd_ne (ne c _ r (fun z => z))]
        exact r
      · rw [upd_ne (ne c _ r (fun z => z))]
        exact r
/-- an opaque list of ints -/
def opq (Pr : List Int → Prop) (d : Addr) : HO := .ext fun h => ∃ (ns : List Int) (its : List Value) (n : Nat), Pr ns ∧ Vals (ns.map V.int) its ∧ ns.length ≤ sizeLine ∧ h.get? d = some { cls := .type "list", data := .seq its.toArray n }
theorem inv_open {X : Cx} {pins : List (Addr × Obj)} {σ : St} {H : Hp} {s : Shared} {d : Addr} {Pr : List Int → Prop} (I : Inv X pins σ H s) (hd : H d = some (opq Pr d)) :
    ∃ ns, Pr ns ∧ Inv X pins σ (upd H d (.lst (ns.map V.int))) s := by
  obtain ⟨⟨ns, its, n, hp, hv, hl, hg⟩, _, _⟩ := I.hok d _ hd
  exact ⟨ns, hp, inv_swap I hd True.intro ⟨by rw [List.length_map]; exact hl, its, n, hv, hg⟩⟩
theorem inv_shut {X : Cx} {pins : List (Addr × Obj)} {σ : St} {H : Hp} {s : Shared} {d : Addr} {Pr : List Int → Prop} {ns : List Int} (I : Inv X pins σ H s) (hd : H d = some (.lst (ns.map V.int))) (hp : Pr ns) :
    Inv X pins σ (upd H d (opq Pr d)) s := by
  obtain ⟨hl, its, n, hv, hg⟩ := I.hok d _ hd
  rw [List.length_map] at hl
  exact inv_swap I hd True.intro ⟨⟨ns, its, n, hp, hv, hl, hg⟩, ⟨_, hg⟩, fun h1 h2 ⟨ns, its, n, a, b, c, e⟩ k => ⟨ns, its, n, a, b, c, k _ e⟩⟩
def shutE (Pr : List Int → Prop) (d : Addr) (D : Ends) : Ends where
  nx := fun σ H => ∃ ns, Pr ns ∧ H d = some (.lst (ns.map V.int)) ∧ D.nx σ (upd H d (opq Pr d))
  rt := fun v H => ∃ ns, Pr ns ∧ H d = some (.lst (ns.map V.int)) ∧ D.rt v (upd H d (opq Pr d))
  bk := fun σ H => ∃ ns, Pr ns ∧ H d = some (.lst (ns.map V.int)) ∧ D.bk σ (upd H d (opq Pr d))
  ct := fun σ H => ∃ ns, Pr ns ∧ H d = some (.lst (ns.map V.int)) ∧ D.ct σ (upd H d (opq Pr d))
theorem sp_shut {X : Cx} {pins : List (Addr × Obj)} {D : Ends} {f : Flow} {s' : Shared} {d : Addr} {Pr : List Int → Prop} (h : SP X pins (shutE Pr d D) f s') : SP X pins D f s' := by
  cases f with
  | next =>
    obtain ⟨σ', H', I, ns, hp, hd, q⟩ := h
    exact ⟨σ', _, inv_shut I hd hp, q⟩
  | brk =>
    obtain ⟨σ', H', I, ns, hp, hd, q⟩ := h
    exact ⟨σ', _, inv_shut I hd hp, q⟩
  | cont =>
    obtain ⟨σ', H', I, ns, hp, hd, q⟩ := h
    exact ⟨σ', _, inv_shut I hd hp, q⟩
  | ret u =>
    obtain ⟨v, σ', H', I, r, ns, hp, hd, q⟩ := h
    exact ⟨v, σ', _, inv_shut I hd hp, r, q⟩
/-- a block within which an opaque list is a plain one -/
def tOpen (Pr : List Int → Prop) (t : TS) : TS := fun D σ H => ∃ d, H d = some (opq Pr d) ∧ ∀ ns, Pr ns → t (shutE Pr d D) σ (upd H d (.lst (ns.map V.int)))
theorem pss_open {X : Cx} {b : List Stmt} {t : TS} (Pr : List Int → Prop) (h : PSs X b t) : PSs X b (tOpen Pr t) := by
  refine ⟨fun pins s σ H D I q => ?_⟩
  obtain ⟨d, hd, k⟩ := q
  obtain ⟨ns, hp, J⟩ := inv_open I hd
  exact thn (h.run pins s σ _ _ J (k ns hp)) fun f s' z => sp_shut z
/-- a block that hands back a list of ints, which is opaque from then on -/
def tShut (Pr : List Int → Prop) (t : TS) : TS := fun D σ H => t { nx := D.nx, bk := D.bk, ct := D.ct, rt := fun v H' => ∃ d ns, v = .ref d ∧ H' d = some (.lst (ns.map V.int)) ∧ Pr ns ∧ D.rt v (upd H' d (opq Pr d)) } σ H
theorem pss_shut {X : Cx} {b : List Stmt} {t : TS} (Pr : List Int → Prop) (h : PSs X b t) : PSs X b (tShut Pr t) := by
  refine ⟨fun pins s σ H D I q => thn (h.run pins s σ H _ I q) fun f s' z => ?_⟩
  cases f with
  | next => exact z
  | brk => exact z
  | cont => exact z
  | ret u =>
    obtain ⟨v, σ', H', I, r, d, ns, rfl, hd, hp, q⟩ := z
    exact ⟨.ref d, σ', _, inv_shut I hd hp, r, q⟩

/-! ### enumerate of a tuple -/
theorem meets_enumerate_newT (l : Addr) (items : Array Value) (n : Nat) (dct : Option Addr) (sl : Array (Option Value)) :
    Meets (Builtin.«enumerate.__new__» ⟨[.type "enumerate", .ref l], []⟩) (fun _ R s => s.heap.get? l = some { cls := .type "tuple", dict := dct, data := .seq items n, slots := sl } ∧
      R (.ok (.ret (.ref (s.heap.push { cls := .type "tuple_iterator", data := .fields #[.ref l, .int 0 0] }).objs.size)))
        { s with heap := (s.heap.push { cls := .type "tuple_iterator", data := .fields #[.ref l, .int 0 0] }).push { cls := .type "enumerate", data := .fields #[.none, .bool false, .ref s.heap.objs.size, rawInt 0, .none, .none] } }) :=
  .of_wp fun prog w A R s h => by
    obtain ⟨hp, g, d, tk, os⟩ := s; obtain ⟨hl, h⟩ := h
    have hsub := sub_enumerate
    have hL : Heap.IsTuple (Shared.heap ⟨hp, g, d, tk, os⟩) l items := ⟨_, hl, rfl, n, rfl⟩
    wp_walk using AutoSeq1.wpAny_loadPart' hl
    refine wpAny_stack_any fun st => wpAny_pure ?_
    split
    · rename_i c _ _ _ _ _
      cases (c == Value.type "enumerate")
      · wp_walk using AutoSeq1.wpAny_loadPart' hl, wpAny_pyIter_tuple hL
        exact ⟨_, rfl, h⟩
      · wp_walk using AutoSeq1.wpAny_loadPart' hl, wpAny_pyIter_tuple hL
        exact ⟨_, rfl, h⟩
    · wp_walk using AutoSeq1.wpAny_loadPart' hl, wpAny_pyIter_tuple hL
      exact ⟨_, rfl, h⟩
theorem call_enumerate_tuple {prog : Program} {w : World} {A : Around} {E : Value → Shared → Prop} {s : Shared} {l : Addr} {items : Array Value} {Q : Value → Shared → Prop} (hL : s.heap.IsTuple l items)
    (h : ∀ h', IsEnum h' (s.heap.objs.size + 1) s.heap.objs.size 0 .none → h'.IsTupleIter s.heap.objs.size l 0 → h'.objs.size = s.heap.objs.size + 2 →
      (∀ b o, s.heap.get? b = some o → h'.get? b = some o) → Q (.ref (s.heap.objs.size + 1)) { s with heap := h' }) :
    wpAny (model prog w) A (call (.type "enumerate") [.ref l]) Q E s := by
  obtain ⟨⟨c, dct, dt, sl⟩, hl, hc, n, hd⟩ := hL
  replace hc : c = .type "tuple" := hc
  replace hd : dt = .seq items n := hd
  subst hc hd
  refine callType_new F.called_enumerate (by decide) (F.typeCall_enumerate_1 _) (F.newCall_enumerate_1 _) (fun obj => F.args_object_init_2 obj _) F.entry_enumerate_new
    (meets_enumerate_newT l items n dct sl) ⟨hl, ?_⟩
  have hz : (s.heap.push { cls := .type "tuple_iterator", data := .fields #[.ref l, .int 0 0] }).objs.size = s.heap.objs.size + 1 := Heap.size_push ..
  show _ ∧ _
  rw [hz]
  have he : IsEnum ((s.heap.push { cls := .type "tuple_iterator", data := .fields #[.ref l, .int 0 0] }).push
      { cls := .type "enumerate", data := .fields #[.none, .bool false, .ref s.heap.objs.size, rawInt 0, .none, .none] }) (s.heap.objs.size + 1) s.heap.objs.size 0 .none := by
    have := Heap.get?_push_size (s.heap.push { cls := .type "tuple_iterator", data := .fields #[.ref l, .int 0 0] })
      (o := { cls := .type "enumerate", data := .fields #[.none, .bool false, .ref s.heap.objs.size, rawInt 0, .none, .none] }) rfl
    rw [hz] at this; exact this
  refine ⟨⟨_, he, rfl⟩, h _ he ⟨_, Heap.get?_push_of_some _ (Heap.get?_push_size _ rfl), rfl, rfl⟩ (by rw [Heap.size_push, hz]) fun b o x => Heap.get?_push_of_some _ (Heap.get?_push_of_some _ x)⟩
theorem wpAny_pyNext_enum_endT {prog : Program} {w : World} {A : Around} {E : Value → Shared → Prop} {s : Shared} {e it l : Addr} {i : Nat} {items : Array Value} {old : Value} {Q : Option Value → Shared → Prop} (hh : A.handled = none)
    (he : IsEnum s.heap e it i old) (hit : s.heap.IsTupleIter it l i) (hl : s.heap.IsTuple l items) (hx : items[i]? = none)
    (hQ : ∀ h', Heap.ExtBut it s.heap h' → Q none { s with heap := h' }) : wpAny (model prog w) A (pyNext (.ref e)) Q E s := by
  have hT : s.TypeIs (.ref e) "enumerate" := ⟨_, he, rfl⟩
  unfold pyNext
  refine wpAny_bind (wpAny_attempt (wpAny_callSpecial?_slot (name := Str.ofString "__next__") hT F.slot_enumerate_next
    (wpAny_call_entry F.slot_enumerate_next hT F.entry_enumerate_next ?_ (F.args_enumerate_next_1 _))))
  show wpAny _ _ (field (.ref e) 2 >>= _) _ _ _
  refine wpAny_bind (wpAny_field he rfl (x := .ref it) rfl ?_)
  refine wpAny_bind (wpAny_nextOf_tuple_end hh hit hl hx fun h' x he' hx' => ?_)
  obtain ⟨o, ho, hc⟩ := hx'
  refine wpAny_bind (wpAny_isInstance (T := "StopIteration") (b := true) ⟨o, ho, hc⟩ isSubtype_stop ?_)
  exact wpAny_pure (hQ _ he')
/-- the tuple at a, each item in a new pair -/
def Itet (K : PySem.W.Frag) (a : Addr) : It :=
  ⟨fun i H => ∃ (xs : List V) (x : V), SqT K H a xs ∧ xs[i]? = some x, fun i H v H' => ∃ T x, v = .ref T ∧ H T = none ∧ H' = upd H T (.tup [.int (i : Nat), x]) ∧ ∀ xs, SqT K H a xs → xs[i]? = some x, fun i H => ∃ xs : List V, SqT K H a xs ∧ xs.length ≤ i⟩
theorem turn_enumT {P : Program} {w : World} {K : PySem.W.Frag} {elts : List Expr} {kk : Nat} {tpos : Pos} (a e it : Addr) :
    Turn P w K (.Tuple elts kk tpos) (Itet K a) [e, it] e (fun i h => (∃ old, IsEnum h e it ((i : Nat) : Int) old) ∧ h.IsTupleIter it a i ∧ e ≠ it) where
  mem := by simp
  obj := fun i h st b hb => by
    obtain ⟨⟨old, he⟩, ⟨o, ho, hc, hd⟩, _⟩ := st
    have e' : b = e ∨ b = it := by simpa using hb
    rcases e' with z | z
    · rw [z]; exact ⟨_, he, fun v q => nomatch q⟩
    · rw [z]; exact ⟨o, ho, fun v q => by rw [hd] at q; cases q⟩
  keep := fun i h h' st k => let ⟨⟨old, he⟩, hi, hne⟩ := st; ⟨⟨old, k e (by simp) _ he⟩, hi.at fun o q => k it (by simp) o q, hne⟩
  item := by
    intro X hP hw hK hc i pins s σ H E I hf st hg
    subst hP hw hK
    obtain ⟨⟨old, he⟩, hit, hne⟩ := st
    obtain ⟨xs, x, hq, hx⟩ := hg
    obtain ⟨its, rv, p, hz⟩ := I.tuple hq
    have pt : s.heap.IsTuple a its.toArray := p
    obtain ⟨u, hu, ru⟩ := rv.get hx
    have hel : e < s.heap.objs.size := Heap.lt_size he
    have hil : it < s.heap.objs.size := by obtain ⟨_, q, _⟩ := hit; exact Heap.lt_size q
    have nai : a ≠ it := fun z => by
      obtain ⟨o1, q1, c1, _⟩ := hit
      obtain ⟨o2, q2, c2, _⟩ := pt
      rw [z, q1] at q2
      cases q2
      rw [c1] at c2
      exact absurd c2 (by decide)
    have nea : e ≠ a := fun z => by
      obtain ⟨o2, q2, c2, _⟩ := pt
      have he' : s.heap.get? e = _ := he
      rw [z, q2] at he'
      have e3 := congrArg Obj.cls (Option.some.inj he')
      rw [c2] at e3
      exact absurd (show Value.type "tuple" = Value.type "enumerate" from e3) (by decide)
    have D := Draws.tuple (prog := X.prog) (w := X.w) (A := X.A.in1) (I.ok.hd hc) it a nai its.toArray
    have hui : i < its.length := (List.getElem?_eq_some_iff.mp hu).1
    refine wpAny_pyNext_enum_itemD D he ⟨hit, pt⟩ (by simpa using hui) hne (by simp [hne, nea]) fun x' h' tk hP' ho hst' hT hsz hk => ?_
    have ex : x' = u := by
      have z : its.toArray[i]? = some x' := hP'
      rw [List.getElem?_toArray, hu] at z
      exact (Option.some.inj z).symm
    subst ex
    refine ⟨_, rfl, wpAny_letOwnedTupleGo_enum (s := { s with heap := h', toks := tk + 1 }) ho fun h'' he' sb => ?_⟩
    have hT2 : h''.get? s.heap.objs.size = some { cls := .type "tuple", data := .seq #[.int i tk, x'] } := (sb.2 _ (Nat.ne_of_gt hel)).trans hT
    have new : ObjOk X.prog X.w (upd H s.heap.objs.size (.tup [.int (i : Nat), x])) h'' s.heap.objs.size (.tup [.int (i : Nat), x]) :=
      ⟨by show 2 ≤ sizeLine; decide, [.int i tk, x'], .cons ⟨_, rfl⟩ (.cons ru .nil), ⟨_, hT2, rfl, _, rfl⟩⟩
    have I1 : Inv X pins σ (upd H s.heap.objs.size (.tup [.int (i : Nat), x])) { s with heap := h'', toks := tk + 1 } :=
      I.turnedNew (ch := [e, it]) (fun b ob hb q => (sb.2 b (fun z => hb (by simp [z]))).trans (hk b ob (fun z => hb (by simp [z])) (fun z => hb (by simp [z])) q)) hf (Nat.le_refl _) new
    refine ⟨.ref s.heap.objs.size, _, I1, rfl, ⟨_, x, rfl, I.hok.fresh (Nat.le_refl _), rfl, fun ys hy => by rw [I.tuple_inj hy hq]; exact hx⟩, ⟨⟨x', ?_⟩, hst'.1.at fun o q => (sb.2 it (Ne.symm hne)).trans q, hne⟩, fun b hb => ?_⟩
    · have e1 : ((i + 1 : Nat) : Int) = (i : Int) + 1 := by omega
      rw [e1]; exact he'
    · have hb' : b < s.heap.objs.size := by
        have e' : b = e ∨ b = it := by simpa using hb
        rcases e' with z | z
        · rw [z]; exact hel
        · rw [z]; exact hil
      rw [upd_ne (Nat.ne_of_lt hb')]
      exact (hf b hb).1
  done := by
    intro X hP hw hK hc i pins s σ H E I hf st hg
    subst hP hw hK
    obtain ⟨⟨old, he⟩, hit, hne⟩ := st
    obtain ⟨xs, hq, hx⟩ := hg
    obtain ⟨its, rv, p, hz⟩ := I.tuple hq
    have pt : s.heap.IsTuple a its.toArray := p
    have nai : a ≠ it := fun z => by
      obtain ⟨o1, q1, c1, _⟩ := hit
      obtain ⟨o2, q2, c2, _⟩ := pt
      rw [z, q1] at q2
      cases q2
      rw [c1] at c2
      exact absurd c2 (by decide)
    obtain ⟨f0, f1, f2, f3, f4, f5⟩ := hf it (by simp)
    have hl := rv.length
    refine wpAny_pyNext_enum_endT (I.ok.hd hc) he hit pt (by simp; omega) fun h' eb => ⟨rfl, I.turned (t' := s.toks) (fun b o hb q => eb b o hb q) f0 f1 f3 f4 f5⟩
  self := fun A i s Q E st h => let ⟨⟨_, he⟩, _⟩ := st; wpAny_pyIter_enum he h
/-- enumerate of a list or a tuple -/
def kEnum (K : PySem.W.Frag) (vs : List V) (H : Hp) (R : It → Hp → Prop) : Prop := (∃ a xs, vs = [.ref a] ∧ SqL K H a xs ∧ R (Ite K a) H) ∨ (∃ a xs, vs = [.ref a] ∧ SqT K H a xs ∧ R (Itet K a) H)
def iEnumS (K : PySem.W.Frag) (ta : TA) : TI := fun σ H R => ta σ H fun vs H1 => kEnum K vs H1 R
theorem pi_enumS {X : Cx} {e : Expr} {ta : TA} {p pos tpos : Pos} {elts : List Expr} {kk : Nat} (hg : Gl X "enumerate") (hm : X.mg "enumerate" = none) (ha : PA X [e] ta) (hs : starEach [e] X.env = [(false, eval e X.env)] := by rfl) :
    PI X (.Tuple elts kk tpos) (.Call (.Name "enumerate" p) [e] [] pos) (iEnumS X.K ta) := by
  refine ⟨fun pins s σ H R I h => ?_⟩
  refine Call_ (ld_blt I hg hm boot_enumerate (PyProof.Rows.callWith_type1 (thn (ha.run pos pins s σ H _ I h) fun us s1 ⟨vs, H1, I1, r1, q1⟩ => ?_) hs rfl))
  rcases q1 with ⟨a, xs, ex, hq, q⟩ | ⟨a, xs, ex, hq, q⟩
  · subst ex
    cases r1 with
    | cons r rr =>
      cases rr
      cases r
      obtain ⟨its, rv, p', hz⟩ := I1.list hq
      refine call_enumerate_list p'.isList fun h' he hit hsz hk => wpAny_pyIter_enum he ?_
      have I2 : Inv X pins σ H1 { s1 with heap := h' } := I1.kept (t' := s1.toks) hk
      refine ⟨s1.heap.objs.size + 1, [s1.heap.objs.size + 1, s1.heap.objs.size], _, _, H1, rfl, I2, turn_enum a (s1.heap.objs.size + 1) s1.heap.objs.size, ⟨⟨.none, he⟩, hit, Nat.succ_ne_self _⟩, fun b hb => ?_, q⟩
      have e' : b = s1.heap.objs.size + 1 ∨ b = s1.heap.objs.size := by simpa using hb
      have hle : s1.heap.objs.size ≤ b := by
        rcases e' with z | z
        · rw [z]; exact Nat.le_add_right _ _
        · rw [z]; exact Nat.le_refl _
      exact I1.fpOk hle (I1.hok.fresh hle)
  · subst ex
    cases r1 with
    | cons r rr =>
      cases rr
      cases r
      obtain ⟨its, rv, p', hz⟩ := I1.tuple hq
      refine call_enumerate_tuple (show s1.heap.IsTuple a its.toArray from p') fun h' he hit hsz hk => wpAny_pyIter_enum he ?_
      have I2 : Inv X pins σ H1 { s1 with heap := h' } := I1.kept (t' := s1.toks) hk
      refine ⟨s1.heap.objs.size + 1, [s1.heap.objs.size + 1, s1.heap.objs.size], _, _, H1, rfl, I2, turn_enumT a (s1.heap.objs.size + 1) s1.heap.objs.size, ⟨⟨.none, he⟩, hit, Nat.succ_ne_self _⟩, fun b hb => ?_, q⟩
      have e' : b = s1.heap.objs.size + 1 ∨ b = s1.heap.objs.size := by simpa using hb
      have hle : s1.heap.objs.size ≤ b := by
        rcases e' with z | z
        · rw [z]; exact Nat.le_add_right _ _
        · rw [z]; exact Nat.le_refl _
      exact I1.fpOk hle (I1.hok.fresh hle)
/-- for i, x in enumerate(t): t a tuple that stands -/
theorem for_enumT {K : PySem.W.Frag} {a : Addr} {xs : List V} {g : TG} {tb : TS} {D : Ends} {σ : St} {H : Hp} (Pv : Nat → St → Hp → Prop) (h0 : Pv 0 σ H) (hl : ∀ i σ H, i ≤ xs.length → Pv i σ H → SqT K H a xs)
    (hs : ∀ i x σ H T, xs[i]? = some x → Pv i σ H → H T = none → g (.ref T) σ (upd H T (.tup [.int (i : Nat), x])) fun σ2 H2 => tb { D with nx := Pv (i + 1), ct := Pv (i + 1), bk := D.nx } σ2 H2) (hd : ∀ σ H, Pv xs.length σ H → D.nx σ H) :
    ∃ W : Nat → Nat → St → Hp → Prop, (∃ m, W 0 m σ H) ∧ ∀ i m σ H, W i m σ H →
      ((Itet K a).stop i H ∧ D.nx σ H) ∨ ((Itet K a).go i H ∧ ∃ N : St → Hp → Prop, (∀ σ' H', N σ' H' → ∃ m', m' < m ∧ W (i + 1) m' σ' H') ∧ ∀ x H', (Itet K a).yld i H x H' → g x σ H' fun σ2 H2 => tb { D with nx := N, ct := N, bk := D.nx } σ2 H2) := by
  refine ⟨fun i m σ H => m = xs.length - i ∧ i ≤ xs.length ∧ Pv i σ H, ⟨xs.length, by simp, Nat.zero_le _, h0⟩, ?_⟩
  rintro i m σ H ⟨rfl, hi, p⟩
  have q := hl i σ H hi p
  by_cases h : i < xs.length
  · refine .inr ⟨⟨xs, xs[i], q, List.getElem?_eq_getElem h⟩, Pv (i + 1), fun σ' H' z => ⟨xs.length - (i + 1), by omega, rfl, h, z⟩, ?_⟩
    rintro x H' ⟨T, y, rfl, hT, rfl, hy⟩
    exact hs i y σ H T (hy xs q) p hT
  · have e : i = xs.length := by omega
    subst e
    exact .inl ⟨⟨xs, q, Nat.le_refl _⟩, hd σ H p⟩

/-! ### the written part by names -/
structure Gm where
  K : PySem.W.Frag
  cRule : Addr
  cGame : Addr
  cSplitError : Addr
  cBadRule : Addr
  cBadHeap : Addr
  cBadSplit : Addr
  cNoTerms : Addr
  cNoTable : Addr
  cNotSure : Addr
  cBadWay : Addr
  cBadStyle : Addr
  cBadSums : Addr
  cBadNumber : Addr
  cTooGreat : Addr
  cBadRow : Addr
  cBadPlace : Addr
  cBadText : Addr
  aSTYLES : Addr
/-! ### built-ins by name -/
def rLen (K : PySem.W.Frag) : List V → Hp → VK → Prop := fun xs H Q => ∃ x n, xs = [x] ∧ LenV K x H n ∧ Q (.int n) H
def rAbs : List V → Hp → VK → Prop := fun xs H Q => ∃ i, xs = [.int i] ∧ Q (.int (if i < 0 then -i else i)) H
def rMin2 : List V → Hp → VK → Prop := fun xs H Q => ∃ i j, xs = [.int i, .int j] ∧ Q (.int (if j < i then j else i)) H
def rMax2 : List V → Hp → VK → Prop := fun xs H Q => ∃ i j, xs = [.int i, .int j] ∧ Q (.int (if j > i then j else i)) H
def rInt1 : List V → Hp → VK → Prop := fun xs H Q => (∃ i, xs = [.int i] ∧ Q (.int i) H) ∨ ∃ k, xs = [.bl k] ∧ Q (.int (if k then 1 else 0)) H
def rStr1 : List V → Hp → VK → Prop := fun xs H Q => ∃ i, xs = [.int i] ∧ i.natAbs.log2 < 1920 ∧ Q (.str (toString i)) H
def rTupOf (K : PySem.W.Frag) : List V → Hp → VK → Prop := fun xs H Q => ∃ p ys, xs = [.ref p] ∧ ((SqL K H p ys ∧ ∀ l, H l = none → Q (.ref l) (upd H l (.tup ys))) ∨ (SqT K H p ys ∧ Q (.ref p) H))
def rListOf (K : PySem.W.Frag) : List V → Hp → VK → Prop := fun xs H Q => ∃ p ys, xs = [.ref p] ∧ (SqL K H p ys ∨ SqT K H p ys) ∧ ∀ l, H l = none → Q (.ref l) (upd H l (.lst ys))
theorem pe_gint {X : Cx} {x : Str} {n : Int} {pos : Pos} (h : ∃ t, X.mg x = some (.int n t)) (hg : Gl X x) (hd : (x == ("__debug__" : Str)) = false := by decide) : PE X (.Name x pos) (tC (.int n)) := by
  obtain ⟨t, e⟩ := h
  exact pe_glob hg e ⟨t, rfl⟩ hd
theorem pe_gstr {X : Cx} {x s : Str} {pos : Pos} (h : ∃ t, X.mg x = some (.str s t)) (hg : Gl X x) (hd : (x == ("__debug__" : Str)) = false := by decide) : PE X (.Name x pos) (tC (.str s)) := by
  obtain ⟨t, e⟩ := h
  exact pe_glob hg e ⟨t, rfl⟩ hd
def tTry1 (K : PySem.W.Frag) (c : Value) (tb : WX → TS) (ts : Addr → Value → Option Addr → TS) : TS := fun D σ H => tb (wOnly K c ts (fun _ _ _ _ => False) D) D σ H
def tTryN (K : PySem.W.Frag) (tb : WX → TS) (l : List (Value × (Addr → Value → Option Addr → TS))) : TS := fun D σ H => tb (wMany K (fun _ _ _ _ => False) D l) D σ H
def startN (n : Nat) (vs : List V) : St := vs.map some ++ List.replicate (n - vs.length) none

theorem log2_le {n k : Nat} (h : n ≤ 2 ^ k) : n.log2 ≤ k := by
  by_cases z : n = 0
  · subst z; simp
  · have : n.log2 < k + 1 := (Nat.log2_lt z).mpr (by rw [Nat.pow_succ]; have := Nat.two_pow_pos k; omega)
    omega
theorem pow_nat {b : Int} {k m : Nat} (h : b.natAbs ≤ 2 ^ m) : (b ^ k).natAbs ≤ 2 ^ (m * k) := by
  rw [Int.natAbs_pow, Nat.pow_mul]
  exact Nat.pow_le_pow_left h k
theorem mul_nat {a b : Int} {m n : Nat} (ha : a.natAbs ≤ 2 ^ m) (hb : b.natAbs ≤ 2 ^ n) : (a * b).natAbs ≤ 2 ^ (m + n) := by
  rw [Int.natAbs_mul, Nat.pow_add]
  exact Nat.mul_le_mul ha hb
theorem cmul_of {a b : Int} {m n : Nat} (ha : a.natAbs ≤ 2 ^ m) (hb : b.natAbs ≤ 2 ^ n) (h : m + n < 1000000 := by omega) : CMulW a b := by
  have h1 := log2_le ha
  have h2 := log2_le hb
  unfold CMulW
  omega
/-! ### the heap grows -/
theorem _root_.L2.Same.new {H : Hp} {p : Addr} {o : HO} (h : H p = none) : Same H (upd H p o) := fun a u e => by
  rw [upd_ne (ne_of_none e h)]
  exact e
theorem _root_.L2.Same.mut {H H' : Hp} {p : Addr} {o : HO} (e : Same H H') (h : H p = none) : Same H (upd H' p o) := fun a u ha => by
  rw [upd_ne (ne_of_none ha h)]
  exact e a u ha
theorem _root_.L2.Same.seqT {K : PySem.W.Frag} {H H' : Hp} {a : Addr} {xs : List V} (e : Same H H') (h : SqT K H a xs) : SqT K H' a xs := by
  rcases h with (h | ⟨o, h⟩) | h
  · exact .inl (.inl (e _ _ h))
  · exact .inl (.inr ⟨o, e _ _ h⟩)
  · exact .inr h
theorem SqL.of {K : PySem.W.Frag} {H : Hp} {a : Addr} {xs : List V} (h : H a = some (.lst xs)) : SqL K H a xs := .inl (.inl h)
theorem SqT.of {K : PySem.W.Frag} {H : Hp} {a : Addr} {xs : List V} (h : H a = some (.tup xs)) : SqT K H a xs := .inl (.inl h)
/-- a new object at p, all else as before -/
theorem alloc {H : Hp} {o : HO} {R : Addr → Hp → Prop} (k : ∀ p H', H p = none → Same H H' → H' p = some o → R p H') : ∀ p, H p = none → R p (upd H p o) := fun p hp => k p _ hp (Same.new hp) upd_same

/-! ### one step of a reading -/
theorem w_iteT {A B : Prop} (h : A) : if true = true then A else B := by rw [if_pos rfl]; exact h
theorem w_iteF {A B : Prop} (h : B) : if false = true then A else B := by rw [if_neg Bool.false_ne_true]; exact h
theorem w_iteNT {A B : Prop} (h : B) : if (!true) = true then A else B := by rw [if_neg (by decide)]; exact h
theorem w_iteNF {A B : Prop} (h : A) : if (!false) = true then A else B := by rw [if_pos (by decide)]; exact h
theorem w_ite {b : Bool} {A B : Prop} (h1 : b = true → A) (h2 : b = false → B) : if b = true then A else B := by
  cases b with
  | true => exact w_iteT (h1 rfl)
  | false => exact w_iteF (h2 rfl)
section
variable {K : PySem.W.Frag} {σ : St} {H : Hp} {Q : VK} {QB : Bool → Hp → Prop} {QA : List V → Hp → Prop} {QO : Option Int → Hp → Prop} {nx bk ct : St → Hp → Prop} {rt : VK} {t u : TS} {c d : TT} {ta tb te to : TE} {r r' : R2} {tr : TA} {x y v : V} {g : TG} {gs : TGs}
theorem w_seq (h : t ⟨u ⟨nx, rt, bk, ct⟩, rt, bk, ct⟩ σ H) : tSeq t u ⟨nx, rt, bk, ct⟩ σ H := h
theorem w_thru (h : t ⟨u ⟨nx, rt, bk, ct⟩, rt, bk, ct⟩ σ H) : tCut t u ⟨nx, rt, bk, ct⟩ σ H := ⟨_, h, fun _ _ z => z⟩
theorem w_cut (Mid : St → Hp → Prop) (h : t ⟨Mid, rt, bk, ct⟩ σ H) (h2 : ∀ σ' H', Mid σ' H' → u ⟨nx, rt, bk, ct⟩ σ' H') : tCut t u ⟨nx, rt, bk, ct⟩ σ H := ⟨Mid, h, h2⟩
theorem w_prp {C : Addr} {fld : Str} (h : ta σ H fun x H1 => kPrp C fld x H1 Q) : tPrp C fld ta σ H Q := h
def kMak (C : Addr) (sp : Sp) (E : XK) (vs : List V) (H : Hp) (Q : VK) : Prop := ∀ x dx, H x = none → H dx = none → dx ≠ x → sp (.ref x :: vs) (upd (upd H dx (.own x)) x (.ins C dx [])) (fun v H2 => v = .non ∧ Q (.ref x) H2) E
theorem w_mak {C : Addr} {sp : Sp} {E : XK} (h : tr σ H fun vs H1 => kMak C sp E vs H1 Q) : tMak C sp E tr σ H Q := h
def kMakS (C : Addr) (sp : Sp) (E : XK) (vs : List V) (H : Hp) (Q : VK) : Prop := ∀ x dx, H x = none → H dx = none → dx ≠ x → sp (.ref x :: vs) (upd (upd H dx (.own x)) x (.ins C dx [])) (fun v H2 => v = .non ∧ Q (.ref x) H2) E
theorem w_makS {C : Addr} {sp : Sp} {E : St → XK} (h : tr σ H fun vs H1 => kMak C sp (E σ) vs H1 Q) : tMakS C sp E tr σ H Q := h
theorem w_next (h : nx σ H) : tNext ⟨nx, rt, bk, ct⟩ σ H := h
theorem w_brk (h : bk σ H) : tBreak ⟨nx, rt, bk, ct⟩ σ H := h
theorem w_cont (h : ct σ H) : tCont ⟨nx, rt, bk, ct⟩ σ H := h
theorem w_ret (h : te σ H rt) : tRet te ⟨nx, rt, bk, ct⟩ σ H := h
theorem w_retN (h : rt .non H) : tRetN ⟨nx, rt, bk, ct⟩ σ H := h
theorem w_asg (h : te σ H fun x H1 => g x σ H1 nx) : tAsg te g ⟨nx, rt, bk, ct⟩ σ H := h
theorem w_drop (h : te σ H fun _ H1 => nx σ H1) : tDrop te ⟨nx, rt, bk, ct⟩ σ H := h
theorem w_ifS (h : c σ H fun b H1 => if b = true then t ⟨nx, rt, bk, ct⟩ σ H1 else u ⟨nx, rt, bk, ct⟩ σ H1) : tIfS c t u ⟨nx, rt, bk, ct⟩ σ H := h
theorem w_gName {i : Nat} {k : St → Hp → Prop} (h : k (σ.set i (some v)) H) : gName i v σ H k := h
theorem w_gNil {k : St → Hp → Prop} (h : k σ H) : gNil [] σ H k := ⟨rfl, h⟩
theorem w_gCons {vs : List V} {k : St → Hp → Prop} (h : g v σ H fun σ' H' => gs vs σ' H' k) : gCons g gs (v :: vs) σ H k := ⟨v, vs, rfl, h⟩
theorem w_gTup {n : Nat} {a : Addr} {xs : List V} {k : St → Hp → Prop} (hs : SqT K H a xs) (hl : xs.length = n) (h : gs xs σ H k) : gTup K n gs (.ref a) σ H k := ⟨a, xs, rfl, hs, hl, h⟩
theorem w_gSub {ti : TE} {s : TSet} {k : St → Hp → Prop} (h : to σ H fun o H1 => ti σ H1 fun i H2 => s o i v H2 fun H3 => k σ H3) : gSub to ti s v σ H k := h
theorem w_setL {p : Addr} {xs : List V} {i : Int} {j : Nat} {k : Hp → Prop} (hp : H p = some (.lst xs)) (hi : ixN xs.length i = some j) (h : k (upd H p (.lst (xs.set j v)))) : rSetL (.ref p) (.int i) v H k := ⟨p, xs, i, j, rfl, rfl, hp, hi, h⟩
theorem w_par {i j : Nat} (h : tr σ H fun vs H1 => ∃ v w, vs = [v, w] ∧ nx ((σ.set i (some v)).set j (some w)) H1) : tPar i j tr ⟨nx, rt, bk, ct⟩ σ H := h
theorem w_par3 {i j l : Nat} (h : tr σ H fun vs H1 => ∃ u v w, vs = [u, v, w] ∧ nx (((σ.set i (some u)).set j (some v)).set l (some w)) H1) : tPar3 i j l tr ⟨nx, rt, bk, ct⟩ σ H := h
theorem w_two {v w : V} {k : V → V → Prop} (h : k v w) : ∃ a b, [v, w] = [a, b] ∧ k a b := ⟨v, w, rfl, h⟩
theorem w_three {u v w : V} {k : V → V → V → Prop} (h : k u v w) : ∃ a b c, [u, v, w] = [a, b, c] ∧ k a b c := ⟨u, v, w, rfl, h⟩
theorem w_aug {i : Nat} {f : Int → Int → Int} {m : Int} (hx : σ[i]? = some (some (.int m))) (h : te σ H fun y H1 => ipI f (.int m) y H1 fun z H2 => nx (σ.set i (some z)) H2) : tAug i te (ipI f) ⟨nx, rt, bk, ct⟩ σ H := ⟨_, hx, h⟩
theorem w_ipI {f : Int → Int → Int} {i j : Int} (h : Q (.int (f i j)) H) : ipI f (.int i) (.int j) H Q := ⟨i, j, rfl, rfl, h⟩
/-- what a for asks once its iterator has come -/
def forK (J : It) (g : TG) (t : TS) (nx : St → Hp → Prop) (rt : VK) (σ : St) (H : Hp) : Prop := ∃ W : Nat → Nat → St → Hp → Prop, (∃ m, W 0 m σ H) ∧ ∀ i m σ H, W i m σ H →
    (J.stop i H ∧ nx σ H) ∨ (J.go i H ∧ ∃ N : St → Hp → Prop, (∀ σ' H', N σ' H' → ∃ m', m' < m ∧ W (i + 1) m' σ' H') ∧ ∀ x H', J.yld i H x H' → g x σ H' fun σ2 H2 => t ⟨N, rt, nx, N⟩ σ2 H2)
theorem w_for {wi : TI} (h : wi σ H fun J H1 => forK J g t nx rt σ H1) : tFor wi g t ⟨nx, rt, bk, ct⟩ σ H := h
theorem k_range {lo : Int} {n : Nat} (Pv : Nat → St → Hp → Prop) (h0 : Pv 0 σ H) (hs : ∀ i σ H, i < n → Pv i σ H → g (.int (lo + i)) σ H fun σ2 H2 => t ⟨Pv (i + 1), rt, nx, Pv (i + 1)⟩ σ2 H2) (hd : ∀ σ H, Pv n σ H → nx σ H) : forK (Itr lo n) g t nx rt σ H :=
  for_range (D := ⟨nx, rt, fun _ _ => False, fun _ _ => False⟩) Pv h0 hs hd
theorem k_list {a : Addr} {xs : List V} (Pv : Nat → St → Hp → Prop) (h0 : Pv 0 σ H) (hl : ∀ i σ H, i ≤ xs.length → Pv i σ H → SqL K H a xs) (hs : ∀ i x σ H, xs[i]? = some x → Pv i σ H → g x σ H fun σ2 H2 => t ⟨Pv (i + 1), rt, nx, Pv (i + 1)⟩ σ2 H2) (hd : ∀ σ H, Pv xs.length σ H → nx σ H) : forK (Itl K a) g t nx rt σ H :=
  for_list (D := ⟨nx, rt, fun _ _ => False, fun _ _ => False⟩) Pv h0 hl hs hd
theorem k_tup {a : Addr} {xs : List V} (Pv : Nat → St → Hp → Prop) (h0 : Pv 0 σ H) (hl : ∀ i σ H, i ≤ xs.length → Pv i σ H → SqT K H a xs) (hs : ∀ i x σ H, xs[i]? = some x → Pv i σ H → g x σ H fun σ2 H2 => t ⟨Pv (i + 1), rt, nx, Pv (i + 1)⟩ σ2 H2) (hd : ∀ σ H, Pv xs.length σ H → nx σ H) : forK (Itt K a) g t nx rt σ H :=
  for_tup (D := ⟨nx, rt, fun _ _ => False, fun _ _ => False⟩) Pv h0 hl hs hd
theorem k_enumT {a : Addr} {xs : List V} (Pv : Nat → St → Hp → Prop) (h0 : Pv 0 σ H) (hl : ∀ i σ H, i ≤ xs.length → Pv i σ H → SqT K H a xs) (hs : ∀ i x σ H T, xs[i]? = some x → Pv i σ H → H T = none → g (.ref T) σ (upd H T (.tup [.int (i : Nat), x])) fun σ2 H2 => t ⟨Pv (i + 1), rt, nx, Pv (i + 1)⟩ σ2 H2) (hd : ∀ σ H, Pv xs.length σ H → nx σ H) : forK (Itet K a) g t nx rt σ H :=
  for_enumT (D := ⟨nx, rt, fun _ _ => False, fun _ _ => False⟩) Pv h0 hl hs hd
/-- what a list comprehension asks once its iterator has come -/
def lcK (J : It) (g : TG) (tt : TT) (te : TE) (vs : List Nat) (σ : St) (H1 : Hp) (Q : VK) : Prop := ∀ D, H1 D = none → ∃ W : Nat → Nat → Hp → Prop, (∃ m, W 0 m (upd H1 D (.lst []))) ∧ ∀ i m H, W i m H →
  (J.stop i H ∧ Q (.ref D) H) ∨ (J.go i H ∧ ∃ Nx : Hp → Prop, (∀ H', Nx H' → ∃ m', m' < m ∧ W (i + 1) m' H') ∧ ∀ x H', J.yld i H x H' → g x (wipe σ vs) H' fun σ2 H2 => wipe σ2 vs = wipe σ vs ∧ tt σ2 H2 fun b H3 =>
    if b = true then te σ2 H3 fun y H4 => ∃ acc, H4 D = some (.lst acc) ∧ acc.length < sizeLine ∧ Nx (upd H4 D (.lst (acc ++ [y]))) else Nx H3)
theorem w_lc {wi : TI} {vs : List Nat} (h : wi σ H fun J H1 => lcK J g c te vs σ H1 Q) : tLc wi g c te vs σ H Q := h
/-- one turn's end in a comprehension over the heap H0: the list so far, all else as it stood -/
def lcAt (H0 : Hp) (D : Addr) (P : List V → Hp → Prop) (H : Hp) : Prop := ∃ acc, H0 D = none ∧ Same H0 H ∧ H D = some (.lst acc) ∧ P acc H
/-- what a turn of a comprehension is to give: a value y with P of the list one longer -/
def lcTurn (H0 : Hp) (D : Addr) (P : List V → Hp → Prop) (y : V) (H4 : Hp) : Prop := ∃ acc, H4 D = some (.lst acc) ∧ acc.length < sizeLine ∧ lcAt H0 D P (upd H4 D (.lst (acc ++ [y])))
theorem lcTurn.mk {H0 : Hp} {D : Addr} {acc : List V} {P : List V → Hp → Prop} {y : V} {H4 : Hp} (hD : H0 D = none) (e : Same H0 H4) (ha : H4 D = some (.lst acc)) (hz : acc.length ≤ 100000) (hp : P (acc ++ [y]) (upd H4 D (.lst (acc ++ [y])))) : lcTurn H0 D P y H4 :=
  ⟨acc, ha, Nat.lt_of_le_of_lt hz (by decide), _, hD, Same.mut e hD, upd_same, hp⟩
theorem k_lcRange {lo : Int} {n : Nat} {vs : List Nat} (P : Nat → List V → Hp → Prop) (h0 : ∀ H', Same H H' → P 0 [] H')
    (hs : ∀ i D acc H', i < n → H D = none → Same H H' → H' D = some (.lst acc) → P i acc H' → g (.int (lo + i)) (wipe σ vs) H' fun σ2 H2 => wipe σ2 vs = wipe σ vs ∧ te σ2 H2 (lcTurn H D (P (i + 1))))
    (hd : ∀ D acc H', H D = none → Same H H' → H' D = some (.lst acc) → P n acc H' → Q (.ref D) H') : lcK (Itr lo n) g tYes te vs σ H Q := fun D hD =>
  lc_range (lo := lo) (n := n) (fun i H' => lcAt H D (P i) H') ⟨[], hD, Same.new hD, upd_same, h0 _ (Same.new hD)⟩ (fun i H' hi ⟨acc, _, e, ha, p⟩ => hs i D acc H' hi hD e ha p) fun H' ⟨acc, _, e, ha, p⟩ => hd D acc H' hD e ha p
theorem k_lcList {a : Addr} {xs : List V} {vs : List Nat} (P : Nat → List V → Hp → Prop) (hx : SqL K H a xs) (h0 : ∀ H', Same H H' → P 0 [] H')
    (hs : ∀ i x D acc H', xs[i]? = some x → H D = none → Same H H' → H' D = some (.lst acc) → P i acc H' → g x (wipe σ vs) H' fun σ2 H2 => wipe σ2 vs = wipe σ vs ∧ te σ2 H2 (lcTurn H D (P (i + 1))))
    (hd : ∀ D acc H', H D = none → Same H H' → H' D = some (.lst acc) → P xs.length acc H' → Q (.ref D) H') : lcK (Itl K a) g tYes te vs σ H Q := fun D hD =>
  lc_list (xs := xs) (fun i H' => lcAt H D (P i) H') ⟨[], hD, Same.new hD, upd_same, h0 _ (Same.new hD)⟩ (fun i H' _ ⟨_, _, e, _⟩ => e.seq hx) (fun i x H' hi ⟨acc, _, e, ha, p⟩ => hs i x D acc H' hi hD e ha p) fun H' ⟨acc, _, e, ha, p⟩ => hd D acc H' hD e ha p
theorem k_lcTup {a : Addr} {xs : List V} {vs : List Nat} (P : Nat → List V → Hp → Prop) (hx : SqT K H a xs) (h0 : ∀ H', Same H H' → P 0 [] H')
    (hs : ∀ i x D acc H', xs[i]? = some x → H D = none → Same H H' → H' D = some (.lst acc) → P i acc H' → g x (wipe σ vs) H' fun σ2 H2 => wipe σ2 vs = wipe σ vs ∧ te σ2 H2 (lcTurn H D (P (i + 1))))
    (hd : ∀ D acc H', H D = none → Same H H' → H' D = some (.lst acc) → P xs.length acc H' → Q (.ref D) H') : lcK (Itt K a) g tYes te vs σ H Q := fun D hD =>
  lc_tup (xs := xs) (fun i H' => lcAt H D (P i) H') ⟨[], hD, Same.new hD, upd_same, h0 _ (Same.new hD)⟩ (fun i H' _ ⟨_, _, e, _⟩ => e.seqT hx) (fun i x H' hi ⟨acc, _, e, ha, p⟩ => hs i x D acc H' hi hD e ha p) fun H' ⟨acc, _, e, ha, p⟩ => hd D acc H' hD e ha p
/-- the same with a test: b i x, and the value of what is kept -/
theorem k_lcListT {a : Addr} {xs : List V} {vs : List Nat} (P : Nat → List V → Hp → Prop) (hx : SqL K H a xs) (h0 : ∀ H', Same H H' → P 0 [] H')
    (hs : ∀ i x D acc H', xs[i]? = some x → H D = none → Same H H' → H' D = some (.lst acc) → P i acc H' → g x (wipe σ vs) H' fun σ2 H2 => wipe σ2 vs = wipe σ vs ∧ c σ2 H2 fun b H3 => if b = true then te σ2 H3 (lcTurn H D (P (i + 1))) else lcAt H D (P (i + 1)) H3)
    (hd : ∀ D acc H', H D = none → Same H H' → H' D = some (.lst acc) → P xs.length acc H' → Q (.ref D) H') : lcK (Itl K a) g c te vs σ H Q := fun D hD =>
  lc_list (xs := xs) (fun i H' => lcAt H D (P i) H') ⟨[], hD, Same.new hD, upd_same, h0 _ (Same.new hD)⟩ (fun i H' _ ⟨_, _, e, _⟩ => e.seq hx) (fun i x H' hi ⟨acc, _, e, ha, p⟩ => hs i x D acc H' hi hD e ha p) fun H' ⟨acc, _, e, ha, p⟩ => hd D acc H' hD e ha p
theorem k_lcRangeT {lo : Int} {n : Nat} {vs : List Nat} (P : Nat → List V → Hp → Prop) (h0 : ∀ H', Same H H' → P 0 [] H')
    (hs : ∀ i D acc H', i < n → H D = none → Same H H' → H' D = some (.lst acc) → P i acc H' → g (.int (lo + i)) (wipe σ vs) H' fun σ2 H2 => wipe σ2 vs = wipe σ vs ∧ c σ2 H2 fun b H3 => if b = true then te σ2 H3 (lcTurn H D (P (i + 1))) else lcAt H D (P (i + 1)) H3)
    (hd : ∀ D acc H', H D = none → Same H H' → H' D = some (.lst acc) → P n acc H' → Q (.ref D) H') : lcK (Itr lo n) g c te vs σ H Q := fun D hD =>
  lc_range (lo := lo) (n := n) (fun i H' => lcAt H D (P i) H') ⟨[], hD, Same.new hD, upd_same, h0 _ (Same.new hD)⟩ (fun i H' hi ⟨acc, _, e, ha, p⟩ => hs i D acc H' hi hD e ha p) fun H' ⟨acc, _, e, ha, p⟩ => hd D acc H' hD e ha p
def kRng1 (vs : List V) (H : Hp) (R : It → Hp → Prop) : Prop := ∃ j : Int, vs = [.int j] ∧ -(2 ^ 62) ≤ j ∧ j < 2 ^ 62 ∧ R (Itr 0 j.toNat) H
def kRng2 (vs : List V) (H : Hp) (R : It → Hp → Prop) : Prop := ∃ i j : Int, vs = [.int i, .int j] ∧ (-(2 ^ 62) ≤ i ∧ i < 2 ^ 62 ∧ -(2 ^ 62) ≤ j ∧ j < 2 ^ 62) ∧ R (Itr i (j - i).toNat) H
theorem w_rng1 {R : It → Hp → Prop} (h : tr σ H fun vs H1 => kRng1 vs H1 R) : iRng1 tr σ H R := h
theorem w_rng2 {R : It → Hp → Prop} (h : tr σ H fun vs H1 => kRng2 vs H1 R) : iRng2 tr σ H R := h
theorem k_rng1 {j : Int} {R : It → Hp → Prop} (h1 : -(2 ^ 62) ≤ j ∧ j < 2 ^ 62) (h : R (Itr 0 j.toNat) H) : kRng1 [.int j] H R := ⟨j, rfl, h1.1, h1.2, h⟩
theorem k_rng2 {i j : Int} {R : It → Hp → Prop} (h1 : -(2 ^ 62) ≤ i ∧ i < 2 ^ 62 ∧ -(2 ^ 62) ≤ j ∧ j < 2 ^ 62) (h : R (Itr i (j - i).toNat) H) : kRng2 [.int i, .int j] H R := ⟨i, j, rfl, h1, h⟩
theorem w_iSeq {R : It → Hp → Prop} (h : te σ H fun x H1 => kSeq K x H1 R) : iSeq K te σ H R := h
theorem k_seqL {a : Addr} {xs : List V} {R : It → Hp → Prop} (hx : SqL K H a xs) (h : R (Itl K a) H) : kSeq K (.ref a) H R := .inl ⟨a, rfl, ⟨xs, hx⟩, h⟩
theorem k_seqT {a : Addr} {xs : List V} {R : It → Hp → Prop} (hx : SqT K H a xs) (h : R (Itt K a) H) : kSeq K (.ref a) H R := .inr ⟨a, rfl, ⟨xs, hx⟩, h⟩
theorem w_iEnum {R : It → Hp → Prop} (h : tr σ H fun vs H1 => kEnum K vs H1 R) : iEnumS K tr σ H R := h
theorem k_enT {a : Addr} {xs : List V} {R : It → Hp → Prop} (hx : SqT K H a xs) (h : R (Itet K a) H) : kEnum K [.ref a] H R := .inr ⟨a, xs, rfl, hx, h⟩
-- tests
theorem w_test (h : te σ H fun x H' => ∃ k, x = .bl k ∧ QB k H') : tTest te σ H QB := h
theorem w_B (h : te σ H fun x H' => ∃ k, x = .bl k ∧ QB k H') : tB te σ H QB := h
theorem w_bl {b : Bool} (h : QB b H) : ∃ k, V.bl b = .bl k ∧ QB k H := ⟨b, rfl, h⟩
theorem w_not (h : c σ H fun b H1 => QB (!b) H1) : tNot c σ H QB := h
theorem w_and (h : c σ H fun b H1 => if b = true then d σ H1 QB else QB false H1) : tAnd c d σ H QB := h
theorem w_or (h : c σ H fun b H1 => if b = true then QB true H1 else d σ H1 QB) : tOr c d σ H QB := h
theorem w_andV (h : ta σ H fun x H1 => ∃ k, x = .bl k ∧ if k = true then tb σ H1 Q else Q (.bl false) H1) : tAndV ta tb σ H Q := h
theorem w_orV (h : ta σ H fun x H1 => ∃ k, x = .bl k ∧ if k = true then Q (.bl true) H1 else tb σ H1 Q) : tOrV ta tb σ H Q := h
theorem w_notV (h : ta σ H fun x H1 => ∃ k, x = .bl k ∧ Q (.bl (!k)) H1) : tNotV ta σ H Q := h
theorem w_ifT {e : TT} (h : c σ H fun b H1 => if b = true then d σ H1 QB else e σ H1 QB) : tIfT c d e σ H QB := h
theorem w_if (h : c σ H fun b H1 => if b = true then ta σ H1 Q else tb σ H1 Q) : tIf c ta tb σ H Q := h
-- expressions
theorem w_var {i : Nat} (h : σ[i]? = some (some v)) (q : Q v H) : tVar i σ H Q := ⟨v, h, q⟩
theorem w_c (q : Q v H) : tC v σ H Q := q
theorem w_op (h : ta σ H fun x H1 => tb σ H1 fun y H2 => r x y H2 Q) : tOp r ta tb σ H Q := h
theorem w_un {r1 : V → Hp → VK → Prop} (h : ta σ H fun x H1 => r1 x H1 Q) : tUn r1 ta σ H Q := h
theorem w_rU {f : Int → V} {i : Int} (h : Q (f i) H) : rU f (.int i) H Q := ⟨i, rfl, h⟩
theorem w_chain (h : ta σ H fun x H1 => tb σ H1 fun y H2 => r x y H2 fun z H3 => ∃ k, z = .bl k ∧ (if k = true then te σ H3 fun w' H4 => r' y w' H4 Q else Q (.bl false) H3)) : tChain r r' ta tb te σ H Q := h
theorem w_blv {b : Bool} {k : Bool → Prop} (h : k b) : ∃ a, V.bl b = .bl a ∧ k a := ⟨b, rfl, h⟩
theorem w_addI {i j : Int} (h : Q (.int (i + j)) H) : rAddU K (.int i) (.int j) H Q := .inl ⟨i, j, rfl, rfl, h⟩
theorem w_addL {l b : Addr} {xs zs : List V} (hl : H l = some (.lst xs)) (hb : H b = some (.lst zs)) (hz : xs.length + zs.length ≤ sizeLine) (h : ∀ p H', H p = none → Same H H' → H' p = some (.lst (xs ++ zs)) → Q (.ref p) H') : rAddU K (.ref l) (.ref b) H Q :=
  .inr (.inl ⟨l, b, xs, zs, rfl, rfl, hl, hb, hz, alloc h⟩)
theorem w_addS {i j : Str} (hl : i.length + j.length ≤ sizeLine) (h : Q (.str (i ++ j)) H) : rAddU K (.str i) (.str j) H Q := .inr (.inr (.inr ⟨i, j, rfl, rfl, hl, h⟩))
theorem w_subI {i j : Int} (h : Q (.int (i - j)) H) : rSubI (.int i) (.int j) H Q := ⟨i, j, rfl, rfl, h⟩
theorem w_mulI {i j : Int} (hc : CMulW i j) (h : Q (.int (i * j)) H) : rMulU K (.int i) (.int j) H Q := .inl ⟨i, j, rfl, rfl, hc, h⟩
theorem w_divI {i j : Int} (hc : CDivW i j) (h : Q (.int (i / j)) H) : rDivI (.int i) (.int j) H Q := ⟨i, j, rfl, rfl, hc, h⟩
theorem w_modI {i j : Int} (hc : 0 < j) (h : Q (.int (i % j)) H) : rModI (.int i) (.int j) H Q := ⟨i, j, rfl, rfl, hc, h⟩
theorem w_powI {i j : Int} (hc : CPow i j) (h : Q (.int (i ^ j.toNat)) H) : rPowI (.int i) (.int j) H Q := ⟨i, j, rfl, rfl, hc, h⟩
theorem w_lt {i j : Int} (h : Q (.bl (decide (i < j))) H) : rLt (.int i) (.int j) H Q := ⟨i, j, rfl, rfl, h⟩
theorem w_le {i j : Int} (h : Q (.bl (decide (i ≤ j))) H) : rLe (.int i) (.int j) H Q := ⟨i, j, rfl, rfl, h⟩
theorem w_gt {i j : Int} (h : Q (.bl (decide (j < i))) H) : rGt (.int i) (.int j) H Q := ⟨i, j, rfl, rfl, h⟩
theorem w_ge {i j : Int} (h : Q (.bl (decide (j ≤ i))) H) : rGe (.int i) (.int j) H Q := ⟨i, j, rfl, rfl, h⟩
theorem w_eqI {i j : Int} (h : Q (.bl (decide (i = j))) H) : rEqU K (.int i) (.int j) H Q := .inl ⟨rfl, by rw [show decide (V.int i = V.int j) = decide (i = j) from by simp]; exact h⟩
theorem w_neI {i j : Int} (h : Q (.bl (!decide (i = j))) H) : rNeU K (.int i) (.int j) H Q := .inl ⟨rfl, by rw [show decide (V.int i = V.int j) = decide (i = j) from by simp]; exact h⟩
theorem w_eqS {i j : Str} (h : Q (.bl (decide (i = j))) H) : rEqU K (.str i) (.str j) H Q := .inl ⟨rfl, by rw [show decide (V.str i = V.str j) = decide (i = j) from by simp]; exact h⟩
theorem w_neS {i j : Str} (h : Q (.bl (!decide (i = j))) H) : rNeU K (.str i) (.str j) H Q := .inl ⟨rfl, by rw [show decide (V.str i = V.str j) = decide (i = j) from by simp]; exact h⟩
theorem w_eqB {i j : Bool} (h : Q (.bl (decide (i = j))) H) : rEqU K (.bl i) (.bl j) H Q := .inl ⟨rfl, by rw [show decide (V.bl i = V.bl j) = decide (i = j) from by simp]; exact h⟩
theorem w_neB {i j : Bool} (h : Q (.bl (!decide (i = j))) H) : rNeU K (.bl i) (.bl j) H Q := .inl ⟨rfl, by rw [show decide (V.bl i = V.bl j) = decide (i = j) from by simp]; exact h⟩
theorem w_isN (h : Q (.bl (decide (x = .non))) H) : rIsU x .non H Q := .inl ⟨rfl, h⟩
theorem w_notN (h : Q (.bl (!decide (x = .non))) H) : rNotIsU x .non H Q := .inl ⟨rfl, h⟩
theorem w_isB {a b : Bool} (h : Q (.bl (decide (a = b))) H) : rIsU (.bl a) (.bl b) H Q := .inr ⟨a, b, rfl, rfl, h⟩
theorem w_notB {a b : Bool} (h : Q (.bl (!decide (a = b))) H) : rNotIsU (.bl a) (.bl b) H Q := .inr ⟨a, b, rfl, rfl, h⟩
theorem w_ixL {p : Addr} {xs : List V} {i : Int} (hp : SqL K H p xs) (hi : atI xs i = some v) (h : Q v H) : rIx K (.ref p) (.int i) H Q := .inl ⟨p, xs, i, v, rfl, rfl, hp, hi, h⟩
theorem w_ixT {p : Addr} {xs : List V} {i : Int} (hp : SqT K H p xs) (hi : atI xs i = some v) (h : Q v H) : rIx K (.ref p) (.int i) H Q := .inr (.inl ⟨p, xs, i, v, rfl, rfl, hp, hi, h⟩)
theorem w_cal {sp : Sp} {E : XK} (h : tr σ H fun vs H1 => sp vs H1 Q E) : tCal sp E tr σ H Q := h
theorem w_calS {sp : Sp} {E : St → XK} (h : tr σ H fun vs H1 => sp vs H1 Q (E σ)) : tCalS sp E tr σ H Q := h
theorem w_met {C : Addr} {m : Str} {sp : Sp} {E : XK} (h : ta σ H fun x H1 => ∃ a dx fs, x = .ref a ∧ H1 a = some (.ins C dx fs) ∧ fs.lookup m = none ∧ tr σ H1 fun vs H2 => sp (x :: vs) H2 Q E) : tMet C m sp E ta tr σ H Q := h
theorem w_inT {neg : Bool} {p : Addr} {xs : List V} (hp : SqT K H p xs) (hx : flatV x = true) (ha : xs.all flatV = true) (h : Q (.bl (if neg then !inV x xs else inV x xs)) H) : rIn K neg x (.ref p) H Q := ⟨p, xs, rfl, .inr hp, hx, ha, h⟩
theorem w_inL {neg : Bool} {p : Addr} {xs : List V} (hp : SqL K H p xs) (hx : flatV x = true) (ha : xs.all flatV = true) (h : Q (.bl (if neg then !inV x xs else inV x xs)) H) : rIn K neg x (.ref p) H Q := ⟨p, xs, rfl, .inl hp, hx, ha, h⟩
theorem w_in1 (h : rIn K false x y H Q) : rInU K x y H Q := .inl h
theorem w_in2 (h : rIn K true x y H Q) : rNotInU K x y H Q := .inl h
theorem w_nil (h : QA [] H) : tNil σ H QA := h
theorem w_cons (h : ta σ H fun x H1 => tr σ H1 fun xs H2 => QA (x :: xs) H2) : tCons ta tr σ H QA := h
theorem w_cb {rb : List V → Hp → VK → Prop} (h : tr σ H fun vs H1 => rb vs H1 Q) : tCB rb tr σ H Q := h
def kTup (xs : List V) (H : Hp) (Q : VK) : Prop := xs.length ≤ sizeLine ∧ ∀ p, H p = none → Q (.ref p) (upd H p (.tup xs))
def kLst (xs : List V) (H : Hp) (Q : VK) : Prop := xs.length ≤ sizeLine ∧ ∀ p, H p = none → Q (.ref p) (upd H p (.lst xs))
theorem w_tup (h : tr σ H fun xs H1 => kTup xs H1 Q) : tTup tr σ H Q := h
theorem w_lst (h : tr σ H fun xs H1 => kLst xs H1 Q) : tLst tr σ H Q := h
theorem n_tup {xs : List V} (k : ∀ p H', H p = none → Same H H' → H' p = some (.tup xs) → Q (.ref p) H') (hz : xs.length ≤ 100000 := by first | decide | (simp only [List.length_cons, List.length_nil]; decide)) : kTup xs H Q := ⟨Nat.le_trans hz (by decide), fun p hp => k p _ hp (Same.new hp) upd_same⟩
theorem n_lst {xs : List V} (k : ∀ p H', H p = none → Same H H' → H' p = some (.lst xs) → Q (.ref p) H') (hz : xs.length ≤ 100000 := by first | decide | (simp only [List.length_cons, List.length_nil]; decide)) : kLst xs H Q := ⟨Nat.le_trans hz (by decide), fun p hp => k p _ hp (Same.new hp) upd_same⟩
def rFld (K : PySem.W.Frag) (f : Str) (x : V) (H : Hp) (Q : VK) : Prop := ∃ a C dx fs v, x = .ref a ∧ H a = some (.ins C dx fs) ∧ Cls K C ∧ NoAttr K C f ∧ fs.lookup f = some v ∧ Q v H
theorem w_fld {f : Str} (h : ta σ H fun x H1 => rFld K f x H1 Q) : tFld K ta f σ H Q := h
def kSfld (K : PySem.W.Frag) (f : Str) (y x : V) (H : Hp) (k : Hp → Prop) : Prop := ∃ a C dx fs, x = .ref a ∧ H a = some (.ins C dx fs) ∧ Cls K C ∧ NoAttr K C f ∧ fs.length < 1000 ∧ k (upd H a (.ins C dx (putF f y fs)))
theorem w_sFld {f : Str} {tv : TE} (h : tv σ H fun y H1 => ta σ H1 fun x H2 => kSfld K f y x H2 fun H3 => nx σ H3) : sFld K ta tv f ⟨nx, rt, bk, ct⟩ σ H := h
theorem k_sfld {f : Str} {y : V} {a C dx : Addr} {fs : List (Str × V)} {k : Hp → Prop} (h1 : H a = some (.ins C dx fs)) (h2 : Cls K C) (h3 : NoAttr K C f) (h4 : fs.length < 1000) (h : k (upd H a (.ins C dx (putF f y fs)))) : kSfld K f y (.ref a) H k := ⟨a, C, dx, fs, rfl, h1, h2, h3, h4, h⟩
theorem w_bm {T : String} {rm : V → List V → Hp → VK → Prop} (h : to σ H fun x H1 => tyV K T x H1 ∧ tr σ H1 fun xs H2 => rm x xs H2 Q) : tBM K T rm to tr σ H Q := h
theorem w_bm0 {T : String} {rm : V → List V → Hp → VK → Prop} (h : to σ H fun x H1 => tyV K T x H1 ∧ rm x [] H1 Q) : tBM0 K T rm to σ H Q := h
theorem w_tyL {p : Addr} {xs : List V} {A : Prop} (hp : H p = some (.lst xs)) (h : A) : tyV K "list" (.ref p) H ∧ A := ⟨.inl ⟨rfl, xs, SqL.of hp⟩, h⟩
theorem w_app {l : Addr} {xs : List V} (hl : H l = some (.lst xs)) (hz : xs.length ≤ 100000) (h : Q .non (upd H l (.lst (xs ++ [y])))) : rAppend (.ref l) [y] H Q := ⟨l, xs, y, rfl, rfl, hl, Nat.lt_of_le_of_lt hz (by decide), h⟩
theorem w_lenL {p : Addr} {xs : List V} (hp : SqL K H p xs) (h : Q (.int (xs.length : Int)) H) : rLen K [.ref p] H Q := ⟨_, _, rfl, .inl ⟨xs, hp, rfl⟩, h⟩
theorem w_lenT {p : Addr} {xs : List V} (hp : SqT K H p xs) (h : Q (.int (xs.length : Int)) H) : rLen K [.ref p] H Q := ⟨_, _, rfl, .inr ⟨xs, hp, rfl⟩, h⟩
theorem w_int1 {i : Int} (h : Q (.int i) H) : rInt1 [.int i] H Q := .inl ⟨i, rfl, h⟩
theorem w_abs {i : Int} (h : Q (.int (if i < 0 then -i else i)) H) : rAbs [.int i] H Q := ⟨i, rfl, h⟩
theorem w_min2 {i j : Int} (h : Q (.int (if j < i then j else i)) H) : rMin2 [.int i, .int j] H Q := ⟨i, j, rfl, h⟩
theorem w_tupL {p : Addr} {xs : List V} (hp : SqL K H p xs) (h : ∀ l H', H l = none → Same H H' → H' l = some (.tup xs) → Q (.ref l) H') : rTupOf K [.ref p] H Q := ⟨p, xs, rfl, .inl ⟨hp, alloc h⟩⟩
theorem w_tupT {p : Addr} {xs : List V} (hp : SqT K H p xs) (h : Q (.ref p) H) : rTupOf K [.ref p] H Q := ⟨p, xs, rfl, .inr ⟨hp, h⟩⟩
theorem w_listL {p : Addr} {xs : List V} (hp : SqL K H p xs ∨ SqT K H p xs) (h : ∀ l H', H l = none → Same H H' → H' l = some (.lst xs) → Q (.ref l) H') : rListOf K [.ref p] H Q := ⟨p, xs, rfl, hp, alloc h⟩
theorem w_sum {p : Addr} {ns : List Int} (hp : SqL K H p (ns.map V.int)) (h : Q (.int ns.sum) H) : rSum K [.ref p] H Q := ⟨p, ns, rfl, hp, h⟩
theorem w_all {p : Addr} {bs : List Bool} (hp : SqL K H p (bs.map V.bl)) (h : Q (.bl (bs.all id)) H) : rAll K [.ref p] H Q := ⟨p, bs, rfl, hp, h⟩
theorem w_sl {rs : RSl} {tl th : TO} (h : te σ H fun x H1 => tl σ H1 fun l H2 => th σ H2 fun u H3 => rs x l u H3 Q) : tSl rs te tl th σ H Q := h
theorem w_noPart (h : QO none H) : tNoPart σ H QO := h
theorem w_part (h : te σ H fun x H1 => ∃ i, x = .int i ∧ QO (some i) H1) : tPart te σ H QO := h
theorem w_parti {i : Int} {k : Int → Prop} (h : k i) : ∃ j, V.int i = .int j ∧ k j := ⟨i, rfl, h⟩
theorem w_yes (h : QB true H) : tYes σ H QB := h
theorem w_raise {C : Addr} {W : WX} (h : W (.ref C) none σ H) : tRaise C W ⟨nx, rt, bk, ct⟩ σ H := h
theorem w_try1 {cv : Value} {tbb : WX → TS} {ts : Addr → Value → Option Addr → TS} (h : tbb (wOnly K cv ts (fun _ _ _ _ => False) ⟨nx, rt, bk, ct⟩) ⟨nx, rt, bk, ct⟩ σ H) : tTry1 K cv tbb ts ⟨nx, rt, bk, ct⟩ σ H := h
theorem w_tryN {tbb : WX → TS} {l : List (Value × (Addr → Value → Option Addr → TS))} (h : tbb (wMany K (fun _ _ _ _ => False) ⟨nx, rt, bk, ct⟩ l) ⟨nx, rt, bk, ct⟩ σ H) : tTryN K tbb l ⟨nx, rt, bk, ct⟩ σ H := h
end

local macro_rules | `(tactic| walk_at "sq") => `(tactic| first
  | assumption
  | exact SqT.of (by assumption)
  | exact SqL.of (by assumption)
  | exact SqT.of upd_same
  | exact SqL.of upd_same
  | exact Same.seqT (by assumption) (by assumption)
  | exact Same.seq (by assumption) (by assumption)
  | exact Same.seqT (by assumption) (SqT.of (by assumption))
  | exact Same.seq (by assumption) (SqL.of (by assumption)))
local macro_rules | `(tactic| walk_at "s") => `(tactic| with_reducible first
  | refine w_seq ?_ | refine w_asg ?_ | refine w_gName ?_ | refine w_ret ?_ | refine w_ifS ?_ | refine w_drop ?_ | refine w_par ?_ | refine w_par3 ?_ | refine w_two ?_ | refine w_three ?_
  | refine w_test ?_ | refine w_B ?_ | refine w_not ?_ | refine w_and ?_ | refine w_or ?_ | refine w_andV ?_ | refine w_orV ?_ | refine w_notV ?_ | refine w_if ?_ | refine w_ifT ?_ | refine w_bl ?_ | refine w_blv ?_ | refine w_iteT ?_ | refine w_iteF ?_ | refine w_iteNT ?_ | refine w_iteNF ?_
  | refine w_var (by with_unfolding_all rfl) ?_ | refine w_c ?_ | refine w_op ?_ | refine w_un ?_ | refine w_rU ?_ | refine w_chain ?_
  | refine w_addI ?_ | refine w_subI ?_ | refine w_lt ?_ | refine w_le ?_ | refine w_gt ?_ | refine w_ge ?_ | refine w_eqI ?_ | refine w_neI ?_ | refine w_eqS ?_ | refine w_neS ?_ | refine w_eqB ?_ | refine w_neB ?_ | refine w_isN ?_ | refine w_notN ?_ | refine w_isB ?_ | refine w_notB ?_
  | refine w_cal ?_ | refine w_calS ?_ | refine w_nil ?_ | refine w_cons ?_ | refine w_cb ?_ | refine w_int1 ?_ | refine w_abs ?_ | refine w_min2 ?_ | refine w_ipI ?_ | refine w_gSub ?_
  | refine w_tup ?_ | refine w_lst ?_ | refine w_bm ?_ | refine w_bm0 ?_ | refine w_sl ?_ | refine w_noPart ?_ | refine w_part ?_ | refine w_parti ?_ | refine w_yes ?_ | refine w_raise ?_ | refine w_try1 ?_ | refine w_tryN ?_ | refine w_brk ?_ | refine w_cont ?_ | refine w_retN ?_ | refine w_gNil ?_ | refine w_gCons ?_
  | refine w_fld ?_ | refine w_prp ?_ | refine w_mak ?_ | refine w_makS ?_ | refine w_sFld ?_ | refine w_for ?_ | refine w_lc ?_ | refine w_rng1 ?_ | refine w_rng2 ?_ | refine w_iSeq ?_ | refine w_iEnum ?_ | refine w_met ?_
  | refine w_aug (by with_unfolding_all rfl) ?_
  | refine w_next ?_)
local macro_rules | `(tactic| walk_at "m") => `(tactic| first
  | ((with_reducible show rMulU _ (V.int _) (V.int _) _ _); refine w_mulI (cmul_of (m := 110) (n := 110) (by omega) (by omega)) ?_)
  | ((with_reducible show rModI (V.int _) (V.int _) _ _); refine w_modI (by omega) ?_))
local macro_rules | `(tactic| walk_at "ss") => `(tactic| repeat (first | walk_at "s" | walk_at "m"))
/-! ### any value -/
/-- a value of one of the kinds that the document names, as it stands in H -/
inductive Tag (K : PySem.W.Frag) (H : Hp) : V → Prop
  | non : Tag K H .non
  | bl (b : Bool) : Tag K H (.bl b)
  | int (i : Int) : Tag K H (.int i)
  | str (x : Str) : Tag K H (.str x)
  | lst {a : Addr} {xs : List V} (h : H a = some (.lst xs)) : Tag K H (.ref a)
  | tup {a : Addr} {xs : List V} (h : H a = some (.tup xs)) : Tag K H (.ref a)
  | dK {a : Addr} {kvs : List (Key × V)} (h : H a = some (.dK kvs)) : Tag K H (.ref a)
theorem Tag.mono {K : PySem.W.Frag} {H H' : Hp} {v : V} (e : Same H H') (h : Tag K H v) : Tag K H' v := by
  cases h with
  | non => exact .non
  | bl b => exact .bl b
  | int i => exact .int i
  | str x => exact .str x
  | lst h => exact .lst (e _ _ h)
  | tup h => exact .tup (e _ _ h)
  | dK h => exact .dK (e _ _ h)
/-- its built-in class -/
def tyN (H : Hp) : V → String
  | .non => "NoneType"
  | .bl _ => "bool"
  | .int _ => "int"
  | .str _ => "str"
  | .ref a => match H a with
    | some (.lst _) => "list"
    | some (.tup _) => "tuple"
    | some (.dK _) => "dict"
    | _ => "?"
  | _ => "?"
def tyTab (a n : String) : Bool := a == n || (a == "bool" && n == "int")
def isTy (H : Hp) (n : String) (v : V) : Bool := tyTab (tyN H v) n
def tyNames : List String := ["int", "bool", "str", "tuple", "list", "dict"]
theorem tyTab_all : ∀ a ∈ ["NoneType", "int", "bool", "str", "tuple", "list", "dict"], ∀ n ∈ tyNames, kitB a n = some (tyTab a n) := by decide +kernel
theorem w_isi {K : PySem.W.Frag} {H : Hp} {v : V} {n : String} {Q : VK} (h : Tag K H v) (hn : n ∈ tyNames) (q : Q (.bl (isTy H n v)) H) : rIsi K [v, .ty n] H Q := by
  have key : ∀ (a : String), TyX K H v (.type a) → tyN H v = a → a ∈ ["NoneType", "int", "bool", "str", "tuple", "list", "dict"] → rIsi K [v, .ty n] H Q := fun a t e m => ⟨v, .ty n, .type a, .type n, _, rfl, .ty n, t, kit_ty (tyTab_all a m n hn), by unfold isTy at q; rw [e] at q; exact q⟩
  cases h with
  | non => exact key "NoneType" (.base .non) rfl (by decide)
  | bl b => exact key "bool" (.base (.bl b)) rfl (by decide)
  | int i => exact key "int" (.base (.int i)) rfl (by decide)
  | str x => exact key "str" (.base (.str x)) rfl (by decide)
  | lst h => exact key "list" (.base (.lst h)) (by simp only [tyN, h]) (by decide)
  | tup h => exact key "tuple" (.base (.tup h)) (by simp only [tyN, h]) (by decide)
  | dK h => exact key "dict" (.base (.dK h)) (by simp only [tyN, h]) (by decide)
/-! ### is_integer, is_from -/
def isI : V → Bool
  | .int _ => true
  | _ => false
theorem isI_ty {K : PySem.W.Frag} {H : Hp} {v : V} (h : Tag K H v) : isI v = (isTy H "int" v && !isTy H "bool" v) := by
  cases h with
  | non => simp only [isTy, tyN, isI]; decide
  | bl b => simp only [isTy, tyN, isI]; decide
  | int i => simp only [isTy, tyN, isI]; decide
  | str x => simp only [isTy, tyN, isI]; decide
  | lst h => simp only [isTy, tyN, h, isI]; decide
  | tup h => simp only [isTy, tyN, h, isI]; decide
  | dK h => simp only [isTy, tyN, h, isI]; decide
/-- an int from lo to hi, no bool -/
def inR (lo hi : Int) : V → Bool
  | .int n => decide (lo ≤ n) && decide (n ≤ hi)
  | _ => false
def sp_is_integer (Γ : Gm) : Sp := fun vs H Q _ => ∃ v, vs = [v] ∧ Tag Γ.K H v ∧ Q (.bl (isI v)) H
def sp_is_from (Γ : Gm) : Sp := fun vs H Q _ => ∃ v lo hi, vs = [v, .int lo, .int hi] ∧ Tag Γ.K H v ∧ Q (.bl (inR lo hi v)) H
/-- is_integer: value -/
def t_is_integer (Γ : Gm) : TS := (tRet (tAndV (tCB (rIsi Γ.K) (tCons (tVar 0) (tCons (tC (.ty "int")) tNil))) (tNotV (tCB (rIsi Γ.K) (tCons (tVar 0) (tCons (tC (.ty "bool")) tNil))))))
theorem rd_is_integer (Γ : Gm) (vs : List V) (H : Hp) (Q : VK) (E : XK) (h : sp_is_integer Γ vs H Q E) : t_is_integer Γ ⟨fun _ H' => Q .non H', Q, fun _ _ => False, fun _ _ => False⟩ (startN 1 vs) H := by
  obtain ⟨v, rfl, ht, q⟩ := h
  unfold t_is_integer
  walk_at "ss"
  refine w_isi ht (by decide) ?_
  rw [isI_ty ht] at q
  walk_at "ss"
  refine w_ite (fun e => ?_) (fun e => ?_)
  · walk_at "ss"
    refine w_isi ht (by decide) ?_
    walk_at "ss"
    rw [e] at q
    exact q
  · rw [e] at q
    exact q
/-- is_from: value, low, high -/
def t_is_from (Γ : Gm) : TS := (tRet (tAndV (tCal (sp_is_integer Γ) E0 (tCons (tVar 0) tNil)) (tChain rLe rLe (tVar 1) (tVar 0) (tVar 2))))
theorem rd_is_from (Γ : Gm) (vs : List V) (H : Hp) (Q : VK) (E : XK) (h : sp_is_from Γ vs H Q E) : t_is_from Γ ⟨fun _ H' => Q .non H', Q, fun _ _ => False, fun _ _ => False⟩ (startN 3 vs) H := by
  obtain ⟨v, lo, hi, rfl, ht, q⟩ := h
  unfold t_is_from
  walk_at "ss"
  refine ⟨v, rfl, ht, ?_⟩
  walk_at "ss"
  cases v with
  | int n =>
    rw [if_pos (show isI (V.int n) = true from rfl)]
    walk_at "ss"
    refine w_ite (fun e => ?_) (fun e => ?_)
    · walk_at "ss"
      have e' : decide (lo ≤ n) = true := e
      simp only [inR, e', Bool.true_and] at q
      exact q
    · have e' : decide (lo ≤ n) = false := e
      simp only [inR, e', Bool.false_and] at q
      exact q
  | _ => exact w_iteF q
/-! ### drawing -/
/-- what a source of numbers holds -/
def DS (ns : List Int) : Prop := ∃ (s c : Int) (r : List Int), ns = s :: c :: r ∧ 0 ≤ s ∧ s < 2147483647 ∧ r.length ≤ 63
abbrev dO (d : Addr) : HO := opq DS d
def sp__law_below (Γ : Gm) : Sp := fun vs H Q _ => ∃ (d : Addr) (n : Int), vs = [.ref d, .int n] ∧ H d = some (dO d) ∧ 0 < n ∧ n < 2 ^ 200 ∧ ∀ r : Int, 0 ≤ r → r < n → Q (.int r) H
/-- law_below: _law_d, _law_size, _law_result -/
def t__law_below (Γ : Gm) : TS := tOpen DS (tCut (tIfS (tAnd (tTest (tOp (rEqU Γ.K) (tOp (rIx Γ.K) (tVar 0) (tC (.int 1))) (tC (.int 0)))) (tTest (tOp rGt (tCB (rLen Γ.K) (tCons (tVar 0) tNil)) (tC (.int 2))))) (tAsg (tBM Γ.K "list" rPopAt (tVar 0) (tCons (tC (.int 2)) tNil)) (gSub (tVar 0) (tC (.int 1)) rSetL)) tNext)
  (tSeq (tIfS (tTest (tOp rGt (tOp (rIx Γ.K) (tVar 0) (tC (.int 1))) (tC (.int 0)))) (tSeq (tAsg (tOp rModI (tCB rInt1 (tCons (tOp (rIx Γ.K) (tVar 0) (tC (.int 1))) tNil)) (tVar 1)) (gName 2))
  (tSeq (tAsg (tOp rDivI (tOp (rIx Γ.K) (tVar 0) (tC (.int 1))) (tVar 1)) (gSub (tVar 0) (tC (.int 1)) rSetL))
  (tRet (tVar 2)))) tNext)
  (tSeq (tAsg (tOp rModI (tCB rInt1 (tCons (tOp (rAddU Γ.K) (tOp (rMulU Γ.K) (tOp (rIx Γ.K) (tVar 0) (tC (.int 0))) (tC (.int 48271))) (tC (.int 11))) tNil)) (tC (.int 2147483647))) (gSub (tVar 0) (tC (.int 0)) rSetL))
  (tRet (tOp rModI (tCB rInt1 (tCons (tOp rDivI (tOp (rIx Γ.K) (tVar 0) (tC (.int 0))) (tC (.int 64))) tNil)) (tVar 1))))))
theorem upd_back {H : Hp} {d : Addr} {o u : HO} (h : H d = some o) : upd (upd H d u) d o = H := by
  rw [upd_upd]
  funext b
  unfold upd
  split
  · rename_i e; rw [e, h]
  · rfl
theorem atI0 {α : Type} (a : α) (l : List α) : atI (a :: l) 0 = some a := by simp [atI, ixN]
theorem atI1 {α : Type} (a b : α) (l : List α) : atI (a :: b :: l) 1 = some b := by
  unfold atI ixN
  rw [if_pos (by decide), if_pos (by simp only [List.length_cons]; omega)]
  rfl
theorem ixN0 (n : Nat) : ixN (n + 1) 0 = some 0 := by
  unfold ixN
  rw [if_pos (by decide), if_pos (by omega)]
  rfl
theorem ixN1 (n : Nat) : ixN (n + 1 + 1) 1 = some 1 := by
  unfold ixN
  rw [if_pos (by decide), if_pos (by omega)]
  rfl
theorem log_of {n : Int} {k : Nat} (h : n.natAbs < 2 ^ k) : n.natAbs.log2 < k + 1 := by
  by_cases z : n.natAbs = 0
  · rw [z]; simp
  · have := (Nat.log2_lt z).mpr h
    omega
theorem rd__law_below (Γ : Gm) (vs : List V) (H : Hp) (Q : VK) (E : XK) (h : sp__law_below Γ vs H Q E) : t__law_below Γ ⟨fun _ H' => Q .non H', Q, fun _ _ => False, fun _ _ => False⟩ (startN 3 vs) H := by
  obtain ⟨d, n, rfl, hd, hn, hn2, k⟩ := h
  refine ⟨d, hd, ?_⟩
  rintro _ ⟨s, c, r, rfl, hs, hs2, hr⟩
  have fin : ∀ (H1 : Hp) (v : Int) (ns : List Int), (∀ o, upd H1 d o = upd H d o) → H1 d = some (.lst (ns.map V.int)) → DS ns → 0 ≤ v → v < n → (shutE DS d ⟨fun _ H' => Q .non H', Q, fun _ _ => False, fun _ _ => False⟩).rt (.int v) H1 := fun H1 v ns e1 e2 e3 h1 h2 => by
    refine ⟨ns, e3, e2, ?_⟩
    rw [e1]
    have e4 : upd H d (dO d) = H := by
      have := upd_back (u := dO d) hd
      rwa [upd_upd] at this
    rw [e4]
    exact k v h1 h2
  have two : ∀ (c : Int) (r : List Int) (H1 : Hp), r.length ≤ 63 → H1 d = some (.lst ((s :: c :: r).map V.int)) → (∀ o, upd H1 d o = upd H d o) →
      (tSeq (tIfS (tTest (tOp rGt (tOp (rIx Γ.K) (tVar 0) (tC (.int 1))) (tC (.int 0)))) (tSeq (tAsg (tOp rModI (tCB rInt1 (tCons (tOp (rIx Γ.K) (tVar 0) (tC (.int 1))) tNil)) (tVar 1)) (gName 2))
  (tSeq (tAsg (tOp rDivI (tOp (rIx Γ.K) (tVar 0) (tC (.int 1))) (tVar 1)) (gSub (tVar 0) (tC (.int 1)) rSetL))
  (tRet (tVar 2)))) tNext)
  (tSeq (tAsg (tOp rModI (tCB rInt1 (tCons (tOp (rAddU Γ.K) (tOp (rMulU Γ.K) (tOp (rIx Γ.K) (tVar 0) (tC (.int 0))) (tC (.int 48271))) (tC (.int 11))) tNil)) (tC (.int 2147483647))) (gSub (tVar 0) (tC (.int 0)) rSetL))
  (tRet (tOp rModI (tCB rInt1 (tCons (tOp rDivI (tOp (rIx Γ.K) (tVar 0) (tC (.int 0))) (tC (.int 64))) tNil)) (tVar 1))))) (shutE DS d ⟨fun _ H' => Q .non H', Q, fun _ _ => False, fun _ _ => False⟩) (startN 3 [.ref d, .int n]) H1 := fun c r H1 hr hH hB => by
    unfold shutE
    walk_at "ss"
    refine w_ixL (SqL.of hH) (atI1 _ _ _) ?_
    walk_at "ss"
    refine w_ite (fun e => ?_) (fun e => ?_)
    · walk_at "ss"
      refine w_ixL (SqL.of hH) (atI1 _ _ _) ?_
      walk_at "ss"
      refine w_ixL (SqL.of hH) (atI1 _ _ _) ?_
      walk_at "ss"
      refine w_divI ⟨hn, by have := log_of (n := n) (k := 200) (by omega); omega⟩ ?_
      walk_at "ss"
      refine w_setL hH (ixN1 _) ?_
      walk_at "ss"
      refine fin _ (c % n) (s :: (c / n) :: r) (fun o => by rw [upd_upd]; exact hB o) (by rw [upd_same]; rfl) ⟨s, c / n, r, rfl, hs, hs2, hr⟩ (Int.emod_nonneg _ (by omega)) (Int.emod_lt_of_pos _ hn)
    · walk_at "ss"
      refine w_ixL (SqL.of hH) (atI0 _ _) ?_
      walk_at "ss"
      refine w_setL hH (ixN0 _) ?_
      walk_at "ss"
      refine w_ixL (SqL.of upd_same) (atI0 _ _) ?_
      walk_at "ss"
      refine w_divI ⟨by decide, by decide +kernel⟩ ?_
      walk_at "ss"
      refine fin _ _ ((s * 48271 + 11) % 2147483647 :: c :: r) (fun o => by rw [upd_upd]; exact hB o) (by rw [upd_same]; rfl) ⟨_, c, r, rfl, Int.emod_nonneg _ (by decide), Int.emod_lt_of_pos _ (by decide), hr⟩ (Int.emod_nonneg _ (by omega)) (Int.emod_lt_of_pos _ hn)
  unfold shutE
  refine w_thru ?_
  walk_at "ss"
  refine w_ixL (SqL.of upd_same) (atI1 _ _ _) ?_
  walk_at "ss"
  refine w_ite (fun e => ?_) (fun e => ?_)
  · walk_at "ss"
    refine w_lenL (SqL.of upd_same) ?_
    walk_at "ss"
    refine w_ite (fun e2 => ?_) (fun e2 => ?_)
    · have hl : ∃ c' r', r = c' :: r' := by
        cases r with
        | nil => simp at e2
        | cons a b => exact ⟨a, b, rfl⟩
      obtain ⟨c', r', rfl⟩ := hl
      walk_at "ss"
      refine w_tyL upd_same ?_
      walk_at "ss"
      refine ⟨d, _, 2, 2, .int c', rfl, rfl, upd_same, by decide, by decide, ?_, rfl, ?_⟩
      · simp [seqIndex?]
        omega
      walk_at "ss"
      refine w_setL upd_same (ixN1 _) ?_
      refine two c' r' _ (by simp only [List.length_cons] at hr; omega) (by rw [upd_same]; rfl) (fun o => by rw [upd_upd, upd_upd, upd_upd])
    · exact two c r _ hr upd_same (fun o => by rw [upd_upd])
  · exact two c r _ hr upd_same (fun o => by rw [upd_upd])

/-! ### data made of tuples -/
mutual
inductive Tp (H : Hp) : V → PyData → Prop
  | non : Tp H .non .none
  | bl (b : Bool) : Tp H (.bl b) (.bool b)
  | int (i : Int) : Tp H (.int i) (.int i)
  | str (x : Str) : Tp H (.str x) (.str x)
  | tup {a : Addr} {xs : List V} {ds : List PyData} : H a = some (.tup xs) → TpAll H xs ds → Tp H (.ref a) (.tuple ds)
inductive TpAll (H : Hp) : List V → List PyData → Prop
  | nil : TpAll H [] []
  | cons {v : V} {vs : List V} {d : PyData} {ds : List PyData} : Tp H v d → TpAll H vs ds → TpAll H (v :: vs) (d :: ds)
end
/-- the tuples stand -/
def Tups (H H' : Hp) : Prop := ∀ a xs, H a = some (.tup xs) → H' a = some (.tup xs)
theorem _root_.L2.Same.tups {H H' : Hp} (e : Same H H') : Tups H H' := fun a xs h => e a _ h
theorem Tups.upd {H H' : Hp} {l : Addr} {o : HO} (e : Tups H H') (h : ∀ xs, H' l ≠ some (.tup xs)) : Tups H (upd H' l o) := fun a xs q => by
  have q' := e a xs q
  rw [upd_ne (fun z => h xs (by rw [← z]; exact q'))]
  exact q'
theorem Tups.trans {H H1 H2 : Hp} (a : Tups H H1) (b : Tups H1 H2) : Tups H H2 := fun x xs h => b x xs (a x xs h)
mutual
theorem Tp.mono {H H' : Hp} (e : Tups H H') : ∀ {v : V} {d : PyData}, Tp H v d → Tp H' v d
  | _, _, .non => .non
  | _, _, .bl b => .bl b
  | _, _, .int i => .int i
  | _, _, .str x => .str x
  | _, _, .tup h k => .tup (e _ _ h) (TpAll.mono e k)
theorem TpAll.mono {H H' : Hp} (e : Tups H H') : ∀ {vs : List V} {ds : List PyData}, TpAll H vs ds → TpAll H' vs ds
  | _, _, .nil => .nil
  | _, _, .cons h k => .cons (Tp.mono e h) (TpAll.mono e k)
end
mutual
theorem Tp.dp {K : PySem.W.Frag} {H : Hp} : ∀ {v : V} {d : PyData}, Tp H v d → Dp K H v d
  | _, _, .non => .non
  | _, _, .bl b => .bl b
  | _, _, .int i => .int i
  | _, _, .str x => .str x
  | _, _, .tup h k => .tup (SqT.of h) (TpAll.dp k)
theorem TpAll.dp {K : PySem.W.Frag} {H : Hp} : ∀ {vs : List V} {ds : List PyData}, TpAll H vs ds → DpAll K H vs ds
  | _, _, .nil => .nil
  | _, _, .cons h k => .cons (Tp.dp h) (TpAll.dp k)
end
theorem TpAll.length {H : Hp} : ∀ {vs : List V} {ds : List PyData}, TpAll H vs ds → vs.length = ds.length
  | _, _, .nil => rfl
  | _, _, .cons _ k => by rw [List.length_cons, List.length_cons, TpAll.length k]
theorem TpAll.get {H : Hp} : ∀ {vs : List V} {ds : List PyData} {i : Nat} {d : PyData}, TpAll H vs ds → ds[i]? = some d → ∃ v, vs[i]? = some v ∧ Tp H v d
  | _, _, _, _, .nil, e => by simp at e
  | _, _, 0, _, .cons h _, e => by simp at e; subst e; exact ⟨_, rfl, h⟩
  | _, _, i + 1, _, .cons _ k, e => by
    obtain ⟨v, h1, h2⟩ := TpAll.get (i := i) k (by simpa using e)
    exact ⟨v, by simpa using h1, h2⟩
theorem TpAll.get' {H : Hp} : ∀ {vs : List V} {ds : List PyData} {i : Nat} {v : V}, TpAll H vs ds → vs[i]? = some v → ∃ d, ds[i]? = some d ∧ Tp H v d
  | _, _, _, _, .nil, e => by simp at e
  | _, _, 0, _, .cons h _, e => by simp at e; subst e; exact ⟨_, rfl, h⟩
  | _, _, i + 1, _, .cons _ k, e => by
    obtain ⟨v, h1, h2⟩ := TpAll.get' (i := i) k (by simpa using e)
    exact ⟨v, by simpa using h1, h2⟩
theorem TpAll.ints {H : Hp} : ∀ {vs : List V} {ns : List Int}, TpAll H vs (ns.map PyData.int) → vs = ns.map V.int
  | _, [], .nil => rfl
  | _, n :: ns, .cons h k => by
    cases h
    rw [List.map_cons, TpAll.ints k]
theorem TpAll.of_ints (H : Hp) : ∀ (ns : List Int), TpAll H (ns.map V.int) (ns.map PyData.int)
  | [] => .nil
  | n :: ns => .cons (.int n) (TpAll.of_ints H ns)
theorem TpAll.append {H : Hp} : ∀ {vs ws : List V} {ds es : List PyData}, TpAll H vs ds → TpAll H ws es → TpAll H (vs ++ ws) (ds ++ es)
  | _, _, _, _, .nil, k => k
  | _, _, _, _, .cons h k, q => .cons h (TpAll.append k q)
theorem Tp.inv {H : Hp} {v : V} {ds : List PyData} (h : Tp H v (.tuple ds)) : ∃ a xs, v = .ref a ∧ H a = some (.tup xs) ∧ TpAll H xs ds := by
  cases h with
  | tup h k => exact ⟨_, _, rfl, h, k⟩
theorem Tp.tag {K : PySem.W.Frag} {H : Hp} {v : V} {d : PyData} (h : Tp H v d) : Tag K H v := by
  cases h with
  | non => exact .non
  | bl b => exact .bl b
  | int i => exact .int i
  | str x => exact .str x
  | tup h k => exact .tup h
/-! ### rules -/
inductive R where
  | tab (rows : List (List Int))
  | trm (ts : List (Int × Nat × Nat))
abbrev tri (t : Int × Nat × Nat) : List Int := [t.1, (t.2.1 : Int), (t.2.2 : Int)]
def R.body : R → PyData
  | .tab rows => .tuple (rows.map fun r => .tuple (r.map PyData.int))
  | .trm ts => .tuple (ts.map fun t => .tuple ((tri t).map PyData.int))
def R.kind : R → Str
  | .tab _ => "table"
  | .trm _ => "terms"
def R.top : R → Int
  | .tab rows => (rows.length : Int) + 1
  | .trm _ => 1000000000000000000000000000000
def R.pts (r : R) (a b : Int) : Int := match r with
  | .tab rows => (rows.getD (a - 1).toNat []).getD (b - 1).toNat 0
  | .trm ts => (ts.map fun t => t.1 * a ^ t.2.1 * b ^ t.2.2).sum
/-- the rules that are -/
def R.ok : R → Prop
  | .tab rows => 1 ≤ rows.length ∧ rows.length < 40 ∧ ∀ i r, rows[i]? = some r → r.length = rows.length - i ∧ ∀ n ∈ r, -1000000 ≤ n ∧ n ≤ 1000000
  | .trm ts => ts.length ≤ 6 ∧ ∀ t ∈ ts, -1000000 ≤ t.1 ∧ t.1 ≤ 1000000 ∧ t.2.1 ≤ 4 ∧ t.2.2 ≤ 4
def rfl2 (s : Str) (b : Addr) : List (Str × V) := putF "body" (.ref b) (putF "form" (.str s) [])
theorem fb : ¬ (("form" : Str) = "body") := by decide +kernel
theorem rfl2_form (s : Str) (b : Addr) : (rfl2 s b).lookup ("form" : Str) = some (.str s) := by
  unfold rfl2
  rw [lookup_putF, if_neg fb, lookup_putF, if_pos rfl]
theorem rfl2_body (s : Str) (b : Addr) : (rfl2 s b).lookup ("body" : Str) = some (.ref b) := by
  unfold rfl2
  rw [lookup_putF, if_pos rfl]
/-- a rule's object -/
def RuleAt (Γ : Gm) (H : Hp) (v : V) (r : R) : Prop := ∃ p dx b, v = .ref p ∧ H p = some (.ins Γ.cRule dx (rfl2 r.kind b)) ∧ Tp H (.ref b) r.body ∧ r.ok
theorem RuleAt.mono {Γ : Gm} {H H' : Hp} {v : V} {r : R} (e : Same H H') (h : RuleAt Γ H v r) : RuleAt Γ H' v r := by
  obtain ⟨p, dx, b, h1, h2, h3, h4⟩ := h
  exact ⟨p, dx, b, h1, e _ _ h2, h3.mono (Same.tups e), h4⟩
/-- what is asked of the class Rule -/
structure RuleF (Γ : Gm) : Prop where
  cl : Cls Γ.K Γ.cRule
  nF : NoAttr Γ.K Γ.cRule "form"
  nB : NoAttr Γ.K Γ.cRule "body"
theorem w_form {Γ : Gm} (F : RuleF Γ) {H : Hp} {v : V} {r : R} {Q : VK} (h : RuleAt Γ H v r) (q : Q (.str r.kind) H) : rFld Γ.K "form" v H Q := by
  obtain ⟨p, dx, b, rfl, h2, h3, h4⟩ := h
  exact ⟨p, _, dx, _, _, rfl, h2, F.cl, F.nF, rfl2_form _ _, q⟩
theorem w_body {Γ : Gm} (F : RuleF Γ) {H : Hp} {v : V} {r : R} {Q : VK} (h : RuleAt Γ H v r) (q : ∀ b xs, H b = some (.tup xs) → Tp H (.ref b) r.body → Q (.ref b) H) : rFld Γ.K "body" v H Q := by
  obtain ⟨p, dx, b, rfl, h2, h3, h4⟩ := h
  refine ⟨p, _, dx, _, _, rfl, h2, F.cl, F.nB, rfl2_body _ _, ?_⟩
  cases r <;> (cases h3 with | tup h k => exact q b _ h (.tup h k))
theorem kind_tab (r : R) : decide (r.kind = ("table" : Str)) = match r with | .tab _ => true | .trm _ => false := by
  cases r with
  | tab _ => exact decide_eq_true rfl
  | trm _ => exact decide_eq_false (show ¬ ("terms" : Str) = "table" from by decide +kernel)
/-! ### most_of, raised, points_by, check_heap -/
def sp_most_of (Γ : Gm) : Sp := fun vs H Q _ => ∃ v r, vs = [v] ∧ RuleAt Γ H v r ∧ Q (.int r.top) H
/-- most_of: rule -/
def t_most_of (Γ : Gm) : TS := (tRet (tIf (tTest (tOp (rEqU Γ.K) (tFld Γ.K (tVar 0) "form") (tC (.str "table")))) (tOp (rAddU Γ.K) (tCB (rLen Γ.K) (tCons (tFld Γ.K (tVar 0) "body") tNil)) (tC (.int 1))) (tC (.int 1000000000000000000000000000000))))
theorem rd_most_of (Γ : Gm) (F : RuleF Γ) (vs : List V) (H : Hp) (Q : VK) (E : XK) (h : sp_most_of Γ vs H Q E) : t_most_of Γ ⟨fun _ H' => Q .non H', Q, fun _ _ => False, fun _ _ => False⟩ (startN 1 vs) H := by
  obtain ⟨v, r, rfl, hr, q⟩ := h
  unfold t_most_of
  walk_at "ss"
  refine w_form F hr ?_
  walk_at "ss"
  rw [kind_tab]
  cases r with
  | tab rows =>
    refine w_iteT ?_
    walk_at "ss"
    refine w_body F hr fun b xs hb ht => ?_
    walk_at "ss"
    refine w_lenT (SqT.of hb) ?_
    walk_at "ss"
    obtain ⟨a, ys, e1, e2, e3⟩ := ht.inv
    cases e1
    rw [hb] at e2
    cases e2
    rw [e3.length, List.length_map]
    exact q
  | trm ts =>
    refine w_iteF ?_
    walk_at "ss"
    exact q
def sp_raised (Γ : Gm) : Sp := fun vs H Q _ => ∃ (b : Int) (k : Nat), vs = [.int b, .int k] ∧ k ≤ 4 ∧ b.natAbs < 2 ^ 110 ∧ Q (.int (b ^ k)) H
def rg (j : Int) : Prop := -(2 ^ 62) ≤ j ∧ j < 2 ^ 62
/-- raised: base, exponent, found, lap -/
def t_raised (Γ : Gm) : TS := (tSeq (tAsg (tC (.int 1)) (gName 2))
  (tSeq (tFor (iRng1 (tCons (tVar 1) tNil)) (gName 3) (tAsg (tOp (rMulU Γ.K) (tVar 2) (tVar 0)) (gName 2)))
  (tRet (tVar 2))))
theorem rd_raised (Γ : Gm) (vs : List V) (H : Hp) (Q : VK) (E : XK) (h : sp_raised Γ vs H Q E) : t_raised Γ ⟨fun _ H' => Q .non H', Q, fun _ _ => False, fun _ _ => False⟩ (startN 4 vs) H := by
  obtain ⟨b, k, rfl, hk, hb, q⟩ := h
  unfold t_raised
  walk_at "ss"
  refine k_rng1 (by omega) ?_
  refine k_range (fun i σ H' => ∃ x, σ = [some (.int b), some (.int k), some (.int (b ^ i)), x] ∧ H' = H) ⟨none, by rw [Int.pow_zero]; rfl, rfl⟩ ?_ ?_
  · rintro i σ H' hi ⟨x, rfl, rfl⟩
    have hi' : i < k := by simpa using hi
    walk_at "ss"
    refine w_mulI (cmul_of (pow_nat (k := i) (Nat.le_of_lt hb)) (Nat.le_of_lt hb) (by have : 110 * i ≤ 110 * 4 := Nat.mul_le_mul_left _ (by omega); omega)) ?_
    walk_at "ss"
    exact ⟨_, by rw [Int.pow_succ]; rfl, rfl⟩
  · rintro σ H' ⟨x, rfl, rfl⟩
    walk_at "ss"
    simpa using q
def sp_points_by (Γ : Gm) : Sp := fun vs H Q _ => ∃ v r a b, vs = [v, .int a, .int b] ∧ RuleAt Γ H v r ∧ 1 ≤ a ∧ 1 ≤ b ∧ a + b ≤ r.top ∧ ∀ H', Same H H' → Q (.int (r.pts a b)) H'
theorem atI_of {α : Type} {l : List α} {i : Int} {x : α} (h0 : 0 ≤ i) (h : l[i.toNat]? = some x) : atI l i = some x := by
  unfold atI ixN
  have : i.toNat < l.length := (List.getElem?_eq_some_iff.mp h).1
  rw [if_pos h0, if_pos (by omega)]
  exact h
theorem tab_at {rows : List (List Int)} {a b : Int} (ok : (R.tab rows).ok) (ha : 1 ≤ a) (hb : 1 ≤ b) (hs : a + b ≤ (R.tab rows).top) : ∃ r, rows[(a - 1).toNat]? = some r ∧ r[(b - 1).toNat]? = some ((R.tab rows).pts a b) := by
  obtain ⟨h1, h2, h3⟩ := ok
  have hs' : a + b ≤ (rows.length : Int) + 1 := hs
  have hi : (a - 1).toNat < rows.length := by omega
  have e := List.getElem?_eq_getElem hi
  refine ⟨_, e, ?_⟩
  obtain ⟨hl, _⟩ := h3 _ _ e
  have hj : (b - 1).toNat < (rows[(a - 1).toNat]).length := by omega
  show _ = some ((rows.getD (a - 1).toNat []).getD (b - 1).toNat 0)
  rw [List.getD_eq_getElem?_getD, List.getD_eq_getElem?_getD, e]
  show _ = some ((rows[(a - 1).toNat][(b - 1).toNat]?).getD 0)
  rw [List.getElem?_eq_getElem hj]
  rfl
def tval (a b : Int) (t : Int × Nat × Nat) : Int := t.1 * a ^ t.2.1 * b ^ t.2.2
theorem take_succ {α : Type} {l : List α} {i : Nat} {x : α} (h : l[i]? = some x) : l.take (i + 1) = l.take i ++ [x] := by
  rw [List.take_succ, h]
  rfl
/-- points_by: rule, first, second, number, one, other -/
def t_points_by (Γ : Gm) : TS := (tSeq (tIfS (tTest (tOp (rEqU Γ.K) (tFld Γ.K (tVar 0) "form") (tC (.str "table")))) (tRet (tOp (rIx Γ.K) (tOp (rIx Γ.K) (tFld Γ.K (tVar 0) "body") (tOp rSubI (tVar 1) (tC (.int 1)))) (tOp rSubI (tVar 2) (tC (.int 1))))) tNext)
  (tRet (tCB (rSum Γ.K) (tCons (tLc (iSeq Γ.K (tFld Γ.K (tVar 0) "body")) (gTup Γ.K 3 (gCons (gName 3) (gCons (gName 4) (gCons (gName 5) gNil)))) tYes (tOp (rMulU Γ.K) (tOp (rMulU Γ.K) (tVar 3) (tCal (sp_raised Γ) E0 (tCons (tVar 1) (tCons (tVar 4) tNil)))) (tCal (sp_raised Γ) E0 (tCons (tVar 2) (tCons (tVar 5) tNil)))) [3, 4, 5]) tNil))))
theorem rd_points_by (Γ : Gm) (F : RuleF Γ) (vs : List V) (H : Hp) (Q : VK) (E : XK) (h : sp_points_by Γ vs H Q E) : t_points_by Γ ⟨fun _ H' => Q .non H', Q, fun _ _ => False, fun _ _ => False⟩ (startN 6 vs) H := by
  obtain ⟨v, r, a, b, rfl, hr, ha, hb, hs, q⟩ := h
  unfold t_points_by
  walk_at "ss"
  refine w_form F hr ?_
  walk_at "ss"
  rw [kind_tab]
  have hok : r.ok := by obtain ⟨_, _, _, _, _, _, h⟩ := hr; exact h
  cases r with
  | tab rows =>
    refine w_iteT ?_
    walk_at "ss"
    refine w_body F hr fun bb xs hx ht => ?_
    obtain ⟨row, e1, e2⟩ := tab_at hok ha hb hs
    obtain ⟨a', ys, z1, z2, z3⟩ := ht.inv
    cases z1
    rw [hx] at z2
    cases z2
    obtain ⟨w, hw, tw⟩ := z3.get (i := (a - 1).toNat) (d := .tuple (row.map PyData.int)) (by rw [List.getElem?_map, e1]; rfl)
    obtain ⟨c, zs, rfl, hc, tc⟩ := tw.inv
    walk_at "ss"
    refine w_ixT (SqT.of hx) (atI_of (by omega) hw) ?_
    walk_at "ss"
    have ez := tc.ints
    subst ez
    refine w_ixT (SqT.of hc) (atI_of (by omega) (by rw [List.getElem?_map, e2]; rfl)) ?_
    exact q H (Same.refl H)
  | trm ts =>
    refine w_iteF ?_
    walk_at "ss"
    refine w_body F hr fun bb xs hx ht => ?_
    obtain ⟨a', ys, z1, z2, z3⟩ := ht.inv
    cases z1
    rw [hx] at z2
    cases z2
    refine k_seqT (SqT.of hx) ?_
    have hlen : xs.length = ts.length := by rw [z3.length, List.length_map]
    refine k_lcTup (fun i acc H' => acc = ((ts.take i).map (fun t => V.int (tval a b t)))) (SqT.of hx) (fun _ _ => rfl) ?_ ?_
    · rintro i x D acc H' hi hD e ha' rfl
      obtain ⟨d, hd, tx⟩ := z3.get' hi
      rw [List.getElem?_map] at hd
      obtain ⟨t, ht', rfl⟩ := Option.map_eq_some_iff.mp hd
      obtain ⟨c, zs, rfl, hc, tc⟩ := tx.inv
      have ez := tc.ints
      subst ez
      obtain ⟨n, i1, j1⟩ := t
      refine w_gTup (xs := [V.int n, V.int i1, V.int j1]) (SqT.of (e _ _ hc)) rfl ?_
      walk_at "ss"
      refine ⟨rfl, ?_⟩
      obtain ⟨hl6, hb6⟩ := hok
      have hm := hb6 _ (List.mem_of_getElem? ht')
      dsimp only at hm
      have top : a + b ≤ 1000000000000000000000000000000 := hs
      have ba : a.natAbs ≤ 2 ^ 100 := by omega
      have bb' : b.natAbs ≤ 2 ^ 100 := by omega
      walk_at "ss"
      refine ⟨a, i1, rfl, hm.2.2.1, by omega, ?_⟩
      have k1 : 100 * i1 ≤ 100 * 4 := Nat.mul_le_mul_left _ hm.2.2.1
      have k2 : 100 * j1 ≤ 100 * 4 := Nat.mul_le_mul_left _ hm.2.2.2
      have n1 : n.natAbs ≤ 2 ^ 20 := by omega
      refine w_mulI (cmul_of n1 (pow_nat ba)) ?_
      walk_at "ss"
      refine ⟨b, j1, rfl, hm.2.2.2, by omega, ?_⟩
      refine w_mulI (cmul_of (mul_nat n1 (pow_nat ba)) (pow_nat bb')) ?_
      refine lcTurn.mk hD e ha' (by rw [List.length_map, List.length_take]; omega) ?_
      rw [take_succ ht', List.map_append]
      rfl
    · rintro D acc H' hD e hacc rfl
      walk_at "ss"
      rw [hlen, List.take_length] at hacc
      refine w_sum (ns := ts.map (tval a b)) (SqL.of (by rw [List.map_map]; exact hacc)) ?_
      exact q H' e

/-! ### any values, as data -/
mutual
inductive Dv (H : Hp) : V → PyData → Prop
  | non : Dv H .non .none
  | bl (b : Bool) : Dv H (.bl b) (.bool b)
  | int (i : Int) : Dv H (.int i) (.int i)
  | str (x : Str) : Dv H (.str x) (.str x)
  | lst {a : Addr} {xs : List V} {ds : List PyData} : H a = some (.lst xs) → DvAll H xs ds → Dv H (.ref a) (.list ds)
  | tup {a : Addr} {xs : List V} {ds : List PyData} : H a = some (.tup xs) → DvAll H xs ds → Dv H (.ref a) (.tuple ds)
  | dict {a : Addr} {kvs : List (Key × V)} : H a = some (.dK kvs) → Dv H (.ref a) (.dict [])
inductive DvAll (H : Hp) : List V → List PyData → Prop
  | nil : DvAll H [] []
  | cons {v : V} {vs : List V} {d : PyData} {ds : List PyData} : Dv H v d → DvAll H vs ds → DvAll H (v :: vs) (d :: ds)
end
mutual
theorem Dv.mono {H H' : Hp} (e : Same H H') : ∀ {v : V} {d : PyData}, Dv H v d → Dv H' v d
  | _, _, .non => .non
  | _, _, .bl b => .bl b
  | _, _, .int i => .int i
  | _, _, .str x => .str x
  | _, _, .lst h k => .lst (e _ _ h) (DvAll.mono e k)
  | _, _, .tup h k => .tup (e _ _ h) (DvAll.mono e k)
  | _, _, .dict h => .dict (e _ _ h)
theorem DvAll.mono {H H' : Hp} (e : Same H H') : ∀ {vs : List V} {ds : List PyData}, DvAll H vs ds → DvAll H' vs ds
  | _, _, .nil => .nil
  | _, _, .cons h k => .cons (Dv.mono e h) (DvAll.mono e k)
end
mutual
theorem Tp.dv {H : Hp} : ∀ {v : V} {d : PyData}, Tp H v d → Dv H v d
  | _, _, .non => .non
  | _, _, .bl b => .bl b
  | _, _, .int i => .int i
  | _, _, .str x => .str x
  | _, _, .tup h k => .tup h (TpAll.dv k)
theorem TpAll.dv {H : Hp} : ∀ {vs : List V} {ds : List PyData}, TpAll H vs ds → DvAll H vs ds
  | _, _, .nil => .nil
  | _, _, .cons h k => .cons (Tp.dv h) (TpAll.dv k)
end
theorem DvAll.length {H : Hp} : ∀ {vs : List V} {ds : List PyData}, DvAll H vs ds → vs.length = ds.length
  | _, _, .nil => rfl
  | _, _, .cons _ k => by rw [List.length_cons, List.length_cons, DvAll.length k]
theorem DvAll.get {H : Hp} : ∀ {vs : List V} {ds : List PyData} {i : Nat} {d : PyData}, DvAll H vs ds → ds[i]? = some d → ∃ v, vs[i]? = some v ∧ Dv H v d
  | _, _, _, _, .nil, e => by simp at e
  | _, _, 0, _, .cons h _, e => by simp at e; subst e; exact ⟨_, rfl, h⟩
  | _, _, i + 1, _, .cons _ k, e => by
    obtain ⟨v, h1, h2⟩ := DvAll.get (i := i) k (by simpa using e)
    exact ⟨v, by simpa using h1, h2⟩
theorem DvAll.get' {H : Hp} : ∀ {vs : List V} {ds : List PyData} {i : Nat} {v : V}, DvAll H vs ds → vs[i]? = some v → ∃ d, ds[i]? = some d ∧ Dv H v d
  | _, _, _, _, .nil, e => by simp at e
  | _, _, 0, _, .cons h _, e => by simp at e; subst e; exact ⟨_, rfl, h⟩
  | _, _, i + 1, _, .cons _ k, e => by
    obtain ⟨v, h1, h2⟩ := DvAll.get' (i := i) k (by simpa using e)
    exact ⟨v, by simpa using h1, h2⟩
theorem Dv.tag {K : PySem.W.Frag} {H : Hp} {v : V} {d : PyData} (h : Dv H v d) : Tag K H v := by
  cases h with
  | non => exact .non
  | bl b => exact .bl b
  | int i => exact .int i
  | str x => exact .str x
  | lst h k => exact .lst h
  | tup h k => exact .tup h
  | dict h => exact .dK h
def tyD : PyData → String
  | .none => "NoneType"
  | .bool _ => "bool"
  | .int _ => "int"
  | .str _ => "str"
  | .list _ => "list"
  | .tuple _ => "tuple"
  | .dict _ => "dict"
theorem Dv.ty {H : Hp} {v : V} {d : PyData} (h : Dv H v d) (n : String) : isTy H n v = tyTab (tyD d) n := by
  cases h <;> simp only [isTy, tyN, tyD, *]
def inD (lo hi : Int) : PyData → Bool
  | .int n => decide (lo ≤ n) && decide (n ≤ hi)
  | _ => false
theorem Dv.inR {H : Hp} {v : V} {d : PyData} (h : Dv H v d) (lo hi : Int) : inR lo hi v = inD lo hi d := by cases h <;> rfl
theorem Dv.tupInv {H : Hp} {v : V} {ds : List PyData} (h : Dv H v (.tuple ds)) : ∃ a xs, v = .ref a ∧ H a = some (.tup xs) ∧ DvAll H xs ds := by
  cases h with
  | tup h k => exact ⟨_, _, rfl, h, k⟩
/-! ### what are rows, terms, rules -/
def rowOk (n i : Nat) : PyData → Bool
  | .tuple es => decide (es.length = n - i) && es.all (inD (-1000000) 1000000)
  | _ => false
def areRows : PyData → Bool
  | .tuple ds => decide (1 ≤ ds.length) && decide (ds.length < 40) && (List.range ds.length).all fun i => rowOk ds.length i (ds.getD i .none)
  | _ => false
def isTerm : PyData → Bool
  | .tuple [a, b, c] => inD (-1000000) 1000000 a && inD 0 4 b && inD 0 4 c
  | _ => false
def areTerms : PyData → Bool
  | .tuple ds => decide (ds.length ≤ 6) && ds.all isTerm
  | _ => false
def intD : PyData → Int
  | .int n => n
  | _ => 0
def intsD : PyData → List Int
  | .tuple es => es.map intD
  | _ => []
def rowsD : PyData → List (List Int)
  | .tuple ds => ds.map intsD
  | _ => []
def termD (d : PyData) : Int × Nat × Nat := ((intsD d).getD 0 0, ((intsD d).getD 1 0).toNat, ((intsD d).getD 2 0).toNat)
def termsD : PyData → List (Int × Nat × Nat)
  | .tuple ds => ds.map termD
  | _ => []
theorem ints_back {lo hi : Int} : ∀ {es : List PyData}, es.all (inD lo hi) = true → es = (es.map intD).map PyData.int ∧ ∀ n ∈ es.map intD, lo ≤ n ∧ n ≤ hi
  | [], _ => ⟨rfl, fun _ h => nomatch h⟩
  | e :: es, h => by
    rw [List.all_cons, Bool.and_eq_true] at h
    obtain ⟨h1, h2⟩ := h
    obtain ⟨i1, i2⟩ := ints_back h2
    cases e with
    | int n =>
      simp only [inD, Bool.and_eq_true, decide_eq_true_eq] at h1
      refine ⟨by rw [List.map_cons, List.map_cons, ← i1]; rfl, fun m hm => ?_⟩
      rw [List.map_cons, List.mem_cons] at hm
      rcases hm with rfl | hm
      · exact h1
      · exact i2 m hm
    | _ => simp [inD] at h1
theorem areRows_ok {d : PyData} (h : areRows d = true) : (R.tab (rowsD d)).body = d ∧ (R.tab (rowsD d)).ok := by
  cases d with
  | tuple ds =>
    simp only [areRows, Bool.and_eq_true, decide_eq_true_eq, List.all_eq_true, List.mem_range] at h
    obtain ⟨⟨h1, h2⟩, h3⟩ := h
    have key : ∀ (i : Nat) (d : PyData), ds[i]? = some d → d = .tuple ((intsD d).map PyData.int) ∧ (intsD d).length = ds.length - i ∧ ∀ n ∈ intsD d, -1000000 ≤ n ∧ n ≤ 1000000 := fun i d hd => by
      have hi : i < ds.length := (List.getElem?_eq_some_iff.mp hd).1
      have z := h3 i hi
      rw [List.getD_eq_getElem?_getD, hd] at z
      simp only [Option.getD_some] at z
      cases d with
      | tuple es =>
        simp only [rowOk, Bool.and_eq_true, decide_eq_true_eq] at z
        obtain ⟨e1, e2⟩ := ints_back z.2
        exact ⟨congrArg PyData.tuple e1, by simp only [intsD, List.length_map]; exact z.1, e2⟩
      | _ => simp [rowOk] at z
    refine ⟨congrArg PyData.tuple ?_, by simp only [rowsD, List.length_map]; exact h1, by simp only [rowsD, List.length_map]; exact h2, fun i r hr => ?_⟩
    · show (ds.map intsD).map (fun r => PyData.tuple (r.map PyData.int)) = ds
      rw [List.map_map]
      refine List.ext_getElem? fun i => ?_
      rw [List.getElem?_map]
      cases e : ds[i]? with
      | none => rfl
      | some d => exact congrArg some (key i d e).1.symm
    · simp only [rowsD, List.getElem?_map, List.length_map] at hr ⊢
      cases e : ds[i]? with
      | none => rw [e] at hr; cases hr
      | some d =>
        rw [e] at hr
        cases hr
        exact (key i d e).2
  | _ => simp [areRows] at h
theorem areTerms_ok {d : PyData} (h : areTerms d = true) : (R.trm (termsD d)).body = d ∧ (R.trm (termsD d)).ok := by
  cases d with
  | tuple ds =>
    simp only [areTerms, Bool.and_eq_true, decide_eq_true_eq, List.all_eq_true] at h
    obtain ⟨h1, h2⟩ := h
    have key : ∀ d ∈ ds, PyData.tuple ((tri (termD d)).map PyData.int) = d ∧ -1000000 ≤ (termD d).1 ∧ (termD d).1 ≤ 1000000 ∧ (termD d).2.1 ≤ 4 ∧ (termD d).2.2 ≤ 4 := fun d hd => by
      have z := h2 d hd
      unfold isTerm at z
      split at z
      · rename_i a b c
        simp only [Bool.and_eq_true] at z
        obtain ⟨⟨za, zb⟩, zc⟩ := z
        cases a with
        | int a =>
          cases b with
          | int b =>
            cases c with
            | int c =>
              simp only [inD, Bool.and_eq_true, decide_eq_true_eq] at za zb zc
              simp only [termD, intsD, intD, tri, List.map_cons, List.map_nil, List.getD_cons_zero, List.getD_cons_succ]
              refine ⟨?_, za.1, za.2, by omega, by omega⟩
              rw [Int.toNat_of_nonneg zb.1, Int.toNat_of_nonneg zc.1]
            | _ => simp [inD] at zc
          | _ => simp [inD] at zb
        | _ => simp [inD] at za
      · cases z
    refine ⟨congrArg PyData.tuple ?_, by simp only [termsD, List.length_map]; exact h1, fun t ht => ?_⟩
    · show (ds.map termD).map (fun t => PyData.tuple ((tri t).map PyData.int)) = ds
      rw [List.map_map]
      conv => rhs; rw [← List.map_id ds]
      exact List.map_congr_left fun d hd => (key d hd).1
    · simp only [termsD, List.mem_map] at ht
      obtain ⟨d, hd, rfl⟩ := ht
      exact (key d hd).2
  | _ => simp [areTerms] at h
def ruleOf (k d : PyData) : Option R := match k with
  | .str s => if s = "table" then (if areRows d then some (.tab (rowsD d)) else none) else if s = "terms" then (if areTerms d then some (.trm (termsD d)) else none) else none
  | _ => none
/-! ### are_rows, is_term, are_terms -/
def RetB (b : Bool) (H : Hp) (Q : VK) : Prop := ∀ H', Same H H' → Q (.bl b) H'
def sp_are_rows (Γ : Gm) : Sp := fun vs H Q _ => ∃ v d, vs = [v] ∧ Dv H v d ∧ RetB (areRows d) H Q
def sp_is_term (Γ : Gm) : Sp := fun vs H Q _ => ∃ v d, vs = [v] ∧ Dv H v d ∧ RetB (isTerm d) H Q
def sp_are_terms (Γ : Gm) : Sp := fun vs H Q _ => ∃ v d, vs = [v] ∧ Dv H v d ∧ RetB (areTerms d) H Q
theorem tupTy {d : PyData} (h : tyTab (tyD d) "tuple" = true) : ∃ ds, d = .tuple ds := by
  cases d with
  | tuple ds => exact ⟨ds, rfl⟩
  | _ => simp [tyD, tyTab] at h
theorem all_take {α : Type} {f : α → Bool} {l : List α} {i : Nat} {x : α} (h : l[i]? = some x) : (l.take (i + 1)).map f = (l.take i).map f ++ [f x] := by rw [take_succ h, List.map_append]; rfl
/-- are_rows: value, index, row, number -/
def t_are_rows (Γ : Gm) : TS := (tSeq (tIfS (tOr (tNot (tB (tCB (rIsi Γ.K) (tCons (tVar 0) (tCons (tC (.ty "tuple")) tNil))))) (tNot (tTest (tChain rLe rLt (tC (.int 1)) (tCB (rLen Γ.K) (tCons (tVar 0) tNil)) (tC (.int 40)))))) (tRet (tC (.bl false))) tNext)
  (tSeq (tFor (iEnumS Γ.K (tCons (tVar 0) tNil)) (gTup Γ.K 2 (gCons (gName 1) (gCons (gName 2) gNil))) (tSeq (tIfS (tOr (tNot (tB (tCB (rIsi Γ.K) (tCons (tVar 2) (tCons (tC (.ty "tuple")) tNil))))) (tTest (tOp (rNeU Γ.K) (tCB (rLen Γ.K) (tCons (tVar 2) tNil)) (tOp rSubI (tCB (rLen Γ.K) (tCons (tVar 0) tNil)) (tVar 1))))) (tRet (tC (.bl false))) tNext)
  (tIfS (tNot (tB (tCB (rAll Γ.K) (tCons (tLc (iSeq Γ.K (tVar 2)) (gName 3) tYes (tCal (sp_is_from Γ) E0 (tCons (tVar 3) (tCons (tOp rSubI (tC (.int 0)) (tC (.int 1000000))) (tCons (tC (.int 1000000)) tNil)))) [3]) tNil)))) (tRet (tC (.bl false))) tNext)))
  (tRet (tC (.bl true)))))
theorem rd_are_rows (Γ : Gm) (vs : List V) (H : Hp) (Q : VK) (E : XK) (h : sp_are_rows Γ vs H Q E) : t_are_rows Γ ⟨fun _ H' => Q .non H', Q, fun _ _ => False, fun _ _ => False⟩ (startN 4 vs) H := by
  obtain ⟨v, d, rfl, hd, q⟩ := h
  unfold t_are_rows
  walk_at "ss"
  refine w_isi hd.tag (by decide) ?_
  rw [hd.ty]
  walk_at "ss"
  refine w_ite (fun e => ?_) (fun e => ?_)
  · walk_at "ss"
    have : areRows d = false := by
      cases d with
      | tuple ds => exact absurd (show (!tyTab "tuple" "tuple") = true from e) (by decide)
      | _ => rfl
    rw [this] at q
    exact q H (Same.refl H)
  obtain ⟨ds, rfl⟩ := tupTy (by simpa using e)
  obtain ⟨a, xs, rfl, hx, tx⟩ := hd.tupInv
  have hl := tx.length
  walk_at "ss"
  refine w_lenT (SqT.of hx) ?_
  walk_at "ss"
  rw [hl]
  refine w_ite (fun e1 => ?_) (fun e1 => ?_)
  rotate_left
  · walk_at "ss"
    have : areRows (.tuple ds) = false := by
      simp only [decide_eq_false_iff_not] at e1
      simp only [areRows]
      rw [decide_eq_false (by omega)]
      rfl
    rw [this] at q
    exact q H (Same.refl H)
  walk_at "ss"
  simp only [decide_eq_true_eq] at e1
  refine w_ite (fun e2 => ?_) (fun e2 => ?_)
  · walk_at "ss"
    have : areRows (.tuple ds) = false := by
      simp only [Bool.not_eq_true', decide_eq_false_iff_not] at e2
      simp only [areRows]
      rw [decide_eq_true (by omega), decide_eq_false (by omega)]
      rfl
    rw [this] at q
    exact q H (Same.refl H)
  walk_at "ss"
  simp only [Bool.not_eq_false', decide_eq_true_eq] at e2
  refine k_enT (SqT.of hx) ?_
  refine k_enumT (fun i σ H' => ∃ x y z, σ = [some (.ref a), x, y, z] ∧ Same H H' ∧ ∀ j, j < i → rowOk ds.length j (ds.getD j .none) = true) ⟨none, none, none, rfl, Same.refl H, fun j hj => absurd hj (Nat.not_lt_zero _)⟩ (fun i σ H' _ ⟨_, _, _, _, e, _⟩ => SqT.of (e _ _ hx)) ?_ ?_
  · rintro i x σ H' T hi ⟨_, _, _, rfl, e, all⟩ hT
    obtain ⟨dx, hdx, tdx⟩ := tx.get' hi
    have hil : i < ds.length := (List.getElem?_eq_some_iff.mp hdx).1
    have eT := Same.new (o := .tup [.int (i : Nat), x]) hT
    refine w_gTup (xs := [.int (i : Nat), x]) (SqT.of upd_same) rfl ?_
    have tdx' := tdx.mono (e.trans eT)
    generalize upd H' T (.tup [.int (i : Nat), x]) = H1 at eT tdx' ⊢
    have e1' := e.trans eT
    have bad : rowOk ds.length i dx = false → Q (.bl false) H1 := fun z => by
      have : areRows (.tuple ds) = false := by
        simp only [areRows]
        rw [Bool.and_eq_false_iff]
        right
        rw [List.all_eq_false]
        refine ⟨i, List.mem_range.mpr hil, ?_⟩
        rw [List.getD_eq_getElem?_getD, hdx]
        simp [z]
      rw [this] at q
      exact q _ e1'
    walk_at "ss"
    refine w_isi tdx'.tag (by decide) ?_
    rw [tdx'.ty]
    walk_at "ss"
    refine w_ite (fun e => ?_) (fun e => ?_)
    · walk_at "ss"
      refine bad ?_
      cases dx with
      | tuple ds => exact absurd (show (!tyTab "tuple" "tuple") = true from e) (by decide)
      | _ => rfl
    obtain ⟨es, rfl⟩ := tupTy (by simpa using e)
    obtain ⟨c, ys, rfl, hy, ty⟩ := tdx'.tupInv
    walk_at "ss"
    refine w_lenT (SqT.of hy) ?_
    walk_at "ss"
    refine w_lenT (SqT.of (e1' _ _ hx)) ?_
    walk_at "ss"
    rw [hl, ty.length]
    refine w_ite (fun e3 => ?_) (fun e3 => ?_)
    · walk_at "ss"
      refine bad ?_
      simp only [Bool.not_eq_true', decide_eq_false_iff_not] at e3
      simp only [rowOk]
      rw [decide_eq_false (by omega)]
      rfl
    simp only [Bool.not_eq_false', decide_eq_true_eq] at e3
    walk_at "ss"
    refine k_seqT (SqT.of hy) ?_
    refine k_lcTup (fun i acc H' => acc = ((es.take i).map (inD (-1000000) 1000000)).map V.bl) (SqT.of hy) (fun _ _ => rfl) ?_ ?_
    · rintro j z D acc H2 hj hD e4 hacc rfl
      obtain ⟨dz, hdz, tdz⟩ := ty.get' hj
      walk_at "ss"
      refine ⟨rfl, ?_⟩
      walk_at "ss"
      refine ⟨z, _, _, rfl, (tdz.mono e4).tag, ?_⟩
      rw [tdz.inR]
      refine lcTurn.mk hD e4 hacc (by rw [List.length_map, List.length_map, List.length_take]; omega) ?_
      rw [all_take hdz, List.map_append]
      rfl
    · rintro D acc H2 hD e4 hacc rfl
      rw [ty.length, List.take_length] at hacc
      walk_at "ss"
      refine w_all (SqL.of hacc) ?_
      walk_at "ss"
      have ea : (es.map (inD (-1000000) 1000000)).all id = es.all (inD (-1000000) 1000000) := by rw [List.all_map]; rfl
      rw [ea]
      refine w_ite (fun e5 => ?_) (fun e5 => ?_)
      · walk_at "ss"
        have : areRows (.tuple ds) = false := by
          simp only [areRows]
          rw [Bool.and_eq_false_iff]
          right
          rw [List.all_eq_false]
          refine ⟨i, List.mem_range.mpr hil, ?_⟩
          rw [List.getD_eq_getElem?_getD, hdx]
          simp only [Option.getD_some, rowOk]
          simp only [Bool.not_eq_true'] at e5
          rw [e5, Bool.and_false]
          decide
        rw [this] at q
        exact q _ (e1'.trans e4)
      · walk_at "ss"
        refine ⟨_, _, _, rfl, e1'.trans e4, fun k hk => ?_⟩
        by_cases hki : k < i
        · exact all k hki
        · have : k = i := by omega
          subst this
          rw [List.getD_eq_getElem?_getD, hdx]
          simp only [Option.getD_some, rowOk]
          simp only [Bool.not_eq_false'] at e5
          rw [e5, decide_eq_true (by omega)]
          rfl
  · rintro σ H' ⟨_, _, _, rfl, e, all⟩
    walk_at "ss"
    have : areRows (.tuple ds) = true := by
      simp only [areRows]
      rw [decide_eq_true (by omega), decide_eq_true (by omega)]
      simp only [Bool.true_and, List.all_eq_true, List.mem_range]
      intro j hj
      exact all j (by omega)
    rw [this] at q
    exact q _ e
/-- is_term: value -/
def t_is_term (Γ : Gm) : TS := (tSeq (tIfS (tOr (tNot (tB (tCB (rIsi Γ.K) (tCons (tVar 0) (tCons (tC (.ty "tuple")) tNil))))) (tOr (tTest (tOp (rNeU Γ.K) (tCB (rLen Γ.K) (tCons (tVar 0) tNil)) (tC (.int 3)))) (tNot (tB (tCal (sp_is_from Γ) E0 (tCons (tOp (rIx Γ.K) (tVar 0) (tC (.int 0))) (tCons (tOp rSubI (tC (.int 0)) (tC (.int 1000000))) (tCons (tC (.int 1000000)) tNil)))))))) (tRet (tC (.bl false))) tNext)
  (tRet (tAndV (tCal (sp_is_from Γ) E0 (tCons (tOp (rIx Γ.K) (tVar 0) (tC (.int 1))) (tCons (tC (.int 0)) (tCons (tC (.int 4)) tNil)))) (tCal (sp_is_from Γ) E0 (tCons (tOp (rIx Γ.K) (tVar 0) (tC (.int 2))) (tCons (tC (.int 0)) (tCons (tC (.int 4)) tNil)))))))
theorem rd_is_term (Γ : Gm) (vs : List V) (H : Hp) (Q : VK) (E : XK) (h : sp_is_term Γ vs H Q E) : t_is_term Γ ⟨fun _ H' => Q .non H', Q, fun _ _ => False, fun _ _ => False⟩ (startN 1 vs) H := by
  obtain ⟨v, d, rfl, hd, q⟩ := h
  unfold t_is_term
  have bad : isTerm d = false → Q (.bl false) H := fun z => by
    rw [z] at q
    exact q H (Same.refl H)
  walk_at "ss"
  refine w_isi hd.tag (by decide) ?_
  rw [hd.ty]
  walk_at "ss"
  refine w_ite (fun e => ?_) (fun e => ?_)
  · walk_at "ss"
    refine bad ?_
    cases d with
    | tuple ds => exact absurd (show (!tyTab "tuple" "tuple") = true from e) (by decide)
    | _ => rfl
  obtain ⟨ds, rfl⟩ := tupTy (by simpa using e)
  obtain ⟨a, xs, rfl, hx, tx⟩ := hd.tupInv
  have hl := tx.length
  walk_at "ss"
  refine w_lenT (SqT.of hx) ?_
  walk_at "ss"
  rw [hl]
  refine w_ite (fun e1 => ?_) (fun e1 => ?_)
  · walk_at "ss"
    refine bad ?_
    simp only [Bool.not_eq_true', decide_eq_false_iff_not] at e1
    match ds, e1 with
    | [], _ => rfl
    | [_], _ => rfl
    | [_, _], _ => rfl
    | [_, _, _], e1 => exact absurd rfl e1
    | _ :: _ :: _ :: _ :: _, _ => rfl
  simp only [Bool.not_eq_false', decide_eq_true_eq] at e1
  match ds, e1, tx with
  | [d0, d1, d2], _, .cons (v := v0) t0 (.cons (v := v1) t1 (.cons (v := v2) t2 .nil)) =>
    walk_at "ss"
    refine w_ixT (SqT.of hx) (atI_of (by decide) rfl) ?_
    walk_at "ss"
    refine ⟨v0, _, _, rfl, t0.tag, ?_⟩
    rw [t0.inR]
    walk_at "ss"
    refine w_ite (fun e2 => ?_) (fun e2 => ?_)
    · walk_at "ss"
      refine bad ?_
      simp only [Bool.not_eq_true'] at e2
      have e2' : inD (-1000000) 1000000 d0 = false := e2
      simp only [isTerm, e2', Bool.false_and]
    walk_at "ss"
    simp only [Bool.not_eq_false'] at e2
    have e2' : inD (-1000000) 1000000 d0 = true := e2
    have q' : RetB (inD 0 4 d1 && inD 0 4 d2) H Q := by simpa only [isTerm, e2', Bool.true_and] using q
    refine w_ixT (SqT.of hx) (atI_of (by decide) rfl) ?_
    walk_at "ss"
    refine ⟨v1, _, _, rfl, t1.tag, ?_⟩
    rw [t1.inR]
    walk_at "ss"
    refine w_ite (fun e3 => ?_) (fun e3 => ?_)
    · rw [e3] at q'
      walk_at "ss"
      refine w_ixT (SqT.of hx) (atI_of (by decide) rfl) ?_
      walk_at "ss"
      refine ⟨v2, _, _, rfl, t2.tag, ?_⟩
      rw [t2.inR]
      exact q' H (Same.refl H)
    · rw [e3] at q'
      exact q' H (Same.refl H)
/-- are_terms: value, term -/
def t_are_terms (Γ : Gm) : TS := (tRet (tAndV (tCB (rIsi Γ.K) (tCons (tVar 0) (tCons (tC (.ty "tuple")) tNil))) (tAndV (tOp rLe (tCB (rLen Γ.K) (tCons (tVar 0) tNil)) (tC (.int 6))) (tCB (rAll Γ.K) (tCons (tLc (iSeq Γ.K (tVar 0)) (gName 1) tYes (tCal (sp_is_term Γ) E0 (tCons (tVar 1) tNil)) [1]) tNil)))))
theorem rd_are_terms (Γ : Gm) (vs : List V) (H : Hp) (Q : VK) (E : XK) (h : sp_are_terms Γ vs H Q E) : t_are_terms Γ ⟨fun _ H' => Q .non H', Q, fun _ _ => False, fun _ _ => False⟩ (startN 2 vs) H := by
  obtain ⟨v, d, rfl, hd, q⟩ := h
  unfold t_are_terms
  walk_at "ss"
  refine w_isi hd.tag (by decide) ?_
  rw [hd.ty]
  walk_at "ss"
  refine w_ite (fun e => ?_) (fun e => ?_)
  rotate_left
  · have : areTerms d = false := by
      cases d with
      | tuple ds => exact absurd (show tyTab "tuple" "tuple" = false from e) (by decide)
      | _ => rfl
    rw [this] at q
    exact q H (Same.refl H)
  obtain ⟨ds, rfl⟩ := tupTy e
  obtain ⟨a, xs, rfl, hx, tx⟩ := hd.tupInv
  walk_at "ss"
  refine w_lenT (SqT.of hx) ?_
  walk_at "ss"
  rw [tx.length]
  refine w_ite (fun e1 => ?_) (fun e1 => ?_)
  rotate_left
  · have : areTerms (.tuple ds) = false := by
      simp only [decide_eq_false_iff_not] at e1
      simp only [areTerms]
      rw [decide_eq_false (by omega)]
      rfl
    rw [this] at q
    exact q H (Same.refl H)
  simp only [decide_eq_true_eq] at e1
  walk_at "ss"
  refine k_seqT (SqT.of hx) ?_
  refine k_lcTup (fun i acc H' => acc = ((ds.take i).map isTerm).map V.bl) (SqT.of hx) (fun _ _ => rfl) ?_ ?_
  · rintro j z D acc H2 hj hD e4 hacc rfl
    obtain ⟨dz, hdz, tdz⟩ := tx.get' hj
    walk_at "ss"
    refine ⟨rfl, ?_⟩
    walk_at "ss"
    refine ⟨z, dz, rfl, tdz.mono e4, fun H3 e5 => ?_⟩
    refine lcTurn.mk hD (e4.trans e5) (e5 _ _ hacc) (by rw [List.length_map, List.length_map, List.length_take]; omega) ?_
    rw [all_take hdz, List.map_append]
    rfl
  · rintro D acc H2 hD e4 hacc rfl
    rw [tx.length, List.take_length] at hacc
    walk_at "ss"
    refine w_all (SqL.of hacc) ?_
    have ea : (ds.map isTerm).all id = areTerms (.tuple ds) := by
      simp only [areTerms]
      rw [List.all_map, decide_eq_true (by omega)]
      rfl
    rw [ea]
    exact q _ e4
/-! ### Rule -/
/-- behind Rule.__init__ -/
def sp_Rule_Uinit (Γ : Gm) : Sp := fun vs H Q E => ∃ p dx k dk v d, vs = [.ref p, k, v] ∧ H p = some (.ins Γ.cRule dx []) ∧ Dv H k dk ∧ Dv H v d ∧
  (ruleOf dk d = none → ∀ H', Same H H' → E (.ref Γ.cBadRule) none H') ∧
  (∀ r s b, ruleOf dk d = some r → dk = .str s → v = .ref b → r.kind = s → r.body = d → r.ok → ∀ H', (∀ b o, b ≠ p → H b = some o → H' b = some o) → H' p = some (.ins Γ.cRule dx (rfl2 s b)) → Q .non H')

theorem dv_str {H : Hp} {k : V} {s : Str} (h : Dv H k (.str s)) : k = .str s := by cases h; rfl
theorem strTy {d : PyData} (h : tyTab (tyD d) "str" = true) : ∃ s, d = .str s := by
  cases d with
  | str s => exact ⟨s, rfl⟩
  | _ => simp [tyD, tyTab] at h
theorem inV_str (s a b : Str) : inV (.str s) [.str a, .str b] = (decide (s = a) || decide (s = b)) := by
  simp only [inV, List.any_cons, List.any_nil, eqV, Bool.or_false]
  have h : ∀ x y : Str, (x == y) = decide (y = x) := fun x y => by
    by_cases e : x = y
    · subst e; simp
    · rw [decide_eq_false (fun z => e z.symm)]; simpa using e
  rw [h, h]
theorem ruleOf_kind {s : Str} {d : PyData} {r : R} (h : ruleOf (.str s) d = some r) : r.kind = s ∧ r.body = d ∧ r.ok := by
  simp only [ruleOf] at h
  split at h
  · rename_i e
    split at h
    · rename_i e2
      cases h
      obtain ⟨h1, h2⟩ := areRows_ok e2
      exact ⟨e.symm, h1, h2⟩
    · cases h
  · split at h
    · rename_i e
      split at h
      · rename_i e2
        cases h
        obtain ⟨h1, h2⟩ := areTerms_ok e2
        exact ⟨e.symm, h1, h2⟩
      · cases h
    · cases h
/-- the way out of Rule.__init__, its ends -/
structure InitK (Γ : Gm) (p dx : Addr) (dk d : PyData) (v : V) (H : Hp) (Q : VK) (E : XK) : Prop where
  bad : ruleOf dk d = none → ∀ H', Same H H' → E (.ref Γ.cBadRule) none H'
  good : ∀ r s b, ruleOf dk d = some r → dk = .str s → v = .ref b → r.kind = s → r.body = d → r.ok → ∀ H', (∀ b o, b ≠ p → H b = some o → H' b = some o) → H' p = some (.ins Γ.cRule dx (rfl2 s b)) → Q .non H'
def sp_RuleU_initU (Γ : Gm) : Sp := fun vs H Q E => ∃ p dx k dk v d, vs = [.ref p, k, v] ∧ H p = some (.ins Γ.cRule dx []) ∧ Dv H k dk ∧ Dv H v d ∧ InitK Γ p dx dk d v H Q E
/-- Rule __init__: self, kind, parts -/
def t_RuleU_initU (Γ : Gm) (E : XK) : TS := (tSeq (tIfS (tOr (tNot (tB (tCB (rIsi Γ.K) (tCons (tVar 1) (tCons (tC (.ty "str")) tNil))))) (tTest (tOp (rNotInU Γ.K) (tVar 1) (tTup (tCons (tC (.str "table")) (tCons (tC (.str "terms")) tNil)))))) (tRaise Γ.cBadRule (fun cls d _ H => E cls d H)) tNext)
  (tSeq (tIfS (tNot (tIfT (tTest (tOp (rEqU Γ.K) (tVar 1) (tC (.str "table")))) (tB (tCal (sp_are_rows Γ) E0 (tCons (tVar 2) tNil))) (tB (tCal (sp_are_terms Γ) E0 (tCons (tVar 2) tNil))))) (tRaise Γ.cBadRule (fun cls d _ H => E cls d H)) tNext)
  (tSeq (sFld Γ.K (tVar 0) (tVar 1) "form")
  (sFld Γ.K (tVar 0) (tVar 2) "body"))))
theorem rd_RuleU_initU (Γ : Gm) (F : RuleF Γ) (vs : List V) (H : Hp) (Q : VK) (E : XK) (h : sp_RuleU_initU Γ vs H Q E) : t_RuleU_initU Γ E ⟨fun _ H' => Q .non H', Q, fun _ _ => False, fun _ _ => False⟩ (startN 3 vs) H := by
  obtain ⟨p, dx, k, dk, v, d, rfl, hp, hk, hd, q⟩ := h
  unfold t_RuleU_initU
  walk_at "ss"
  refine w_isi hk.tag (by decide) ?_
  rw [hk.ty]
  walk_at "ss"
  refine w_ite (fun e => ?_) (fun e => ?_)
  · walk_at "ss"
    refine q.bad ?_ H (Same.refl H)
    cases dk with
    | str s => exact absurd (show (!tyTab "str" "str") = true from e) (by decide)
    | _ => rfl
  obtain ⟨s, rfl⟩ := strTy (by simpa using e)
  have ek := dv_str hk
  subst ek
  walk_at "ss"
  refine n_tup fun t H1 ht e1 h1 => ?_
  refine w_in2 (w_inT (SqT.of h1) rfl rfl ?_)
  walk_at "ss"
  rw [if_pos rfl, inV_str]
  refine w_ite (fun e2 => ?_) (fun e2 => ?_)
  · walk_at "ss"
    refine q.bad ?_ H1 e1
    simp only [Bool.not_eq_true', Bool.or_eq_false_iff, decide_eq_false_iff_not] at e2
    simp only [ruleOf]
    rw [if_neg e2.1, if_neg e2.2]
  have hd1 := hd.mono e1
  have hp1 := e1 _ _ hp
  -- the two stores
  have fin : ∀ r, ruleOf (.str s) d = some r → ∀ H2, Same H H2 → (tSeq (sFld Γ.K (tVar 0) (tVar 1) "form") (sFld Γ.K (tVar 0) (tVar 2) "body")) ⟨fun _ H' => Q .non H', Q, fun _ _ => False, fun _ _ => False⟩ (startN 3 [.ref p, .str s, v]) H2 := fun r hr H2 e2 => by
    obtain ⟨z1, z2, z3⟩ := ruleOf_kind hr
    walk_at "ss"
    refine k_sfld (e2 _ _ hp) F.cl F.nF (by decide) ?_
    walk_at "ss"
    refine k_sfld upd_same F.cl F.nB (show 1 < 1000 from by decide) ?_
    walk_at "ss"
    obtain ⟨b, eb⟩ : ∃ b, v = .ref b := by
      subst z2
      cases r <;> (cases hd with | tup h k => exact ⟨_, rfl⟩)
    subst eb
    refine q.good r s b hr rfl rfl z1 z2 z3 _ (fun c o hc ho => ?_) upd_same
    rw [upd_ne hc, upd_ne hc]
    exact e2 _ _ ho
  walk_at "ss"
  refine w_ite (fun e3 => ?_) (fun e3 => ?_)
  · have es : s = "table" := of_decide_eq_true e3
    walk_at "ss"
    refine ⟨v, d, rfl, hd1, fun H2 e4 => ?_⟩
    walk_at "ss"
    have er : ruleOf (.str s) d = if areRows d then some (.tab (rowsD d)) else none := by
      simp only [ruleOf]
      rw [if_pos es]
    refine w_ite (fun e5 => ?_) (fun e5 => ?_)
    · walk_at "ss"
      refine q.bad ?_ H2 (e1.trans e4)
      rw [er, if_neg (by simpa using e5)]
    · exact fin _ (by rw [er, if_pos (by simpa using e5)]) H2 (e1.trans e4)
  · have es : ¬ s = "table" := of_decide_eq_false e3
    have es2 : s = "terms" := by
      simp only [Bool.not_eq_false', Bool.or_eq_true, decide_eq_true_eq] at e2
      exact e2.resolve_left es
    walk_at "ss"
    refine ⟨v, d, rfl, hd1, fun H2 e4 => ?_⟩
    walk_at "ss"
    have er : ruleOf (.str s) d = if areTerms d then some (.trm (termsD d)) else none := by
      simp only [ruleOf]
      rw [if_neg es, if_pos es2]
    refine w_ite (fun e5 => ?_) (fun e5 => ?_)
    · walk_at "ss"
      refine q.bad ?_ H2 (e1.trans e4)
      rw [er, if_neg (by simpa using e5)]
    · exact fin _ (by rw [er, if_pos (by simpa using e5)]) H2 (e1.trans e4)
/-! ### check_heap -/
/-- is a value a heap up to a bound -/
def heapOk (r : R) (most : Int) (d : PyData) : Bool := inD 1 (if r.top < most then r.top else most) d
def sp_check_heap (Γ : Gm) : Sp := fun vs H Q E => ∃ v r x d most, vs = [v, x, .int most] ∧ RuleAt Γ H v r ∧ Dv H x d ∧ (heapOk r most d = false → E (.ref Γ.cBadHeap) none H) ∧ (heapOk r most d = true → Q .non H)
/-- check_heap: rule, heap, most -/
def t_check_heap (Γ : Gm) (E : XK) : TS := (tIfS (tNot (tB (tCal (sp_is_from Γ) E0 (tCons (tVar 1) (tCons (tC (.int 1)) (tCons (tCB rMin2 (tCons (tVar 2) (tCons (tCal (sp_most_of Γ) E0 (tCons (tVar 0) tNil)) tNil))) tNil)))))) (tRaise Γ.cBadHeap (fun cls d _ H => E cls d H)) tNext)
theorem rd_check_heap (Γ : Gm) (vs : List V) (H : Hp) (Q : VK) (E : XK) (h : sp_check_heap Γ vs H Q E) : t_check_heap Γ E ⟨fun _ H' => Q .non H', Q, fun _ _ => False, fun _ _ => False⟩ (startN 3 vs) H := by
  obtain ⟨v, r, x, d, most, rfl, hr, hd, k1, k2⟩ := h
  unfold t_check_heap
  walk_at "ss"
  refine ⟨v, r, rfl, hr, ?_⟩
  walk_at "ss"
  refine ⟨x, 1, _, rfl, hd.tag, ?_⟩
  rw [hd.inR]
  walk_at "ss"
  refine w_ite (fun e => ?_) (fun e => ?_)
  · walk_at "ss"
    exact k1 (by simpa [heapOk] using e)
  · walk_at "ss"
    exact k2 (by simpa [heapOk] using e)
/-! ### drawing -/
/-- the script -/
def sp__law_random (Γ : Gm) : Sp := fun vs H Q _ => ∃ (a : Addr) (ns : List Int) (s : Int), vs = [.ref a, .int s] ∧ SqL Γ.K H a (ns.map V.int) ∧ ns.length ≤ 63 ∧ 0 ≤ s ∧ s < 2147483647 ∧ ∀ d H', H d = none → Same H H' → H' d = some (dO d) → Q (.ref d) H'
/-- law_random: _law_script, _law_salt, _law_seed, _law_cell -/
def t__law_random (Γ : Gm) : TS := tShut DS (tSeq (tAsg (tVar 1) (gName 2))
  (tSeq (tFor (iSeq Γ.K (tVar 0)) (gName 3) (tAsg (tOp rModI (tCB rInt1 (tCons (tOp (rAddU Γ.K) (tOp (rMulU Γ.K) (tVar 2) (tC (.int 31))) (tCB rAbs (tCons (tVar 3) tNil))) tNil)) (tC (.int 2147483647))) (gName 2)))
  (tRet (tOp (rAddU Γ.K) (tLst (tCons (tVar 2) (tCons (tC (.int 0)) tNil))) (tLc (iSeq Γ.K (tVar 0)) (gName 3) (tTest (tOp rGe (tVar 3) (tOp rPowI (tC (.int 10)) (tC (.int 18))))) (tVar 3) [3])))))
theorem rd__law_random (Γ : Gm) (vs : List V) (H : Hp) (Q : VK) (E : XK) (h : sp__law_random Γ vs H Q E) : t__law_random Γ ⟨fun _ H' => Q .non H', Q, fun _ _ => False, fun _ _ => False⟩ (startN 4 vs) H := by
  obtain ⟨a, ns, s, rfl, hS, hl, hs, hs2, k⟩ := h
  unfold t__law_random
  unfold tShut
  walk_at "ss"
  refine k_seqL hS ?_
  refine k_list (xs := ns.map V.int) (fun i σ H' => ∃ s' v, σ = [some (.ref a), some (.int s), some (.int s'), v] ∧ H' = H ∧ 0 ≤ s' ∧ s' < 2147483647) ⟨s, none, rfl, rfl, hs, hs2⟩ (fun i σ H' _ ⟨_, _, _, e, _⟩ => by rw [e]; exact hS) ?_ ?_
  · rintro i x σ H' hi ⟨s', v, rfl, rfl, h1, h2⟩
    rw [List.getElem?_map] at hi
    obtain ⟨n, hn, rfl⟩ := Option.map_eq_some_iff.mp hi
    walk_at "ss"
    exact ⟨_, _, rfl, rfl, Int.emod_nonneg _ (by decide), Int.emod_lt_of_pos _ (by decide)⟩
  · rintro σ H' ⟨s', v, rfl, rfl, h1, h2⟩
    walk_at "ss"
    refine n_lst fun l1 H1 hl1 e1 h1' => ?_
    walk_at "ss"
    refine k_seqL (e1.seq hS) ?_
    refine k_lcListT (fun i acc H' => ∃ ms : List Int, acc = ms.map V.int ∧ ms.length ≤ i) (e1.seq hS) (fun _ _ => ⟨[], rfl, Nat.le_refl _⟩) ?_ ?_
    · rintro i x D acc H2 hi hD e2 hacc ⟨ms, rfl, hms⟩
      have hil : i < ns.length := by
        have := (List.getElem?_eq_some_iff.mp hi).1
        simpa using this
      rw [List.getElem?_map] at hi
      obtain ⟨n, hn, rfl⟩ := Option.map_eq_some_iff.mp hi
      walk_at "ss"
      refine ⟨rfl, ?_⟩
      walk_at "ss"
      refine w_powI ⟨by decide, by decide, by decide⟩ ?_
      walk_at "ss"
      refine w_ite (fun e => ?_) (fun e => ?_)
      · walk_at "ss"
        refine lcTurn.mk hD e2 hacc (by rw [List.length_map]; omega) ⟨ms ++ [n], by rw [List.map_append]; rfl, by rw [List.length_append]; exact Nat.succ_le_succ hms⟩
      · exact ⟨_, hD, e2, hacc, ms, rfl, Nat.le_succ_of_le hms⟩
    · rintro D acc H2 hD e2 hacc ⟨ms, rfl, hms⟩
      rw [List.length_map] at hms
      refine w_addL (e2 _ _ h1') hacc (by simp only [List.length_cons, List.length_nil, List.length_map]; exact Nat.le_trans (m := 100) (by omega) (by decide)) fun p H3 hp e3 h3 => ?_
      refine ⟨p, s' :: 0 :: ms, rfl, h3, ⟨s', 0, ms, rfl, h1, h2, by omega⟩, ?_⟩
      have e4 := (e1.trans e2).trans e3
      exact k p _ (((e1.trans e2)).free hp) (Same.mut e4 ((e1.trans e2).free hp)) upd_same
/-- one of a list's items -/
def sp__law_pick (Γ : Gm) : Sp := fun vs H Q _ => ∃ (d l : Addr) (xs : List V), vs = [.ref d, .ref l] ∧ H d = some (dO d) ∧ SqL Γ.K H l xs ∧ 0 < xs.length ∧ xs.length ≤ 100000 ∧ ∀ (i : Nat) x, xs[i]? = some x → Q x H
/-- law_pick: _law_d, _law_items -/
def t__law_pick (Γ : Gm) : TS := (tRet (tOp (rIx Γ.K) (tVar 1) (tCal (sp__law_below Γ) E0 (tCons (tVar 0) (tCons (tCB (rLen Γ.K) (tCons (tVar 1) tNil)) tNil)))))
theorem rd__law_pick (Γ : Gm) (vs : List V) (H : Hp) (Q : VK) (E : XK) (h : sp__law_pick Γ vs H Q E) : t__law_pick Γ ⟨fun _ H' => Q .non H', Q, fun _ _ => False, fun _ _ => False⟩ (startN 2 vs) H := by
  obtain ⟨d, l, xs, rfl, hd, hl, h0, hm, k⟩ := h
  unfold t__law_pick
  walk_at "ss"
  refine w_lenL hl ?_
  walk_at "ss"
  refine ⟨d, _, rfl, hd, by omega, by omega, fun r h1 h2 => ?_⟩
  have hi : r.toNat < xs.length := by omega
  refine w_ixL hl (atI_of h1 (List.getElem?_eq_getElem hi)) ?_
  exact k _ _ (List.getElem?_eq_getElem hi)

theorem w_below {Γ : Gm} {d : Addr} {n : Int} {H : Hp} {Q : VK} {E : XK} (hd : H d = some (dO d)) (h0 : 0 < n) (h1 : n < 2 ^ 200) (k : ∀ r : Int, 0 ≤ r → r < n → Q (.int r) H) : sp__law_below Γ [.ref d, .int n] H Q E := ⟨d, n, rfl, hd, h0, h1, k⟩
theorem w_pick {Γ : Gm} {d l : Addr} {xs : List V} {H : Hp} {Q : VK} {E : XK} (hd : H d = some (dO d)) (hl : SqL Γ.K H l xs) (k : ∀ (i : Nat) x, xs[i]? = some x → Q x H) (h0 : 0 < xs.length ∧ xs.length ≤ 100000 := by simp only [List.length_cons, List.length_nil]; decide) : sp__law_pick Γ [.ref d, .ref l] H Q E := ⟨d, l, xs, rfl, hd, hl, h0.1, h0.2, k⟩
theorem w_pickI {Γ : Gm} {d l : Addr} {ns : List Int} {H : Hp} {Q : VK} {E : XK} (hd : H d = some (dO d)) (hl : H l = some (.lst (ns.map V.int))) (k : ∀ m ∈ ns, Q (.int m) H) (h0 : 0 < ns.length ∧ ns.length ≤ 100000 := by simp only [List.length_cons, List.length_nil]; decide) : sp__law_pick Γ [.ref d, .ref l] H Q E :=
  ⟨d, l, _, rfl, hd, SqL.of hl, by simpa using h0.1, by simpa using h0.2, fun i x hx => by
    rw [List.getElem?_map] at hx
    obtain ⟨m, hm, rfl⟩ := Option.map_eq_some_iff.mp hx
    exact k m (List.mem_of_getElem? hm)⟩
/-! ### terms -/
def okT (t : Int × Nat × Nat) : Prop := -1000000 ≤ t.1 ∧ t.1 ≤ 1000000 ∧ t.2.1 ≤ 4 ∧ t.2.2 ≤ 4
def tt (t : Int × Nat × Nat) : PyData := .tuple ((tri t).map PyData.int)
def TL (H : Hp) (v : V) (ts : List (Int × Nat × Nat)) (n : Nat) : Prop := Tp H v (.tuple (ts.map tt)) ∧ (∀ t ∈ ts, okT t) ∧ ts.length ≤ n
theorem TL.mono {H H' : Hp} {v : V} {ts : List (Int × Nat × Nat)} {n : Nat} (e : Same H H') (h : TL H v ts n) : TL H' v ts n := ⟨h.1.mono (Same.tups e), h.2⟩
theorem TL.weak {H : Hp} {v : V} {ts : List (Int × Nat × Nat)} {n m : Nat} (h : TL H v ts n) (e : n ≤ m) : TL H v ts m := ⟨h.1, h.2.1, Nat.le_trans h.2.2 e⟩
theorem tp_t {H : Hp} {p : Addr} {n : Int} {i j : Int} (hi : 0 ≤ i) (hj : 0 ≤ j) (h : H p = some (.tup [.int n, .int i, .int j])) : Tp H (.ref p) (tt (n, i.toNat, j.toNat)) := by
  refine .tup h ?_
  show TpAll H _ [PyData.int n, PyData.int (i.toNat : Int), PyData.int (j.toNat : Int)]
  rw [Int.toNat_of_nonneg hi, Int.toNat_of_nonneg hj]
  exact .cons (.int n) (.cons (.int i) (.cons (.int j) .nil))
theorem TL.nil {H : Hp} {p : Addr} {n : Nat} (h : H p = some (.tup [])) : TL H (.ref p) [] n := ⟨.tup h .nil, (fun _ z => nomatch z), Nat.zero_le _⟩
theorem TL.mk {H : Hp} {p : Addr} {vs : List V} {ts : List (Int × Nat × Nat)} {n : Nat} (h : H p = some (.tup vs)) (k : TpAll H vs (ts.map tt)) (ok : ∀ t ∈ ts, okT t) (hl : ts.length ≤ n) : TL H (.ref p) ts n := ⟨.tup h k, ok, hl⟩
theorem w_addT {K : PySem.W.Frag} {H : Hp} {Q : VK} {v w : V} {ds es : List PyData} (hv : Tp H v (.tuple ds)) (hw : Tp H w (.tuple es)) (hz : ds.length + es.length ≤ 100000) (h : ∀ u H', Same H H' → Tp H' u (.tuple (ds ++ es)) → Q u H') : rAddU K v w H Q := by
  obtain ⟨a, xs, rfl, ha, ta⟩ := hv.inv
  obtain ⟨b, ys, rfl, hb, tb⟩ := hw.inv
  refine .inr (.inr (.inl ⟨a, b, xs, ys, rfl, rfl, SqT.of ha, SqT.of hb, ?_, ?_⟩))
  · rw [ta.length, tb.length]
    exact Nat.le_trans hz (by decide)
  · cases xs with
    | nil =>
      have ed : ds = [] := by cases ta; rfl
      subst ed
      refine ⟨fun _ => h _ H (Same.refl H) hw, fun z => absurd rfl z, fun z => absurd rfl z⟩
    | cons x xs =>
      refine ⟨(fun z => nomatch z), fun _ z => ?_, fun _ z p hp => ?_⟩
      · have ee : es = [] := by subst z; cases tb; rfl
        subst ee
        rw [List.append_nil] at h
        exact h _ H (Same.refl H) hv
      · have e := Same.new (o := .tup (x :: xs ++ ys)) hp
        exact h _ _ e (.tup upd_same ((ta.mono (Same.tups e)).append (tb.mono (Same.tups e))))
def sp__law_terms (Γ : Gm) : Sp := fun vs H Q _ => ∃ (d : Addr), vs = [.ref d] ∧ H d = some (dO d) ∧ ∀ v ts H', Same H H' → Tp H' v (R.trm ts).body → (R.trm ts).ok → Q v H'
theorem w_sl6 {K : PySem.W.Frag} {H : Hp} {Q : VK} {v : V} {ds : List PyData} (hv : Tp H v (.tuple ds)) (h : ∀ u H', Same H H' → Tp H' u (.tuple (ds.take 6)) → Q u H') : rSlU K v none (some 6) H Q := by
  obtain ⟨a, xs, rfl, ha, ta⟩ := hv.inv
  refine .inr (.inl ⟨a, xs, rfl, SqT.of ha, ?_, ?_⟩)
  · rintro ⟨_, z⟩
    have hl : xs.length ≤ 6 := by
      unfold HT.sIx at z
      simp only at z
      rw [if_neg (by decide)] at z
      have : (6 : Int).toNat = 6 := rfl
      omega
    rw [ta.length] at hl
    have := h (.ref a) H (Same.refl H)
    rw [List.take_of_length_le hl] at this
    exact this hv
  · intro z p hp
    have e := Same.new (o := .tup (cutV xs none (some 6))) hp
    have ec : cutV xs none (some 6) = xs.take 6 := by
      unfold cutV HT.sIx
      simp
    rw [ec] at e ⊢
    refine h _ _ e (.tup upd_same ?_)
    have tk : ∀ (n : Nat) {vs : List V} {ds : List PyData}, TpAll H vs ds → TpAll H (vs.take n) (ds.take n) := by
      intro n
      induction n with
      | zero => intro vs ds _; exact .nil
      | succ n ih =>
        intro vs ds t
        cases t with
        | nil => exact .nil
        | cons h k => exact .cons h (ih k)
    exact (tk 6 ta).mono (Same.tups e)
theorem app_tt {ts us : List (Int × Nat × Nat)} : (ts ++ us).map tt = ts.map tt ++ us.map tt := List.map_append
/-- law_terms: _law_d, _law_number, _law_kind, _law_found -/
def t__law_terms (Γ : Gm) : TS := (tSeq (tPar 1 2 (tCons (tCal (sp__law_pick Γ) E0 (tCons (tVar 0) (tCons (tLst (tCons (tC (.int 1)) (tCons (tUn (rU fun i => .int (-i)) (tC (.int 1))) (tCons (tC (.int 2)) (tCons (tC (.int 7)) (tCons (tC (.int 999)) tNil)))))) tNil))) (tCons (tCal (sp__law_below Γ) E0 (tCons (tVar 0) (tCons (tC (.int 7)) tNil))) tNil)))
  (tSeq (tAsg (tOp (rIx Γ.K) (tLst (tCons (tTup tNil) (tCons (tTup (tCons (tTup (tCons (tVar 1) (tCons (tC (.int 0)) (tCons (tC (.int 0)) tNil)))) tNil)) (tCons (tTup (tCons (tTup (tCons (tVar 1) (tCons (tC (.int 1)) (tCons (tC (.int 1)) tNil)))) tNil)) (tCons (tTup (tCons (tTup (tCons (tOp (rMulU Γ.K) (tC (.int 3)) (tVar 1)) (tCons (tC (.int 2)) (tCons (tC (.int 1)) tNil)))) (tCons (tTup (tCons (tOp (rMulU Γ.K) (tC (.int 3)) (tVar 1)) (tCons (tC (.int 1)) (tCons (tC (.int 2)) tNil)))) tNil))) tNil))))) (tCB rMin2 (tCons (tVar 2) (tCons (tC (.int 3)) tNil)))) (gName 3))
  (tCut (tIfS (tTest (tOp (rEqU Γ.K) (tVar 2) (tC (.int 4)))) (tAsg (tTup (tCons (tTup (tCons (tOp (rMulU Γ.K) (tC (.int 4)) (tVar 1)) (tCons (tC (.int 3)) (tCons (tC (.int 1)) tNil)))) (tCons (tTup (tCons (tOp (rMulU Γ.K) (tC (.int 6)) (tVar 1)) (tCons (tC (.int 2)) (tCons (tC (.int 2)) tNil)))) (tCons (tTup (tCons (tOp (rMulU Γ.K) (tC (.int 4)) (tVar 1)) (tCons (tC (.int 1)) (tCons (tC (.int 3)) tNil)))) tNil)))) (gName 3)) tNext)
  (tCut (tIfS (tTest (tOp (rEqU Γ.K) (tVar 2) (tC (.int 5)))) (tAsg (tTup (tCons (tTup (tCons (tOp (rMulU Γ.K) (tC (.int 5)) (tVar 1)) (tCons (tC (.int 4)) (tCons (tC (.int 1)) tNil)))) (tCons (tTup (tCons (tOp (rMulU Γ.K) (tC (.int 10)) (tVar 1)) (tCons (tC (.int 3)) (tCons (tC (.int 2)) tNil)))) (tCons (tTup (tCons (tOp (rMulU Γ.K) (tC (.int 10)) (tVar 1)) (tCons (tC (.int 2)) (tCons (tC (.int 3)) tNil)))) (tCons (tTup (tCons (tOp (rMulU Γ.K) (tC (.int 5)) (tVar 1)) (tCons (tC (.int 1)) (tCons (tC (.int 4)) tNil)))) tNil))))) (gName 3)) tNext)
  (tCut (tIfS (tOr (tTest (tOp (rEqU Γ.K) (tCal (sp__law_below Γ) E0 (tCons (tVar 0) (tCons (tC (.int 3)) tNil))) (tC (.int 0)))) (tTest (tOp (rEqU Γ.K) (tVar 2) (tC (.int 6))))) (tAsg (tOp (rAddU Γ.K) (tVar 3) (tTup (tCons (tTup (tCons (tOp rSubI (tCal (sp__law_below Γ) E0 (tCons (tVar 0) (tCons (tC (.int 5)) tNil))) (tC (.int 2))) (tCons (tCal (sp__law_below Γ) E0 (tCons (tVar 0) (tCons (tC (.int 5)) tNil))) (tCons (tCal (sp__law_below Γ) E0 (tCons (tVar 0) (tCons (tC (.int 5)) tNil))) tNil)))) tNil))) (gName 3)) tNext)
  (tCut (tIfS (tTest (tOp (rEqU Γ.K) (tCal (sp__law_below Γ) E0 (tCons (tVar 0) (tCons (tC (.int 6)) tNil))) (tC (.int 0)))) (tAsg (tOp (rAddU Γ.K) (tCal (sp__law_pick Γ) E0 (tCons (tVar 0) (tCons (tLst (tCons (tVar 3) (tCons (tTup tNil) tNil))) tNil))) (tTup (tCons (tTup (tCons (tOp (rMulU Γ.K) (tC (.int 15)) (tVar 1)) (tCons (tC (.int 2)) (tCons (tC (.int 2)) tNil)))) (tCons (tTup (tCons (tOp (rMulU Γ.K) (tUn (rU fun i => .int (-i)) (tC (.int 2))) (tVar 1)) (tCons (tC (.int 3)) (tCons (tC (.int 3)) tNil)))) tNil)))) (gName 3)) tNext)
  (tRet (tSl (rSlU Γ.K) (tVar 3) tNoPart (tPart (tC (.int 6)))))))))))
theorem rd__law_terms (Γ : Gm) (vs : List V) (H : Hp) (Q : VK) (E : XK) (h : sp__law_terms Γ vs H Q E) : t__law_terms Γ ⟨fun _ H' => Q .non H', Q, fun _ _ => False, fun _ _ => False⟩ (startN 4 vs) H := by
  obtain ⟨d, rfl, hd, q⟩ := h
  unfold t__law_terms
  walk_at "ss"
  refine n_lst fun l1 H1 _ e1 h1 => ?_
  walk_at "ss"
  have hd1 := e1 _ _ hd
  refine w_pickI (ns := [1, -1, 2, 7, 999]) hd1 h1 fun num hnum => ?_
  have hb : -999 ≤ num ∧ num ≤ 999 := by
    simp only [List.mem_cons, List.not_mem_nil, or_false] at hnum
    rcases hnum with rfl | rfl | rfl | rfl | rfl <;> decide
  clear hnum
  walk_at "ss"
  refine w_below hd1 (by decide) (by decide) fun kind hk1 hk2 => ?_
  walk_at "ss"
  refine n_tup fun p0 H2 _ e2 g0 => ?_
  walk_at "ss"
  refine n_tup fun p1 H3 _ e3 g1 => ?_
  walk_at "ss"
  refine n_tup fun p2 H4 _ e4 g2 => ?_
  walk_at "ss"
  refine n_tup fun p3 H5 _ e5 g3 => ?_
  walk_at "ss"
  refine n_tup fun p4 H6 _ e6 g4 => ?_
  walk_at "ss"
  refine n_tup fun p5 H7 _ e7 g5 => ?_
  walk_at "ss"
  refine n_tup fun p6 H8 _ e8 g6 => ?_
  walk_at "ss"
  refine n_tup fun p7 H9 _ e9 g7 => ?_
  walk_at "ss"
  refine n_lst fun l2 HA _ eA gL => ?_
  walk_at "ss"
  have hmin : ∃ j : Nat, j < 4 ∧ (if (3 : Int) < kind then (3 : Int) else kind) = (j : Int) := by
    by_cases c : (3 : Int) < kind
    · exact ⟨3, by decide, by rw [if_pos c]; rfl⟩
    · exact ⟨kind.toNat, by omega, by rw [if_neg c]; omega⟩
  obtain ⟨j, hj, ej⟩ := hmin
  rw [ej]
  have E9 := e8.trans e9
  have tl : ∀ v, [V.ref p0, .ref p2, .ref p4, .ref p7][j]? = some v → ∃ ts, TL HA v ts 4 := fun v hv => by
    match j, hj with
    | 0, _ =>
      cases hv
      exact ⟨[], (TL.nil g0).mono (e3.trans (e4.trans (e5.trans (e6.trans (e7.trans (e8.trans (e9.trans eA))))))) ⟩
    | 1, _ =>
      cases hv
      exact ⟨[(num, 0, 0)], (TL.mk (ts := [(num, 0, 0)]) g2 (.cons (tp_t (i := 0) (j := 0) (by decide) (by decide) (e4 _ _ g1)) .nil) (by intro t ht; cases ht with | head => (unfold okT; dsimp only; omega) | tail _ z => cases z) (by simp)).mono (e5.trans (e6.trans (e7.trans (e8.trans (e9.trans eA)))))⟩
    | 2, _ =>
      cases hv
      exact ⟨[(num, 1, 1)], (TL.mk (ts := [(num, 1, 1)]) g4 (.cons (tp_t (i := 1) (j := 1) (by decide) (by decide) (e6 _ _ g3)) .nil) (by intro t ht; cases ht with | head => (unfold okT; dsimp only; omega) | tail _ z => cases z) (by simp)).mono (e7.trans (e8.trans (e9.trans eA)))⟩
    | 3, _ =>
      cases hv
      exact ⟨[(3 * num, 2, 1), (3 * num, 1, 2)], (TL.mk (ts := [(3 * num, 2, 1), (3 * num, 1, 2)]) g7 (.cons (tp_t (i := 2) (j := 1) (by decide) (by decide) (E9 _ _ g5)) (.cons (tp_t (i := 1) (j := 2) (by decide) (by decide) (e9 _ _ g6)) .nil)) (by intro t ht; simp only [List.mem_cons, List.not_mem_nil, or_false] at ht; rcases ht with rfl | rfl <;> (unfold okT; dsimp only; omega)) (by simp)).mono eA⟩
  have hlt : j < [V.ref p0, .ref p2, .ref p4, .ref p7].length := hj
  obtain ⟨v0, hv0⟩ : ∃ v, [V.ref p0, .ref p2, .ref p4, .ref p7][j]? = some v := ⟨_, List.getElem?_eq_getElem hlt⟩
  obtain ⟨ts0, T0⟩ := tl v0 hv0
  refine w_ixL (SqL.of gL) (atI_of (i := (j : Int)) (by omega) (by simpa using hv0)) ?_
  have SA : Same H HA := e1.trans (e2.trans (e3.trans (e4.trans (e5.trans (e6.trans (e7.trans (e8.trans (e9.trans eA))))))))
  clear hv0 hlt tl ej hj gL eA E9 e9 g7 e8 g6 e7 g5 e6 g4 e5 g3 e4 g2 e3 g1 e2 g0 hd1 h1 e1
  walk_at "ss"
  -- if kind == 4
  refine w_cut (fun σ' H' => ∃ v ts, σ' = [some (.ref d), some (.int num), some (.int kind), some v] ∧ Same H H' ∧ TL H' v ts 4) ?_ ?_
  · walk_at "ss"
    refine w_ite (fun c => ?_) (fun c => ?_)
    · walk_at "ss"
      refine n_tup fun p1 H1 _ e1 g1 => ?_
      walk_at "ss"
      refine n_tup fun p2 H2 _ e2 g2 => ?_
      walk_at "ss"
      refine n_tup fun p3 H3 _ e3 g3 => ?_
      walk_at "ss"
      refine n_tup fun p4 H4 _ e4 g4 => ?_
      walk_at "ss"
      exact ⟨_, [(4 * num, 3, 1), (6 * num, 2, 2), (4 * num, 1, 3)], rfl, SA.trans (e1.trans (e2.trans (e3.trans e4))), TL.mk g4 (.cons (tp_t (i := 3) (j := 1) (by decide) (by decide) ((e2.trans (e3.trans e4)) _ _ g1)) (.cons (tp_t (i := 2) (j := 2) (by decide) (by decide) ((e3.trans e4) _ _ g2)) (.cons (tp_t (i := 1) (j := 3) (by decide) (by decide) (e4 _ _ g3)) .nil)))
        (by intro t ht; simp only [List.mem_cons, List.not_mem_nil, or_false] at ht; rcases ht with rfl | rfl | rfl <;> (unfold okT; dsimp only; omega)) (by simp)⟩
    · walk_at "ss"
      exact ⟨_, _, rfl, SA, T0⟩
  clear T0 SA
  rintro σ H1 ⟨v1, ts1, rfl, S1, T1⟩
  -- if kind == 5
  refine w_cut (fun σ' H' => ∃ v ts, σ' = [some (.ref d), some (.int num), some (.int kind), some v] ∧ Same H H' ∧ TL H' v ts 4) ?_ ?_
  · walk_at "ss"
    refine w_ite (fun c => ?_) (fun c => ?_)
    · walk_at "ss"
      refine n_tup fun p1 H1 _ e1 g1 => ?_
      walk_at "ss"
      refine n_tup fun p2 H2 _ e2 g2 => ?_
      walk_at "ss"
      refine n_tup fun p3 H3 _ e3 g3 => ?_
      walk_at "ss"
      refine n_tup fun p4 H4 _ e4 g4 => ?_
      walk_at "ss"
      refine n_tup fun p5 H5 _ e5 g5 => ?_
      walk_at "ss"
      exact ⟨_, [(5 * num, 4, 1), (10 * num, 3, 2), (10 * num, 2, 3), (5 * num, 1, 4)], rfl, S1.trans (e1.trans (e2.trans (e3.trans (e4.trans e5)))), TL.mk g5 (.cons (tp_t (i := 4) (j := 1) (by decide) (by decide) ((e2.trans (e3.trans (e4.trans e5))) _ _ g1)) (.cons (tp_t (i := 3) (j := 2) (by decide) (by decide) ((e3.trans (e4.trans e5)) _ _ g2)) (.cons (tp_t (i := 2) (j := 3) (by decide) (by decide) ((e4.trans e5) _ _ g3)) (.cons (tp_t (i := 1) (j := 4) (by decide) (by decide) (e5 _ _ g4)) .nil))))
        (by intro t ht; simp only [List.mem_cons, List.not_mem_nil, or_false] at ht; rcases ht with rfl | rfl | rfl | rfl <;> (unfold okT; dsimp only; omega)) (by simp)⟩
    · walk_at "ss"
      exact ⟨_, _, rfl, S1, T1⟩
  clear T1 S1
  rintro σ H1 ⟨v1, ts1, rfl, S1, T1⟩
  -- one more term
  refine w_cut (fun σ' H' => ∃ v ts, σ' = [some (.ref d), some (.int num), some (.int kind), some v] ∧ Same H H' ∧ TL H' v ts 5) ?_ ?_
  · walk_at "ss"
    refine w_below (S1 _ _ hd) (by decide) (by decide) fun r1 hr1 hr2 => ?_
    have more : tAsg (tOp (rAddU Γ.K) (tVar 3) (tTup (tCons (tTup (tCons (tOp rSubI (tCal (sp__law_below Γ) E0 (tCons (tVar 0) (tCons (tC (.int 5)) tNil))) (tC (.int 2))) (tCons (tCal (sp__law_below Γ) E0 (tCons (tVar 0) (tCons (tC (.int 5)) tNil))) (tCons (tCal (sp__law_below Γ) E0 (tCons (tVar 0) (tCons (tC (.int 5)) tNil))) tNil)))) tNil))) (gName 3)
        ⟨fun σ' H' => ∃ v ts, σ' = [some (.ref d), some (.int num), some (.int kind), some v] ∧ Same H H' ∧ TL H' v ts 5, Q, fun _ _ => False, fun _ _ => False⟩ [some (.ref d), some (.int num), some (.int kind), some v1] H1 := by
      walk_at "ss"
      refine w_below (S1 _ _ hd) (by decide) (by decide) fun a ha1 ha2 => ?_
      walk_at "ss"
      refine w_below (S1 _ _ hd) (by decide) (by decide) fun b hb1 hb2 => ?_
      walk_at "ss"
      refine w_below (S1 _ _ hd) (by decide) (by decide) fun c hc1 hc2 => ?_
      walk_at "ss"
      refine n_tup fun p1 H2 _ e1 g1 => ?_
      walk_at "ss"
      refine n_tup fun p2 H3 _ e2 g2 => ?_
      have T2 := T1.mono (e1.trans e2)
      have hone : ([(a - 2, b.toNat, c.toNat)] : List (Int × Nat × Nat)).map tt = [tt (a - 2, b.toNat, c.toNat)] := rfl
      refine w_addT (es := [tt (a - 2, b.toNat, c.toNat)]) T2.1 (.tup g2 (.cons (tp_t hb1 hc1 (e2 _ _ g1)) .nil)) (by rw [List.length_map]; have := T1.2.2; simp only [List.length_cons, List.length_nil]; omega) fun u H4 e4 t4 => ?_
      walk_at "ss"
      refine ⟨u, ts1 ++ [(a - 2, b.toNat, c.toNat)], rfl, S1.trans (e1.trans (e2.trans e4)), ?_, ?_, ?_⟩
      · rw [app_tt]; exact t4
      · intro t ht
        rcases List.mem_append.mp ht with ht | ht
        · exact T1.2.1 t ht
        · simp only [List.mem_cons, List.not_mem_nil, or_false] at ht
          subst ht
          unfold okT; dsimp only; omega
      · rw [List.length_append]
        have := T1.2.2
        simp only [List.length_cons, List.length_nil]; omega
    walk_at "ss"
    refine w_ite (fun c => ?_) (fun c => ?_)
    · exact w_iteT more
    · walk_at "ss"
      refine w_ite (fun c2 => more) (fun c2 => ?_)
      walk_at "ss"
      exact ⟨_, _, rfl, S1, T1.weak (by decide)⟩
  clear T1 S1
  rintro σ H1 ⟨v1, ts1, rfl, S1, T1⟩
  refine w_cut (fun σ' H' => ∃ v ts, σ' = [some (.ref d), some (.int num), some (.int kind), some v] ∧ Same H H' ∧ TL H' v ts 7) ?_ ?_
  · walk_at "ss"
    refine w_below (S1 _ _ hd) (by decide) (by decide) fun r1 hr1 hr2 => ?_
    walk_at "ss"
    refine w_ite (fun c => ?_) (fun c => ?_)
    · walk_at "ss"
      refine n_tup fun p1 H2 _ e1 g1 => ?_
      walk_at "ss"
      refine n_lst fun p2 H3 _ e2 g2 => ?_
      walk_at "ss"
      have S3 := S1.trans (e1.trans e2)
      refine w_pick (S3 _ _ hd) (SqL.of g2) fun i x hx => ?_
      have Tx : ∃ ts, TL H3 x ts 5 := by
        match i with
        | 0 => cases hx; exact ⟨_, T1.mono (e1.trans e2)⟩
        | 1 => cases hx; exact ⟨[], TL.nil (e2 _ _ g1)⟩
        | n + 2 => simp at hx
      obtain ⟨tsx, Tx⟩ := Tx
      walk_at "ss"
      refine n_tup fun p3 H4 _ e3 g3 => ?_
      walk_at "ss"
      refine n_tup fun p4 H5 _ e4 g4 => ?_
      walk_at "ss"
      refine n_tup fun p5 H6 _ e5 g5 => ?_
      have T6 := Tx.mono (e3.trans (e4.trans e5))
      refine w_addT (es := [tt (15 * num, 2, 2), tt (-2 * num, 3, 3)]) T6.1 (.tup g5 (.cons (tp_t (i := 2) (j := 2) (by decide) (by decide) ((e4.trans e5) _ _ g3)) (.cons (tp_t (i := 3) (j := 3) (by decide) (by decide) (e5 _ _ g4)) .nil))) (by rw [List.length_map]; have := T6.2.2; simp only [List.length_cons, List.length_nil]; omega) fun u H7 e6 t7 => ?_
      walk_at "ss"
      refine ⟨u, tsx ++ [(15 * num, 2, 2), (-2 * num, 3, 3)], rfl, S3.trans (e3.trans (e4.trans (e5.trans e6))), ?_, ?_, ?_⟩
      · rw [app_tt]; exact t7
      · intro t ht
        rcases List.mem_append.mp ht with ht | ht
        · exact Tx.2.1 t ht
        · simp only [List.mem_cons, List.not_mem_nil, or_false] at ht
          rcases ht with rfl | rfl <;> (unfold okT; dsimp only; omega)
      · rw [List.length_append]
        have := Tx.2.2
        simp only [List.length_cons, List.length_nil]; omega
    · walk_at "ss"
      exact ⟨_, _, rfl, S1, T1.weak (by decide)⟩
  clear T1 S1
  rintro σ H1 ⟨v1, ts1, rfl, S1, T1⟩
  walk_at "ss"
  refine w_sl6 T1.1 fun u H2 e2 t2 => ?_
  walk_at "ss"
  refine q u (ts1.take 6) H2 (S1.trans e2) ?_ ⟨by rw [List.length_take]; omega, fun t ht => T1.2.1 t (List.mem_of_mem_take ht)⟩
  show Tp H2 u (.tuple ((ts1.take 6).map tt))
  rw [List.map_take]
  exact t2

/-! ### tables that are drawn -/
def small (x : Int) : Prop := -100 ≤ x ∧ x ≤ 100
def RowAt (H : Hp) (a : Addr) (n : Nat) (row : List Int) : Prop := H a = some (.lst (row.map V.int)) ∧ row.length = n ∧ ∀ x ∈ row, small x
theorem rows_of {P : Nat → Addr → List Int → Prop} : ∀ {refs : List Addr}, (∀ j a, refs[j]? = some a → ∃ row, P j a row) → ∃ rows : List (List Int), rows.length = refs.length ∧ ∀ (j : Nat) row, rows[j]? = some row → ∃ a, refs[j]? = some a ∧ P j a row
  | [], _ => ⟨[], rfl, fun j row h => by simp at h⟩
  | a :: refs, h => by
    obtain ⟨row, hr⟩ := h 0 a rfl
    obtain ⟨rows, h1, h2⟩ := rows_of (P := fun j => P (j + 1)) (refs := refs) fun j b hb => h (j + 1) b hb
    refine ⟨row :: rows, by rw [List.length_cons, List.length_cons, h1], fun j w hw => ?_⟩
    cases j with
    | zero => cases hw; exact ⟨a, rfl, hr⟩
    | succ j => exact h2 j w hw
def sp__law_table (Γ : Gm) : Sp := fun vs H Q _ => ∃ (d : Addr) (m : Int), vs = [.ref d, .int m] ∧ H d = some (dO d) ∧ 2 ≤ m ∧ m ≤ 40 ∧
  ∀ v rows H', Same H H' → Tp H' v (R.tab rows).body → (R.tab rows).ok → (rows.length : Int) ≤ m - 1 → (∀ r ∈ rows, ∀ x ∈ r, small x) → Q v H'
/-- between two rows -/
structure TI' (H H' : Hp) (M : Nat) (Ld Lr : Addr) (dues : List Int) (refs : List Addr) : Prop where
  same : Same H H'
  hd : H' Ld = some (.lst (dues.map V.int))
  hr : H' Lr = some (.lst (refs.map V.ref))
  ne : Ld ≠ Lr
  nr : ∀ a ∈ refs, a ≠ Lr
  nd : ∀ a ∈ refs, a ≠ Ld
  nh : ∀ a ∈ refs, H a = none
  row : ∀ j a, refs[j]? = some a → ∃ row, RowAt H' a (M - 1 - j) row
/-- law_table: _law_d, _law_most, _law_kind, _law_due, _law_rows, _law_one, _law_row, _law_other, _law_k -/
def t__law_table (Γ : Gm) : TS := (tSeq (tPar 1 2 (tCons (tOp (rAddU Γ.K) (tC (.int 2)) (tCal (sp__law_below Γ) E0 (tCons (tVar 0) (tCons (tOp rSubI (tVar 1) (tC (.int 1))) tNil)))) (tCons (tCal (sp__law_below Γ) E0 (tCons (tVar 0) (tCons (tC (.int 4)) tNil))) tNil)))
  (tSeq (tAsg (tOp (rAddU Γ.K) (tLst (tCons (tC (.int 0)) (tCons (tC (.int 0)) tNil))) (tLc (iRng1 (tCons (tOp rSubI (tVar 1) (tC (.int 1))) tNil)) (gName 8) tYes (tOp rSubI (tCal (sp__law_below Γ) E0 (tCons (tVar 0) (tCons (tC (.int 40)) tNil))) (tC (.int 9))) [8])) (gName 3))
  (tSeq (tAsg (tLst tNil) (gName 4))
  (tSeq (tFor (iRng2 (tCons (tC (.int 1)) (tCons (tVar 1) tNil))) (gName 5) (tSeq (tAsg (tLst tNil) (gName 6))
  (tSeq (tFor (iRng2 (tCons (tC (.int 1)) (tCons (tOp (rAddU Γ.K) (tOp rSubI (tVar 1) (tVar 5)) (tC (.int 1))) tNil))) (gName 7) (tDrop (tBM Γ.K "list" rAppend (tVar 6) (tCons (tIf (tTest (tOp (rEqU Γ.K) (tVar 2) (tC (.int 0)))) (tCal (sp__law_below Γ) E0 (tCons (tVar 0) (tCons (tC (.int 5)) tNil))) (tOp rSubI (tOp rSubI (tOp (rIx Γ.K) (tVar 3) (tOp (rAddU Γ.K) (tVar 5) (tVar 7))) (tOp (rIx Γ.K) (tVar 3) (tVar 5))) (tOp (rIx Γ.K) (tVar 3) (tVar 7)))) tNil))))
  (tDrop (tBM Γ.K "list" rAppend (tVar 4) (tCons (tVar 6) tNil))))))
  (tCut (tIfS (tTest (tOp (rEqU Γ.K) (tVar 2) (tC (.int 1)))) (tSeq (tAsg (tCal (sp__law_below Γ) E0 (tCons (tVar 0) (tCons (tOp rSubI (tVar 1) (tC (.int 1))) tNil))) (gName 5))
  (tAsg (tCal (sp__law_below Γ) E0 (tCons (tVar 0) (tCons (tC (.int 9)) tNil))) (gSub (tOp (rIx Γ.K) (tVar 4) (tVar 5)) (tCal (sp__law_below Γ) E0 (tCons (tVar 0) (tCons (tCB (rLen Γ.K) (tCons (tOp (rIx Γ.K) (tVar 4) (tVar 5)) tNil)) tNil))) rSetL))) tNext)
  (tRet (tCB (rTupOf Γ.K) (tCons (tLc (iSeq Γ.K (tVar 4)) (gName 6) tYes (tCB (rTupOf Γ.K) (tCons (tVar 6) tNil)) [6]) tNil))))))))
theorem rd__law_table (Γ : Gm) (vs : List V) (H : Hp) (Q : VK) (E : XK) (h : sp__law_table Γ vs H Q E) : t__law_table Γ ⟨fun _ H' => Q .non H', Q, fun _ _ => False, fun _ _ => False⟩ (startN 9 vs) H := by
  obtain ⟨d, m, rfl, hd, hm, hm2, q⟩ := h
  unfold t__law_table
  walk_at "ss"
  refine w_below hd (by omega) (by omega) fun r hr1 hr2 => ?_
  walk_at "ss"
  refine w_below hd (by decide) (by decide) fun kind hk1 hk2 => ?_
  walk_at "ss"
  obtain ⟨M, hM⟩ : ∃ M : Nat, 2 + r = (M : Int) := ⟨(2 + r).toNat, by omega⟩
  rw [hM]
  have hMr : 2 ≤ M ∧ (M : Int) ≤ m := by omega
  refine n_lst fun l0 H1 hl0 e1 g0 => ?_
  walk_at "ss"
  refine k_rng1 (by omega) ?_
  refine k_lcRange (fun i acc H' => ∃ ns : List Int, acc = ns.map V.int ∧ ns.length = i ∧ ∀ x ∈ ns, -9 ≤ x ∧ x ≤ 30) (fun _ _ => ⟨[], rfl, rfl, (fun _ z => nomatch z)⟩) ?_ ?_
  · rintro i D acc H2 hi hD e2 hacc ⟨ns, rfl, hns, hb⟩
    walk_at "ss"
    refine ⟨rfl, ?_⟩
    walk_at "ss"
    refine w_below ((e1.trans e2) _ _ hd) (by decide) (by decide) fun z hz1 hz2 => ?_
    walk_at "ss"
    refine lcTurn.mk hD e2 hacc (by rw [List.length_map]; omega) ⟨ns ++ [z - 9], by rw [List.map_append]; rfl, by rw [List.length_append, hns]; rfl, fun x hx => ?_⟩
    rcases List.mem_append.mp hx with hx | hx
    · exact hb x hx
    · simp only [List.mem_cons, List.not_mem_nil, or_false] at hx
      omega
  rintro D acc H2 hD e2 hacc ⟨ns, rfl, hns, hb⟩
  refine w_addL (e2 _ _ g0) hacc (by simp only [List.length_cons, List.length_nil, List.length_map]; exact Nat.le_trans (m := 1000) (by omega) (by decide)) fun Ld H3 hLd e3 g3 => ?_
  obtain ⟨dues, hdu⟩ : ∃ dues : List Int, dues = 0 :: 0 :: ns := ⟨_, rfl⟩
  have g3' : H3 Ld = some (.lst (dues.map V.int)) := by rw [hdu]; exact g3
  have hdl : dues.length = M + 1 := by rw [hdu]; simp only [List.length_cons]; omega
  have hdb : ∀ x ∈ dues, -9 ≤ x ∧ x ≤ 30 := fun x hx => by
    rw [hdu] at hx
    simp only [List.mem_cons] at hx
    rcases hx with rfl | rfl | hx
    · decide
    · decide
    · exact hb x hx
  clear g3 hdu
  have S3 := (e1.trans e2).trans e3
  walk_at "ss"
  refine n_lst fun Lr H4 hLr e4 g4 => ?_
  walk_at "ss"
  refine k_rng2 (by omega) ?_
  have ne0 : Ld ≠ Lr := ne_of_none g3' hLr
  have S4 := S3.trans e4
  have hrn : H Lr = none := S3.free hLr
  refine k_range (fun i σ H' => ∃ refs x y z, σ = [some (.ref d), some (.int M), some (.int kind), some (.ref Ld), some (.ref Lr), x, y, z, none] ∧ refs.length = i ∧ TI' H H' M Ld Lr dues refs) ⟨[], none, none, none, rfl, rfl, S4, e4 _ _ g3', g4, ne0, (fun _ z => nomatch z), (fun _ z => nomatch z), (fun _ z => nomatch z), fun j a z => by simp at z⟩ ?_ ?_
  · rintro i σ H5 hi ⟨refs, x, y, z, rfl, hrl, T⟩
    have hi' : i < M - 1 := by omega
    walk_at "ss"
    refine n_lst fun l H6 hl e6 g6 => ?_
    walk_at "ss"
    refine k_rng2 (by omega) ?_
    have S6 := T.same.trans e6
    refine k_range (fun k σ H' => ∃ row z, σ = [some (.ref d), some (.int M), some (.int kind), some (.ref Ld), some (.ref Lr), some (.int (1 + (i : Int))), some (.ref l), z, none] ∧ Same H5 H' ∧ RowAt H' l k row) ⟨[], z, rfl, e6, g6, rfl, (fun _ z => nomatch z)⟩ ?_ ?_
    · rintro k σ H7 hk ⟨row, z', rfl, e7, hl7, hrowl, hrb⟩
      have hk' : k < M - 1 - i := by omega
      walk_at "ss"
      refine w_tyL hl7 ?_
      walk_at "ss"
      have done : ∀ x : Int, small x → rAppend (.ref l) [.int x] H7 (fun _ H1 => ∃ row z, (List.set [some (V.ref d), some (.int M), some (.int kind), some (.ref Ld), some (.ref Lr), some (.int (1 + (i : Int))), some (.ref l), z', none] 7 (some (.int (1 + (k : Int))))) = [some (.ref d), some (.int M), some (.int kind), some (.ref Ld), some (.ref Lr), some (.int (1 + (i : Int))), some (.ref l), z, none] ∧ Same H5 H1 ∧ RowAt H1 l (k + 1) row) := fun x hx => by
        refine w_app hl7 (by rw [List.length_map]; omega) ?_
        refine ⟨row ++ [x], _, rfl, Same.mut e7 hl, ?_, by rw [List.length_append, hrowl]; rfl, fun w hw => ?_⟩
        · rw [upd_same, List.map_append]; rfl
        · rcases List.mem_append.mp hw with hw | hw
          · exact hrb w hw
          · simp only [List.mem_cons, List.not_mem_nil, or_false] at hw
            rw [hw]; exact hx
      refine w_ite (fun c => ?_) (fun c => ?_)
      · walk_at "ss"
        refine w_below ((T.same.trans e7) _ _ hd) (by decide) (by decide) fun w hw1 hw2 => ?_
        walk_at "ss"
        exact done w ⟨by omega, by omega⟩
      · walk_at "ss"
        have hdd := e7 _ _ T.hd
        have gt : ∀ (n : Int), 0 ≤ n → n < M + 1 → ∃ x, dues[n.toNat]? = some x ∧ -9 ≤ x ∧ x ≤ 30 := fun n h1 h2 => by
          have : n.toNat < dues.length := by omega
          exact ⟨_, List.getElem?_eq_getElem this, hdb _ (List.getElem_mem this)⟩
        obtain ⟨x1, a1, b1⟩ := gt (1 + (i : Int) + (1 + (k : Int))) (by omega) (by omega)
        obtain ⟨x2, a2, b2⟩ := gt (1 + (i : Int)) (by omega) (by omega)
        obtain ⟨x3, a3, b3⟩ := gt (1 + (k : Int)) (by omega) (by omega)
        refine w_ixL (SqL.of hdd) (atI_of (by omega) (by rw [List.getElem?_map, a1]; rfl)) ?_
        walk_at "ss"
        refine w_ixL (SqL.of hdd) (atI_of (by omega) (by rw [List.getElem?_map, a2]; rfl)) ?_
        walk_at "ss"
        refine w_ixL (SqL.of hdd) (atI_of (by omega) (by rw [List.getElem?_map, a3]; rfl)) ?_
        walk_at "ss"
        exact done _ ⟨by omega, by omega⟩
    · rintro σ H7 ⟨row, z', rfl, e7, hl7, hrowl, hrb⟩
      walk_at "ss"
      have hr7 := e7 _ _ T.hr
      refine w_tyL hr7 ?_
      walk_at "ss"
      refine w_app hr7 (by rw [List.length_map]; omega) ?_
      have nl : l ≠ Lr := fun z => by rw [z, T.hr] at hl; cases hl
      have nl2 : l ≠ Ld := fun z => by rw [z, T.hd] at hl; cases hl
      have mem : ∀ {P : Addr → Prop}, (∀ a ∈ refs, P a) → P l → ∀ a ∈ refs ++ [l], P a := fun h1 h2 a ha => by
        rcases List.mem_append.mp ha with ha | ha
        · exact h1 a ha
        · simp only [List.mem_cons, List.not_mem_nil, or_false] at ha
          rw [ha]; exact h2
      refine ⟨refs ++ [l], _, _, _, rfl, by rw [List.length_append, hrl]; rfl, Same.mut (T.same.trans e7) hrn, ?_, ?_, ne0, mem T.nr nl, mem T.nd nl2, mem T.nh (T.same.free hl), fun j a hj => ?_⟩
      · rw [upd_ne ne0]; exact e7 _ _ T.hd
      · rw [upd_same, List.map_append]; rfl
      · by_cases hjl : j < refs.length
        · rw [List.getElem?_append_left hjl] at hj
          obtain ⟨rw', h1, h2⟩ := T.row j a hj
          refine ⟨rw', ?_, h2⟩
          rw [upd_ne (T.nr a (List.mem_of_getElem? hj))]
          exact e7 _ _ h1
        · have hj2 : j = refs.length := by
            have := (List.getElem?_eq_some_iff.mp hj).1
            rw [List.length_append] at this
            simp only [List.length_cons, List.length_nil] at this
            omega
          subst hj2
          rw [List.getElem?_append_right (Nat.le_refl _), Nat.sub_self] at hj
          cases hj
          refine ⟨row, by rw [upd_ne nl]; exact hl7, ?_, hrb⟩
          omega
  · rintro σ H5 ⟨refs, x, y, z, rfl, hrl, T⟩
    have hrl' : refs.length = M - 1 := by omega
    refine w_cut (fun σ' H' => ∃ x y z, σ' = [some (.ref d), some (.int M), some (.int kind), some (.ref Ld), some (.ref Lr), x, y, z, none] ∧ TI' H H' M Ld Lr dues refs) ?_ ?_
    · walk_at "ss"
      refine w_ite (fun c => ?_) (fun c => ?_)
      · walk_at "ss"
        refine w_below (T.same _ _ hd) (by omega) (by omega) fun one ho1 ho2 => ?_
        walk_at "ss"
        refine w_below (T.same _ _ hd) (by decide) (by decide) fun val hv1 hv2 => ?_
        walk_at "ss"
        have hj : one.toNat < refs.length := by omega
        have ha := List.getElem?_eq_getElem hj
        obtain ⟨row, hrow, hrowl, hrb⟩ := T.row _ _ ha
        refine w_ixL (SqL.of T.hr) (atI_of ho1 (by rw [List.getElem?_map, ha]; rfl)) ?_
        walk_at "ss"
        refine w_ixL (SqL.of T.hr) (atI_of ho1 (by rw [List.getElem?_map, ha]; rfl)) ?_
        walk_at "ss"
        refine w_lenL (SqL.of hrow) ?_
        walk_at "ss"
        rw [List.length_map, hrowl]
        refine w_below (T.same _ _ hd) (by omega) (by omega) fun k hk1 hk2 => ?_
        obtain ⟨kk, hkk⟩ : ∃ kk : Nat, k = (kk : Int) := ⟨k.toNat, by omega⟩
        subst hkk
        have hnr := T.nr _ (List.mem_of_getElem? ha)
        have hnH : H (refs[one.toNat]) = none := T.nh _ (List.mem_of_getElem? ha)
        refine w_setL hrow (j := kk) (by unfold ixN; rw [if_pos (by omega), if_pos (by rw [List.length_map, hrowl]; omega)]; simp) ?_
        walk_at "ss"
        refine ⟨_, _, _, rfl, Same.mut T.same hnH, ?_, ?_, ne0, T.nr, T.nd, T.nh, fun j a hja => ?_⟩
        · rw [upd_ne (T.nd _ (List.mem_of_getElem? ha)).symm]; exact T.hd
        · rw [upd_ne hnr.symm]; exact T.hr
        · by_cases ea : a = refs[one.toNat]
          · subst ea
            obtain ⟨row2, h1, h2, h3⟩ := T.row _ _ hja
            rw [hrow] at h1
            have e2 : row2.length = row.length := by
              have := congrArg (fun o => match o with | some (HO.lst l) => l.length | _ => 0) h1
              simpa using this.symm
            refine ⟨row.set kk val, ?_, by rw [List.length_set, ← e2]; exact h2, fun w hw => ?_⟩
            · rw [upd_same, List.map_set]
            · rcases List.mem_or_eq_of_mem_set hw with hw | hw
              · exact hrb w hw
              · rw [hw]; exact ⟨by omega, by omega⟩
          · obtain ⟨row2, h1, h2⟩ := T.row _ _ hja
            exact ⟨row2, by rw [upd_ne ea]; exact h1, h2⟩
      · walk_at "ss"
        exact ⟨_, _, _, rfl, T⟩
    clear T
    rintro σ H6 ⟨x, y, z, rfl, T⟩
    obtain ⟨rows, hl1, hl2⟩ := rows_of T.row
    walk_at "ss"
    refine k_seqL (SqL.of T.hr) ?_
    refine k_lcList (xs := refs.map V.ref) (fun i acc H' => TpAll H' acc ((rows.take i).map fun r => PyData.tuple (r.map PyData.int))) (SqL.of T.hr) (fun _ _ => .nil) ?_ ?_
    · rintro i x D acc H7 hi hD e7 hacc tacc
      have hil : i < rows.length := by
        have := (List.getElem?_eq_some_iff.mp hi).1
        rw [List.length_map] at this
        omega
      have hrow := List.getElem?_eq_getElem hil
      obtain ⟨a, hra, hro, hrol, hrob⟩ := hl2 i _ hrow
      rw [List.getElem?_map, hra] at hi
      cases hi
      walk_at "ss"
      refine ⟨rfl, ?_⟩
      walk_at "ss"
      refine w_tupL (SqL.of (e7 _ _ hro)) fun t H8 ht e8 g8 => ?_
      have hacc8 := e8 _ _ hacc
      have tl := tacc.length
      rw [List.length_map, List.length_take] at tl
      refine lcTurn.mk hD (e7.trans e8) hacc8 (by omega) ?_
      rw [take_succ hrow, List.map_append]
      have up : Tups H8 (upd H8 D (.lst (acc ++ [V.ref t]))) := Tups.upd (fun _ _ z => z) (fun xs z => by rw [hacc8] at z; cases z)
      exact ((tacc.mono (Same.tups e8)).append (.cons (.tup g8 (TpAll.of_ints _ _)) .nil)).mono up
    · rintro D acc H7 hD e7 hacc tacc
      rw [List.length_map, ← hl1, List.take_length] at tacc
      walk_at "ss"
      refine w_tupL (SqL.of hacc) fun t H8 ht e8 g8 => ?_
      refine q _ rows H8 (T.same.trans (e7.trans e8)) (.tup g8 (tacc.mono (Same.tups e8))) ⟨by omega, by omega, fun i r hr => ?_⟩ (by omega) (fun r hr => ?_)
      · obtain ⟨a, h1, h2, h3, h4⟩ := hl2 i r hr
        refine ⟨by omega, fun x hx => ?_⟩
        have := h4 x hx
        unfold small at this
        omega
      · obtain ⟨i, hi⟩ := List.getElem?_of_mem hr
        obtain ⟨a, h1, h2, h3, h4⟩ := hl2 i r hi
        exact h4
/-! ### rules that are drawn -/
/-- R.small: what the drawn tables keep -/
def R.fit (most : Int) : R → Prop
  | .tab rows => (rows.length : Int) ≤ most - 1 ∧ ∀ r ∈ rows, ∀ x ∈ r, small x
  | .trm _ => True
def sp__law_rule (Γ : Gm) : Sp := fun vs H Q _ => ∃ (d : Addr) (m : Int), vs = [.ref d, .int m] ∧ H d = some (dO d) ∧ 2 ≤ m ∧ m ≤ 40 ∧ ∀ v r H', Same H H' → RuleAt Γ H' v r → r.fit m → Q v H'
/-- a rule of parts that are one, made -/
theorem w_mkRule {Γ : Gm} {H : Hp} {Q : VK} {v : V} (r : R) (hv : Tp H v r.body) (ok : r.ok) (hr : ruleOf (.str r.kind) r.body = some r) (k : ∀ p H', Same H H' → RuleAt Γ H' (.ref p) r → Q (.ref p) H') : kMak Γ.cRule (sp_RuleU_initU Γ) E0 [.str r.kind, v] H Q := by
  intro x dx hx hdx ne
  have e1 : Same H (upd (upd H dx (.own x)) x (.ins Γ.cRule dx [])) := (Same.new hdx).mut hx
  refine ⟨x, dx, _, .str r.kind, v, r.body, rfl, upd_same, .str _, (hv.mono (Same.tups e1)).dv, ⟨(fun z => by rw [hr] at z; cases z), ?_⟩⟩
  intro r' s b hr' es ev _ _ _ H' keep h'
  cases es
  rw [hr] at hr'
  cases hr'
  subst ev
  have keep' : Same H H' := fun c o ho => keep c o (fun z => by rw [z, hx] at ho; cases ho) (e1 c o ho)
  exact ⟨rfl, k x H' keep' ⟨x, dx, b, rfl, h', hv.mono (Same.tups keep'), ok⟩⟩
theorem ints_all {lo hi : Int} : ∀ {ns : List Int}, (∀ n ∈ ns, lo ≤ n ∧ n ≤ hi) → (ns.map PyData.int).all (inD lo hi) = true
  | [], _ => rfl
  | n :: ns, h => by
    rw [List.map_cons, List.all_cons, ints_all (fun m hm => h m (List.mem_cons_of_mem _ hm))]
    have := h n List.mem_cons_self
    simp only [inD, Bool.and_true, Bool.and_eq_true, decide_eq_true_eq]
    exact this
theorem ints_id : ∀ ns : List Int, (ns.map PyData.int).map intD = ns
  | [] => rfl
  | n :: ns => by rw [List.map_cons, List.map_cons, ints_id ns]; rfl
theorem ruleOf_str (s : Str) (d : PyData) : ruleOf (.str s) d = if s = "table" then (if areRows d then some (.tab (rowsD d)) else none) else if s = "terms" then (if areTerms d then some (.trm (termsD d)) else none) else none := rfl
theorem ruleOf_table (d : PyData) : ruleOf (.str "table") d = if areRows d then some (.tab (rowsD d)) else none := by
  rw [ruleOf_str, if_pos rfl]
theorem ruleOf_terms (d : PyData) : ruleOf (.str "terms") d = if areTerms d then some (.trm (termsD d)) else none := by
  rw [ruleOf_str, if_neg (show ¬ ("terms" : Str) = "table" from by decide +kernel), if_pos rfl]
/-- what is a rule is told back -/
theorem ruleOf_body {r : R} (ok : r.ok) : ruleOf (.str r.kind) r.body = some r := by
  cases r with
  | tab rows =>
    obtain ⟨h1, h2, h3⟩ := ok
    have ha : areRows (R.tab rows).body = true := by
      simp only [R.body, areRows, List.length_map]
      rw [decide_eq_true h1, decide_eq_true h2]
      simp only [Bool.true_and, List.all_eq_true, List.mem_range]
      intro i hi
      rw [List.getD_eq_getElem?_getD, List.getElem?_map, List.getElem?_eq_getElem hi]
      obtain ⟨h4, h5⟩ := h3 i _ (List.getElem?_eq_getElem hi)
      simp only [Option.map_some, Option.getD_some, rowOk, List.length_map]
      rw [ints_all h5, decide_eq_true h4]
      rfl
    have hb : rowsD (R.tab rows).body = rows := by
      simp only [R.body, rowsD, List.map_map]
      conv => rhs; rw [← List.map_id rows]
      exact List.map_congr_left fun r _ => ints_id r
    show ruleOf (.str "table") _ = _
    rw [ruleOf_table, if_pos ha, hb]
  | trm ts =>
    obtain ⟨h1, h2⟩ := ok
    have hd : ∀ t ∈ ts, termD (.tuple ((tri t).map PyData.int)) = t := fun t _ => by
      obtain ⟨n, i, j⟩ := t
      simp [termD, intsD, tri, intD]
    have ha : areTerms (R.trm ts).body = true := by
      simp only [R.body, areTerms, List.length_map, List.all_map, Bool.and_eq_true, decide_eq_true_eq, List.all_eq_true]
      refine ⟨h1, fun t ht => ?_⟩
      have := h2 t ht
      simp only [Function.comp, tri, List.map_cons, List.map_nil, isTerm, inD, Bool.and_eq_true, decide_eq_true_eq]
      omega
    have hb : termsD (R.trm ts).body = ts := by
      simp only [R.body, termsD, List.map_map]
      conv => rhs; rw [← List.map_id ts]
      exact List.map_congr_left fun t ht => hd t ht
    show ruleOf (.str "terms") _ = _
    rw [ruleOf_terms, if_pos ha, hb]
/-- law_rule: _law_d, _law_most -/
def t__law_rule (Γ : Gm) : TS := (tSeq (tIfS (tTest (tOp (rEqU Γ.K) (tCal (sp__law_below Γ) E0 (tCons (tVar 0) (tCons (tC (.int 2)) tNil))) (tC (.int 0)))) (tRet (tMak Γ.cRule (sp_RuleU_initU Γ) E0 (tCons (tC (.str "table")) (tCons (tCal (sp__law_table Γ) E0 (tCons (tVar 0) (tCons (tVar 1) tNil))) tNil)))) tNext)
  (tRet (tMak Γ.cRule (sp_RuleU_initU Γ) E0 (tCons (tC (.str "terms")) (tCons (tCal (sp__law_terms Γ) E0 (tCons (tVar 0) tNil)) tNil)))))
theorem rd__law_rule (Γ : Gm) (vs : List V) (H : Hp) (Q : VK) (E : XK) (h : sp__law_rule Γ vs H Q E) : t__law_rule Γ ⟨fun _ H' => Q .non H', Q, fun _ _ => False, fun _ _ => False⟩ (startN 2 vs) H := by
  obtain ⟨d, m, rfl, hd, hm, hm2, q⟩ := h
  unfold t__law_rule
  walk_at "ss"
  refine w_below hd (by decide) (by decide) fun r hr1 hr2 => ?_
  walk_at "ss"
  refine w_ite (fun c => ?_) (fun c => ?_)
  · walk_at "ss"
    refine ⟨d, m, rfl, hd, hm, hm2, fun v rows H' e tv ok hl hs => ?_⟩
    refine w_mkRule (R.tab rows) tv ok (ruleOf_body ok) fun p H2 e2 hr => ?_
    exact q _ _ H2 (e.trans e2) hr ⟨hl, hs⟩
  · walk_at "ss"
    refine ⟨d, rfl, hd, fun v ts H' e tv ok => ?_⟩
    refine w_mkRule (R.trm ts) tv ok (ruleOf_body ok) fun p H2 e2 hr => ?_
    exact q _ _ H2 (e.trans e2) hr trivial
theorem k_kind {Γ : Gm} {H : Hp} {v : V} {r : R} {Q : VK} (h : RuleAt Γ H v r) (q : Q (.str r.kind) H) : kPrp Γ.cRule "form" v H Q := by
  obtain ⟨p, dx, b, rfl, h2, h3, h4⟩ := h
  exact ⟨p, dx, _, _, rfl, h2, rfl2_form _ _, q⟩
theorem k_parts {Γ : Gm} {H : Hp} {v : V} {r : R} {Q : VK} (h : RuleAt Γ H v r) (q : ∀ b xs, H b = some (.tup xs) → Tp H (.ref b) r.body → Q (.ref b) H) : kPrp Γ.cRule "body" v H Q := by
  obtain ⟨p, dx, b, rfl, h2, h3, h4⟩ := h
  refine ⟨p, dx, _, _, rfl, h2, rfl2_body _ _, ?_⟩
  cases r <;> (cases h3 with | tup h k => exact q b _ h (.tup h k))
/-- the greatest heap that a rule has points for, of at most so many things -/
def R.topm (r : R) (most : Int) : Int := match r with
  | .tab rows => if (rows.length : Int) + 1 < most then (rows.length : Int) + 1 else most
  | .trm _ => most
def sp__law_top (Γ : Gm) : Sp := fun vs H Q _ => ∃ v r m, vs = [v, .int m] ∧ RuleAt Γ H v r ∧ ∀ H', Same H H' → Q (.int (r.topm m)) H'
/-- law_top: _law_rule_here, _law_most -/
def t__law_top (Γ : Gm) : TS := (tRet (tIf (tTest (tOp (rEqU Γ.K) (tPrp Γ.cRule "form" (tVar 0)) (tC (.str "table")))) (tCB (rMin Γ.K) (tCons (tLst (tCons (tVar 1) (tCons (tOp (rAddU Γ.K) (tCB (rLen Γ.K) (tCons (tPrp Γ.cRule "body" (tVar 0)) tNil)) (tC (.int 1))) tNil))) tNil)) (tVar 1)))
theorem rd__law_top (Γ : Gm) (vs : List V) (H : Hp) (Q : VK) (E : XK) (h : sp__law_top Γ vs H Q E) : t__law_top Γ ⟨fun _ H' => Q .non H', Q, fun _ _ => False, fun _ _ => False⟩ (startN 2 vs) H := by
  obtain ⟨v, r, m, rfl, hr, q⟩ := h
  unfold t__law_top
  walk_at "ss"
  refine k_kind hr ?_
  walk_at "ss"
  rw [kind_tab]
  cases r with
  | tab rows =>
    refine w_iteT ?_
    walk_at "ss"
    refine k_parts hr fun b xs hb ht => ?_
    walk_at "ss"
    refine w_lenT (SqT.of hb) ?_
    walk_at "ss"
    obtain ⟨a, ys, z1, z2, z3⟩ := ht.inv
    cases z1
    rw [hb] at z2
    cases z2
    rw [z3.length, List.length_map]
    refine n_lst fun l H1 hl e1 g1 => ?_
    walk_at "ss"
    refine ⟨l, [m, (rows.length : Int) + 1], rfl, SqL.of g1, Nat.succ_pos _, fun x hx hle => ?_⟩
    have e : x = (R.tab rows).topm m := by
      have h1 := hle m (by simp)
      have h2 := hle ((rows.length : Int) + 1) (by simp)
      simp only [List.mem_cons, List.not_mem_nil, or_false] at hx
      simp only [R.topm]
      split <;> omega
    rw [e]
    exact q _ e1
  | trm ts =>
    refine w_iteF ?_
    walk_at "ss"
    exact q H (Same.refl H)
/-- values that are no heaps, as data -/
def noHeaps (n : Int) : List PyData := [.none, .int 0, .int (-1), .str "1", .bool true, .tuple [.int 1], .int n]
def sp__law_no_heaps (Γ : Gm) : Sp := fun vs H Q _ => ∃ v r m, vs = [v, .int m] ∧ RuleAt Γ H v r ∧ ∀ l xs H', Same H H' → H l = none → H' l = some (.lst xs) → TpAll H' xs (noHeaps (r.topm m + 1)) → Q (.ref l) H'
/-- law_no_heaps: _law_rule_here, _law_most -/
def t__law_no_heaps (Γ : Gm) : TS := (tRet (tLst (tCons (tC .non) (tCons (tC (.int 0)) (tCons (tUn (rU fun i => .int (-i)) (tC (.int 1))) (tCons (tC (.str "1")) (tCons (tC (.bl true)) (tCons (tTup (tCons (tC (.int 1)) tNil)) (tCons (tOp (rAddU Γ.K) (tCal (sp__law_top Γ) E0 (tCons (tVar 0) (tCons (tVar 1) tNil))) (tC (.int 1))) tNil)))))))))
theorem rd__law_no_heaps (Γ : Gm) (vs : List V) (H : Hp) (Q : VK) (E : XK) (h : sp__law_no_heaps Γ vs H Q E) : t__law_no_heaps Γ ⟨fun _ H' => Q .non H', Q, fun _ _ => False, fun _ _ => False⟩ (startN 2 vs) H := by
  obtain ⟨v, r, m, rfl, hr, q⟩ := h
  unfold t__law_no_heaps
  walk_at "ss"
  refine n_tup fun t H1 ht e1 g1 => ?_
  walk_at "ss"
  refine ⟨v, r, m, rfl, hr.mono e1, fun H2 e2 => ?_⟩
  walk_at "ss"
  refine n_lst fun l H3 hl e3 g3 => ?_
  refine q l _ H3 (e1.trans (e2.trans e3)) ((e1.trans e2).free hl) g3 (.cons .non (.cons (.int 0) (.cons (.int (-1)) (.cons (.str _) (.cons (.bl true) (.cons (.tup ((e2.trans e3) _ _ g1) (.cons (.int 1) .nil)) (.cons (.int _) .nil)))))))

/-! ### equal and of the same kind at every level: asked of equal data alone -/
mutual
/-- data without dicts, nested less deep than n -/
def flatN : Nat → PyData → Bool
  | 0, _ => false
  | _ + 1, .none => true
  | _ + 1, .bool _ => true
  | _ + 1, .int _ => true
  | _ + 1, .str _ => true
  | n + 1, .list ds => decide (ds.length ≤ 100000) && flatAll n ds
  | n + 1, .tuple ds => decide (ds.length ≤ 100000) && flatAll n ds
  | _ + 1, .dict _ => false
def flatAll : Nat → List PyData → Bool
  | _, [] => true
  | n, d :: ds => flatN n d && flatAll n ds
end
theorem flatAll_get : ∀ {ds : List PyData} {n i : Nat} {d : PyData}, flatAll n ds = true → ds[i]? = some d → flatN n d = true
  | [], _, _, _, _, h => by simp at h
  | d :: ds, n, 0, _, h, e => by
    cases e
    unfold flatAll at h
    exact (Bool.and_eq_true_iff.mp h).1
  | d :: ds, n, i + 1, _, h, e => by
    unfold flatAll at h
    exact flatAll_get (Bool.and_eq_true_iff.mp h).2 (by simpa using e)
def spn__law_equal (Γ : Gm) (n : Nat) : Sp := fun vs H Q _ => ∃ x y d, vs = [x, y] ∧ Dv H x d ∧ Dv H y d ∧ flatN n d = true ∧ ∀ H', Same H H' → Q (.bl true) H'
def sp__law_equal (Γ : Gm) : Sp := spn__law_equal Γ 45
/-- law_equal: _law_actual, _law_expected, _law_key, _law_k -/
def t__law_equal (Γ : Gm) (n : Nat) : TS := (tSeq (tIfS (tTest (tOp rIsU (tVar 1) (tC .non))) (tRet (tOp rIsU (tVar 0) (tC .non))) tNext)
  (tSeq (tIfS (tB (tCB (rIsi Γ.K) (tCons (tVar 1) (tCons (tC (.ty "bool")) tNil)))) (tRet (tAndV (tCB (rIsi Γ.K) (tCons (tVar 0) (tCons (tC (.ty "bool")) tNil))) (tOp (rEqU Γ.K) (tVar 0) (tVar 1)))) tNext)
  (tSeq (tIfS (tB (tCB (rIsi Γ.K) (tCons (tVar 1) (tCons (tC (.ty "int")) tNil)))) (tRet (tAndV (tCB (rIsi Γ.K) (tCons (tVar 0) (tCons (tC (.ty "int")) tNil))) (tAndV (tNotV (tCB (rIsi Γ.K) (tCons (tVar 0) (tCons (tC (.ty "bool")) tNil)))) (tOp (rEqU Γ.K) (tVar 0) (tVar 1))))) tNext)
  (tSeq (tIfS (tB (tCB (rIsi Γ.K) (tCons (tVar 1) (tCons (tC (.ty "str")) tNil)))) (tRet (tAndV (tCB (rIsi Γ.K) (tCons (tVar 0) (tCons (tC (.ty "str")) tNil))) (tOp (rEqU Γ.K) (tVar 0) (tVar 1)))) tNext)
  (tSeq (tIfS (tB (tCB (rIsi Γ.K) (tCons (tVar 1) (tCons (tC (.ty "dict")) tNil)))) tNever tNext)
  (tSeq (tIfS (tTest (tOp (rNeU Γ.K) (tCB (rIsi Γ.K) (tCons (tVar 1) (tCons (tC (.ty "tuple")) tNil))) (tCB (rIsi Γ.K) (tCons (tVar 0) (tCons (tC (.ty "tuple")) tNil))))) (tRet (tC (.bl false))) tNext)
  (tSeq (tIfS (tTest (tOp (rNeU Γ.K) (tCB (rIsi Γ.K) (tCons (tVar 1) (tCons (tC (.ty "list")) tNil))) (tCB (rIsi Γ.K) (tCons (tVar 0) (tCons (tC (.ty "list")) tNil))))) (tRet (tC (.bl false))) tNext)
  (tSeq (tIfS (tTest (tOp (rNeU Γ.K) (tCB (rLen Γ.K) (tCons (tVar 0) tNil)) (tCB (rLen Γ.K) (tCons (tVar 1) tNil)))) (tRet (tC (.bl false))) tNext)
  (tRet (tCB (rAll Γ.K) (tCons (tLc (iRng1 (tCons (tCB (rLen Γ.K) (tCons (tVar 1) tNil)) tNil)) (gName 3) tYes (tCal (spn__law_equal Γ n) E0 (tCons (tOp (rIx Γ.K) (tVar 0) (tVar 3)) (tCons (tOp (rIx Γ.K) (tVar 1) (tVar 3)) tNil))) [3]) tNil)))))))))))
theorem rd0__law_equal (Γ : Gm) (vs : List V) (H : Hp) (Q : VK) (E : XK) (h : spn__law_equal Γ 0 vs H Q E) : False := by
  obtain ⟨x, y, d, _, _, _, h, _⟩ := h
  unfold flatN at h
  cases h
theorem isN_false {x : V} (h : x ≠ .non) : decide (x = V.non) = false := decide_eq_false h
theorem rd__law_equal (Γ : Gm) (n : Nat) (vs : List V) (H : Hp) (Q : VK) (E : XK) (h : spn__law_equal Γ (n + 1) vs H Q E) : t__law_equal Γ n ⟨fun _ H' => Q .non H', Q, fun _ _ => False, fun _ _ => False⟩ (startN 4 vs) H := by
  obtain ⟨x, y, d, rfl, hx, hy, hf, k⟩ := h
  have kk := k H (Same.refl H)
  unfold t__law_equal
  walk_at "ss"
  -- None
  by_cases dn : d = .none
  · subst dn
    cases hx
    cases hy
    rw [decide_eq_true rfl]
    walk_at "ss"
    rw [decide_eq_true rfl]
    exact kk
  have yn : y ≠ .non := by
    rintro rfl
    cases hy
    exact dn rfl
  rw [isN_false yn]
  walk_at "ss"
  refine w_isi hy.tag (by decide) ?_
  rw [hy.ty]
  walk_at "ss"
  refine w_ite (fun e => ?_) (fun e => ?_)
  · -- a truth value
    cases d with
    | bool b =>
      cases hx
      cases hy
      walk_at "ss"
      refine w_isi (.bl b) (by decide) ?_
      walk_at "ss"
      rw [if_pos (show isTy H "bool" (.bl b) = true from by simp [isTy, tyN, tyTab])]
      walk_at "ss"
      rw [decide_eq_true rfl]
      exact kk
    | _ => simp [tyD, tyTab] at e
  walk_at "ss"
  refine w_isi hy.tag (by decide) ?_
  rw [hy.ty]
  walk_at "ss"
  refine w_ite (fun e2 => ?_) (fun e2 => ?_)
  · cases d with
    | int b =>
      cases hx
      cases hy
      walk_at "ss"
      refine w_isi (.int b) (by decide) ?_
      walk_at "ss"
      rw [if_pos (show isTy H "int" (.int b) = true from by simp [isTy, tyN, tyTab])]
      walk_at "ss"
      refine w_isi (.int b) (by decide) ?_
      walk_at "ss"
      rw [if_pos (show (!isTy H "bool" (.int b)) = true from by simp [isTy, tyN, tyTab])]
      walk_at "ss"
      rw [decide_eq_true rfl]
      exact kk
    | bool b => simp [tyD, tyTab] at e
    | _ => simp [tyD, tyTab] at e2
  walk_at "ss"
  refine w_isi hy.tag (by decide) ?_
  rw [hy.ty]
  walk_at "ss"
  refine w_ite (fun e3 => ?_) (fun e3 => ?_)
  · cases d with
    | str b =>
      cases hx
      cases hy
      walk_at "ss"
      refine w_isi (.str b) (by decide) ?_
      walk_at "ss"
      rw [if_pos (show isTy H "str" (.str b) = true from by simp [isTy, tyN, tyTab])]
      walk_at "ss"
      rw [decide_eq_true rfl]
      exact kk
    | _ => simp [tyD, tyTab] at e3
  walk_at "ss"
  refine w_isi hy.tag (by decide) ?_
  rw [hy.ty]
  walk_at "ss"
  have ndict : tyTab (tyD d) "dict" = false := by
    cases d with
    | dict kvs => unfold flatN at hf; cases hf
    | _ => simp [tyD, tyTab]
  rw [ndict]
  walk_at "ss"
  -- a tuple or a list
  have main : ∀ (a b : Addr) (xs ys : List V) (ds : List PyData), x = .ref a → y = .ref b → (SqL Γ.K H a xs ∨ SqT Γ.K H a xs) → (SqL Γ.K H b ys ∨ SqT Γ.K H b ys) → DvAll H xs ds → DvAll H ys ds → ds.length ≤ 100000 → flatAll n ds = true →
      (tSeq (tIfS (tTest (tOp (rNeU Γ.K) (tCB (rLen Γ.K) (tCons (tVar 0) tNil)) (tCB (rLen Γ.K) (tCons (tVar 1) tNil)))) (tRet (tC (.bl false))) tNext)
      (tRet (tCB (rAll Γ.K) (tCons (tLc (iRng1 (tCons (tCB (rLen Γ.K) (tCons (tVar 1) tNil)) tNil)) (gName 3) tYes (tCal (spn__law_equal Γ n) E0 (tCons (tOp (rIx Γ.K) (tVar 0) (tVar 3)) (tCons (tOp (rIx Γ.K) (tVar 1) (tVar 3)) tNil))) [3]) tNil)))) ⟨fun _ H' => Q .non H', Q, fun _ _ => False, fun _ _ => False⟩ (startN 4 [x, y]) H := by
    rintro a b xs ys ds rfl rfl ha hb hxs hys hsz hfa
    have len : ∀ {c : Addr} {zs : List V} {R : VK}, (SqL Γ.K H c zs ∨ SqT Γ.K H c zs) → R (.int (zs.length : Int)) H → rLen Γ.K [.ref c] H R := fun h q => h.elim (fun h => w_lenL h q) (fun h => w_lenT h q)
    have hxl := hxs.length
    have hyl := hys.length
    walk_at "ss"
    refine len ha ?_
    walk_at "ss"
    refine len hb ?_
    walk_at "ss"
    rw [hxl, hyl, decide_eq_true rfl]
    walk_at "ss"
    refine len hb ?_
    walk_at "ss"
    refine k_rng1 (by omega) ?_
    refine k_lcRange (fun i acc H' => acc = (List.replicate i true).map V.bl) (fun _ _ => rfl) ?_ ?_
    · rintro i D acc H2 hi hD e4 hacc rfl
      have hi' : i < ds.length := by omega
      have hdi := List.getElem?_eq_getElem hi'
      obtain ⟨xi, hxi, dxi⟩ := hxs.get hdi
      obtain ⟨yi, hyi, dyi⟩ := hys.get hdi
      walk_at "ss"
      refine ⟨rfl, ?_⟩
      walk_at "ss"
      have at_ : ∀ {c : Addr} {zs : List V} {z : V} {R : VK}, (SqL Γ.K H c zs ∨ SqT Γ.K H c zs) → zs[i]? = some z → R z H2 → rIx Γ.K (.ref c) (.int (0 + (i : Int))) H2 R := fun h g q => h.elim (fun h => w_ixL (e4.seq h) (atI_of (by omega) (by rw [Int.zero_add]; exact g)) q) (fun h => w_ixT (e4.seqT h) (atI_of (by omega) (by rw [Int.zero_add]; exact g)) q)
      refine at_ ha hxi ?_
      walk_at "ss"
      refine at_ hb hyi ?_
      walk_at "ss"
      refine ⟨xi, yi, _, rfl, dxi.mono e4, dyi.mono e4, flatAll_get hfa hdi, fun H3 e5 => ?_⟩
      refine lcTurn.mk hD (e4.trans e5) (e5 _ _ hacc) (by rw [List.length_map, List.length_replicate]; omega) ?_
      rw [List.replicate_succ', List.map_append]
      rfl
    · rintro D acc H2 hD e4 hacc rfl
      walk_at "ss"
      refine w_all (SqL.of hacc) ?_
      have er : ∀ m : Nat, (List.replicate m true).all id = true := fun m => by
        induction m with
        | zero => rfl
        | succ m ih => rw [List.replicate_succ, List.all_cons, ih]; rfl
      rw [er]
      exact k H2 e4
  unfold flatN at hf
  cases d with
  | list ds =>
    rw [Bool.and_eq_true, decide_eq_true_eq] at hf
    cases hx with
    | lst gx hxs =>
      cases hy with
      | lst gy hys =>
        refine w_isi (.lst gy) (by decide) ?_
        walk_at "ss"
        refine w_isi (.lst gx) (by decide) ?_
        walk_at "ss"
        rw [show isTy H "tuple" _ = false from by simp [isTy, tyN, tyTab, gy], show isTy H "tuple" _ = false from by simp [isTy, tyN, tyTab, gx]]
        rw [decide_eq_true rfl]
        walk_at "ss"
        refine w_isi (.lst gy) (by decide) ?_
        walk_at "ss"
        refine w_isi (.lst gx) (by decide) ?_
        walk_at "ss"
        rw [show isTy H "list" _ = true from by simp [isTy, tyN, tyTab, gy], show isTy H "list" _ = true from by simp [isTy, tyN, tyTab, gx]]
        rw [decide_eq_true rfl]
        refine w_iteNT ?_
        exact main _ _ _ _ ds rfl rfl (.inl (SqL.of gx)) (.inl (SqL.of gy)) hxs hys hf.1 hf.2
  | tuple ds =>
    rw [Bool.and_eq_true, decide_eq_true_eq] at hf
    cases hx with
    | tup gx hxs =>
      cases hy with
      | tup gy hys =>
        refine w_isi (.tup gy) (by decide) ?_
        walk_at "ss"
        refine w_isi (.tup gx) (by decide) ?_
        walk_at "ss"
        rw [show isTy H "tuple" _ = true from by simp [isTy, tyN, tyTab, gy], show isTy H "tuple" _ = true from by simp [isTy, tyN, tyTab, gx]]
        rw [decide_eq_true rfl]
        walk_at "ss"
        refine w_isi (.tup gy) (by decide) ?_
        walk_at "ss"
        refine w_isi (.tup gx) (by decide) ?_
        walk_at "ss"
        rw [show isTy H "list" _ = false from by simp [isTy, tyN, tyTab, gy], show isTy H "list" _ = false from by simp [isTy, tyN, tyTab, gx]]
        rw [decide_eq_true rfl]
        refine w_iteNT ?_
        exact main _ _ _ _ ds rfl rfl (.inr (SqT.of gx)) (.inr (SqT.of gy)) hxs hys hf.1 hf.2
  | none => exact absurd rfl dn
  | bool b => simp [tyD, tyTab] at e
  | int b => simp [tyD, tyTab] at e2
  | str b => simp [tyD, tyTab] at e3
  | dict b => cases hf

/-! ### points -/
def splitOk (r : R) (a b : PyData) : Bool := inD 1 r.top a && inD 1 r.top b && decide (intD a + intD b ≤ r.top)
def sp_points (Γ : Gm) : Sp := fun vs H Q E => ∃ v r x y a b, vs = [v, x, y] ∧ RuleAt Γ H v r ∧ Dv H x a ∧ Dv H y b ∧ (splitOk r a b = false → E (.ref Γ.cBadSplit) none H) ∧ (splitOk r a b = true → ∀ H', Same H H' → Q (.int (r.pts (intD a) (intD b))) H')
theorem inD_int {lo hi : Int} {d : PyData} (h : inD lo hi d = true) : ∃ n, d = .int n ∧ lo ≤ n ∧ n ≤ hi := by
  cases d with
  | int n =>
    simp only [inD, Bool.and_eq_true, decide_eq_true_eq] at h
    exact ⟨n, rfl, h⟩
  | _ => simp [inD] at h
theorem dv_int {H : Hp} {x : V} {n : Int} (h : Dv H x (.int n)) : x = .int n := by cases h; rfl
/-- points: rule, first, second, top -/
def t_points (Γ : Gm) (E : XK) : TS := (tSeq (tAsg (tCal (sp_most_of Γ) E0 (tCons (tVar 0) tNil)) (gName 3))
  (tSeq (tIfS (tOr (tNot (tB (tCal (sp_is_from Γ) E0 (tCons (tVar 1) (tCons (tC (.int 1)) (tCons (tVar 3) tNil)))))) (tOr (tNot (tB (tCal (sp_is_from Γ) E0 (tCons (tVar 2) (tCons (tC (.int 1)) (tCons (tVar 3) tNil)))))) (tTest (tOp rGt (tOp (rAddU Γ.K) (tVar 1) (tVar 2)) (tVar 3))))) (tRaise Γ.cBadSplit (fun cls d _ H => E cls d H)) tNext)
  (tRet (tCal (sp_points_by Γ) E0 (tCons (tVar 0) (tCons (tVar 1) (tCons (tVar 2) tNil)))))))
theorem rd_points (Γ : Gm) (vs : List V) (H : Hp) (Q : VK) (E : XK) (h : sp_points Γ vs H Q E) : t_points Γ E ⟨fun _ H' => Q .non H', Q, fun _ _ => False, fun _ _ => False⟩ (startN 4 vs) H := by
  obtain ⟨v, r, x, y, a, b, rfl, hr, hx, hy, k1, k2⟩ := h
  unfold t_points
  walk_at "ss"
  refine ⟨v, r, rfl, hr, ?_⟩
  walk_at "ss"
  refine ⟨x, _, _, rfl, hx.tag, ?_⟩
  rw [hx.inR]
  walk_at "ss"
  refine w_ite (fun e => ?_) (fun e => ?_)
  · walk_at "ss"
    refine k1 ?_
    have e' : inD 1 r.top a = false := by simpa using e
    unfold splitOk
    rw [e', Bool.false_and, Bool.false_and]
  have e' : inD 1 r.top a = true := by simpa using e
  walk_at "ss"
  refine ⟨y, _, _, rfl, hy.tag, ?_⟩
  rw [hy.inR]
  walk_at "ss"
  refine w_ite (fun e2 => ?_) (fun e2 => ?_)
  · walk_at "ss"
    refine k1 ?_
    have e2' : inD 1 r.top b = false := by simpa using e2
    unfold splitOk
    rw [e2', Bool.and_false, Bool.false_and]
  have e2' : inD 1 r.top b = true := by simpa using e2
  obtain ⟨m, rfl, m1, m2⟩ := inD_int e'
  obtain ⟨n, rfl, n1, n2⟩ := inD_int e2'
  have ex := dv_int hx
  have ey := dv_int hy
  subst ex ey
  walk_at "ss"
  refine w_ite (fun e3 => ?_) (fun e3 => ?_)
  · walk_at "ss"
    refine k1 ?_
    unfold splitOk
    rw [Bool.and_eq_false_iff]
    right
    have := of_decide_eq_true e3
    exact decide_eq_false (show ¬ (m + n ≤ r.top) by omega)
  · have h3 := of_decide_eq_false e3
    walk_at "ss"
    refine ⟨v, r, m, n, rfl, hr, m1, n1, by omega, ?_⟩
    refine k2 ?_
    unfold splitOk
    rw [e', e2']
    show (true && true && decide (m + n ≤ r.top)) = true
    rw [decide_eq_true (by omega)]
    rfl
/-! ### the law's own points -/
def sp__law_points (Γ : Gm) : Sp := fun vs H Q _ => ∃ v r a b, vs = [v, .int a, .int b] ∧ RuleAt Γ H v r ∧ 1 ≤ a ∧ 1 ≤ b ∧ a + b ≤ r.top ∧ Q (.int (r.pts a b)) H
/-- law_points: _law_rule_here, _law_one, _law_other, _law_found, _law_number, _law_i, _law_j, _law_k -/
def t__law_points (Γ : Gm) : TS := (tSeq (tIfS (tTest (tOp (rEqU Γ.K) (tPrp Γ.cRule "form" (tVar 0)) (tC (.str "table")))) (tRet (tOp (rIx Γ.K) (tOp (rIx Γ.K) (tPrp Γ.cRule "body" (tVar 0)) (tOp rSubI (tVar 1) (tC (.int 1)))) (tOp rSubI (tVar 2) (tC (.int 1))))) tNext)
  (tSeq (tAsg (tC (.int 0)) (gName 3))
  (tSeq (tFor (iSeq Γ.K (tPrp Γ.cRule "body" (tVar 0))) (gTup Γ.K 3 (gCons (gName 4) (gCons (gName 5) (gCons (gName 6) gNil)))) (tSeq (tFor (iRng1 (tCons (tVar 5) tNil)) (gName 7) (tAsg (tOp (rMulU Γ.K) (tVar 4) (tVar 1)) (gName 4)))
  (tSeq (tFor (iRng1 (tCons (tVar 6) tNil)) (gName 7) (tAsg (tOp (rMulU Γ.K) (tVar 4) (tVar 2)) (gName 4)))
  (tAsg (tOp (rAddU Γ.K) (tVar 3) (tVar 4)) (gName 3)))))
  (tRet (tVar 3)))))
theorem rd__law_points (Γ : Gm) (vs : List V) (H : Hp) (Q : VK) (E : XK) (h : sp__law_points Γ vs H Q E) : t__law_points Γ ⟨fun _ H' => Q .non H', Q, fun _ _ => False, fun _ _ => False⟩ (startN 8 vs) H := by
  obtain ⟨v, r, a, b, rfl, hr, ha, hb, hs, q⟩ := h
  unfold t__law_points
  walk_at "ss"
  refine k_kind hr ?_
  walk_at "ss"
  rw [kind_tab]
  have hok : r.ok := by obtain ⟨_, _, _, _, _, _, h⟩ := hr; exact h
  cases r with
  | tab rows =>
    refine w_iteT ?_
    walk_at "ss"
    refine k_parts hr fun bb xs hx ht => ?_
    obtain ⟨row, e1, e2⟩ := tab_at hok ha hb hs
    obtain ⟨a', ys, z1, z2, z3⟩ := ht.inv
    cases z1
    rw [hx] at z2
    cases z2
    obtain ⟨w, hw, tw⟩ := z3.get (i := (a - 1).toNat) (d := .tuple (row.map PyData.int)) (by rw [List.getElem?_map, e1]; rfl)
    obtain ⟨c, zs, rfl, hc, tc⟩ := tw.inv
    walk_at "ss"
    refine w_ixT (SqT.of hx) (atI_of (by omega) hw) ?_
    walk_at "ss"
    have ez := tc.ints
    subst ez
    refine w_ixT (SqT.of hc) (atI_of (by omega) (by rw [List.getElem?_map, e2]; rfl)) ?_
    exact q
  | trm ts =>
    refine w_iteF ?_
    walk_at "ss"
    refine k_parts hr fun bb xs hx ht => ?_
    obtain ⟨a', ys, z1, z2, z3⟩ := ht.inv
    cases z1
    rw [hx] at z2
    cases z2
    refine k_seqT (SqT.of hx) ?_
    have hlen : xs.length = ts.length := by rw [z3.length, List.length_map]
    refine k_tup (xs := xs) (fun i σ H' => ∃ x4 x5 x6 x7, σ = [some v, some (.int a), some (.int b), some (.int ((ts.take i).map (tval a b)).sum), x4, x5, x6, x7] ∧ H' = H) ⟨none, none, none, none, rfl, rfl⟩ (fun i σ H' _ ⟨_, _, _, _, _, e⟩ => by rw [e]; exact SqT.of hx) ?_ ?_
    · rintro i x σ H' hi ⟨x4, x5, x6, x7, rfl, rfl⟩
      obtain ⟨d, hd, tx⟩ := z3.get' hi
      rw [List.getElem?_map] at hd
      obtain ⟨t, ht', rfl⟩ := Option.map_eq_some_iff.mp hd
      obtain ⟨c, zs, rfl, hc, tc⟩ := tx.inv
      have ez := tc.ints
      subst ez
      obtain ⟨n, i1, j1⟩ := t
      refine w_gTup (xs := [V.int n, V.int i1, V.int j1]) (SqT.of hc) rfl ?_
      walk_at "ss"
      obtain ⟨hl6, hb6⟩ := hok
      have hm := hb6 _ (List.mem_of_getElem? ht')
      dsimp only at hm
      have top : a + b ≤ 1000000000000000000000000000000 := hs
      have ba : a.natAbs ≤ 2 ^ 100 := by omega
      have bb' : b.natAbs ≤ 2 ^ 100 := by omega
      have n1 : n.natAbs ≤ 2 ^ 20 := by omega
      refine k_rng1 (by omega) ?_
      refine k_range (fun k σ H1 => ∃ x7, σ = [some v, some (.int a), some (.int b), some (.int ((ts.take i).map (tval a b)).sum), some (.int (n * a ^ k)), some (.int i1), some (.int j1), x7] ∧ H1 = H') ⟨x7, by rw [Int.pow_zero, Int.mul_one]; rfl, rfl⟩ ?_ ?_
      · rintro k σ H1 hk ⟨x7', rfl, rfl⟩
        have hk' : k < i1 := by simpa using hk
        have k1 : 100 * k ≤ 100 * 4 := Nat.mul_le_mul_left _ (by omega)
        walk_at "ss"
        refine w_mulI (cmul_of (mul_nat n1 (pow_nat ba)) ba) ?_
        walk_at "ss"
        exact ⟨_, by rw [Int.pow_succ, ← Int.mul_assoc]; rfl, rfl⟩
      · rintro σ H1 ⟨x7', rfl, rfl⟩
        walk_at "ss"
        refine k_rng1 (by omega) ?_
        have ei : (i1 : Int).toNat = i1 := Int.toNat_natCast i1
        rw [ei]
        refine k_range (fun k σ H2 => ∃ x7, σ = [some v, some (.int a), some (.int b), some (.int ((ts.take i).map (tval a b)).sum), some (.int (n * a ^ i1 * b ^ k)), some (.int i1), some (.int j1), x7] ∧ H2 = H1) ⟨x7', by rw [Int.pow_zero, Int.mul_one], rfl⟩ ?_ ?_
        · rintro k σ H2 hk ⟨x7'', rfl, rfl⟩
          have hk' : k < j1 := by simpa using hk
          have k1 : 100 * k ≤ 100 * 4 := Nat.mul_le_mul_left _ (by omega)
          have k2 : 100 * i1 ≤ 100 * 4 := Nat.mul_le_mul_left _ (by omega)
          walk_at "ss"
          refine w_mulI (cmul_of (mul_nat (mul_nat n1 (pow_nat ba)) (pow_nat bb')) bb') ?_
          walk_at "ss"
          exact ⟨_, by rw [Int.pow_succ, ← Int.mul_assoc]; rfl, rfl⟩
        · rintro σ H2 ⟨x7'', rfl, rfl⟩
          have ej : (j1 : Int).toNat = j1 := Int.toNat_natCast j1
          rw [ej]
          walk_at "ss"
          have es : ((ts.take (i + 1)).map (tval a b)).sum = ((ts.take i).map (tval a b)).sum + n * a ^ i1 * b ^ j1 := by
            rw [take_succ ht', List.map_append, List.sum_append]
            simp only [List.map_cons, List.map_nil, List.sum_cons, List.sum_nil, Int.add_zero, tval]
          rw [es]
          exact ⟨_, _, _, _, rfl, rfl⟩
    · rintro σ H' ⟨x4, x5, x6, x7, rfl, rfl⟩
      rw [hlen, List.take_length]
      walk_at "ss"
      exact q
/-! ### a law's promise -/
def spLaw (K : PySem.W.Frag) : Sp := fun vs H Q _ => ∃ (a : Addr) (ns : List Int), vs = [.ref a] ∧ SqL K H a (ns.map V.int) ∧ ns.length ≤ 63 ∧ ∀ H', Q (.bl true) H'
theorem mem_of {xs : List V} {ds : List PyData} {H : Hp} {i : Nat} {x : V} (t : TpAll H xs ds) (h : xs[i]? = some x) : ∃ d ∈ ds, Tp H x d := by
  obtain ⟨d, hd, td⟩ := t.get' h
  exact ⟨d, List.mem_of_getElem? hd, td⟩
theorem topm_top {r : R} (ok : r.ok) : r.topm 1000000000000000000000000000000 = r.top := by
  cases r with
  | tab rows =>
    obtain ⟨_, h, _⟩ := ok
    simp only [R.topm, R.top]
    rw [if_pos (by omega)]
  | trm ts => rfl
theorem RuleAt.ok {Γ : Gm} {H : Hp} {v : V} {r : R} (h : RuleAt Γ H v r) : r.ok := by obtain ⟨_, _, _, _, _, _, h⟩ := h; exact h
theorem top_ge {r : R} (ok : r.ok) : 2 ≤ r.top ∧ r.top ≤ 1000000000000000000000000000000 := by
  cases r with
  | tab rows =>
    obtain ⟨h1, h, _⟩ := ok
    have : (R.tab rows).top = (rows.length : Int) + 1 := rfl
    omega
  | trm ts => exact (by decide : (2 : Int) ≤ 1000000000000000000000000000000 ∧ (1000000000000000000000000000000 : Int) ≤ 1000000000000000000000000000000)
theorem w_min {K : PySem.W.Frag} {H : Hp} {Q : VK} {a : Addr} {ns : List Int} (h : H a = some (.lst (ns.map V.int))) (h0 : 0 < ns.length) (k : ∀ m, m ∈ ns → (∀ y, y ∈ ns → m ≤ y) → Q (.int m) H) : rMin K [.ref a] H Q := ⟨a, ns, rfl, SqL.of h, h0, k⟩
theorem w_max {K : PySem.W.Frag} {H : Hp} {Q : VK} {a : Addr} {ns : List Int} (h : H a = some (.lst (ns.map V.int))) (h0 : 0 < ns.length) (k : ∀ m, m ∈ ns → (∀ y, y ∈ ns → y ≤ m) → Q (.int m) H) : rMax K [.ref a] H Q := ⟨a, ns, rfl, SqL.of h, h0, k⟩
theorem w_equal {Γ : Gm} {H : Hp} {Q : VK} {x y : V} {d : PyData} {E : XK} (hx : Dv H x d) (hy : Dv H y d) (hf : flatN 45 d = true) (k : ∀ H', Same H H' → Q (.bl true) H') : sp__law_equal Γ [x, y] H Q E := ⟨x, y, d, rfl, hx, hy, hf, k⟩

/-! ### len of an instance of an own class -/
def rLenO (C : Addr) (sp : Sp) (xs : List V) (H : Hp) (Q : VK) : Prop := ∃ a dx fs, xs = [.ref a] ∧ H a = some (.ins C dx fs) ∧ sp [.ref a] H (fun v H' => ∃ n : Int, v = .int n ∧ 0 ≤ n ∧ n < 2 ^ 63 ∧ Q (.int n) H') E0
theorem call_lenO {X : Cx} {C : Addr} {k : Nat} {ps : List Str} {sp : Sp} (c : CalM X.prog X.w X.K X.mg X.base CX0 C "__len__" k ps sp) (hr : Room (k + 1) X.A) : CallR X (.builtin "len") (rLenO C sp) := by
  obtain ⟨f, fd, F, hm, hb⟩ := c.ex
  intro pins s σ H xs us Q I rv h
  obtain ⟨a, dx, fs, rfl, ha, q⟩ := h
  obtain _ | ⟨r, rs⟩ := rv
  cases rs
  cases r
  refine wpAny_call (codeAny_call_builtin (b := PySem.Builtin.len) (by decide) entry_len ?_)
  show wpAny _ _ (pure ()) _ _ _
  refine wpAny_pure ?_
  have hi : ∃ ox od, PySem.W.InstAt s.heap a ox C od := by
    have z := I.hok a _ ha
    simp only [L2.ObjOk] at z
    obtain ⟨_, _, _, z1, mA, z2, _⟩ := z
    obtain ⟨od, hod⟩ : ∃ od, s.heap.get? dx = some od := by
      obtain ⟨o, _, _, e, _⟩ := z2
      exact ⟨o, e⟩
    exact ⟨_, some od, z1, rfl, rfl, hod⟩
  obtain ⟨ox, od, hi⟩ := hi
  show wpAny _ _ (callSpecial? (Value.ref a) "__len__" >>= _) _ _ _
  refine wpAny_bind (PySem.W.special_fn I.kIn hi hm.at_ (beq_iff_eq.mp hm.fn) ?_)
  have hl : (Value.ref a :: ([] : List Value)).length = ps.length := (F.len _ _ _ _ q).symm ▸ rfl
  have hbb := hb _ [Value.ref a] I.kIn hl
  rw [List.append_nil] at hbb
  refine wpAny_call (codeAny_mono (F.run _ X.stack _ _ ⟨[Value.ref a], []⟩ [Value.ref a] [.ref a] _ E0 hr.in1 I.env0.in1 hbb (Paired.cons (show L2.RelV (.ref a) (.ref a) from rfl) .nil) q) fun r s' hq' => ?_)
  cases r with
  | error e => exact False.elim hq'
  | ok fl =>
    cases fl with
    | ret u =>
      obtain ⟨v, H', I3, rv, n, rfl, h1, h2, q3⟩ := I.after hq'
      obtain ⟨t, rfl⟩ := rv
      show wpAny _ _ (holding [_] _ >>= _) _ _ _
      refine wpAny_bind (wpAny_holding ?_)
      refine wpAny_bind (wpAny_pure ?_)
      show wpAny _ _ (pure n) _ _ _
      refine wpAny_pure ?_
      refine wpAny_bind (wpAny_letGo ?_)
      show wpAny _ _ (if n < 0 then _ else (if n ≥ 2 ^ 63 then _ else retInt n)) _ _ _
      rw [if_neg (by omega), if_neg (by omega)]
      refine wpAny_bind (wpAny_mkInt ?_)
      show wpAny _ _ (pure _) _ _ _
      refine wpAny_pure ?_
      exact ⟨.int n, H', I3.tok _, ⟨_, rfl⟩, q3⟩
    | next => exact False.elim hq'
    | brk => exact False.elim hq'
    | cont => exact False.elim hq'
/-! ### a property whose getter is any def -/
structure CalQ (P : Program) (w : World) (K : PySem.W.Frag) (mg : Str → Option Value) (base : Heap) (C : Addr) (f : Str) (k : Nat) (sp : Sp) : Prop where
  cls : Cls K C
  ex : ∃ (p g : Addr) (fd : FuncData), PropOf K C f p g ∧ FnOk P w K mg base CX0 k g fd ["self"] sp ∧ Binds K fd ["self"] []
def kPrs (C : Addr) (sp : Sp) (x : V) (H : Hp) (Q : VK) : Prop := ∃ a dx fs, x = .ref a ∧ H a = some (.ins C dx fs) ∧ sp [.ref a] H Q E0
def tPrs (C : Addr) (sp : Sp) (ta : TE) : TE := fun σ H Q => ta σ H fun x H1 => kPrs C sp x H1 Q
theorem pe_prs {X : Cx} {C : Addr} {f : Str} {sp : Sp} {k : Nat} {e : Expr} {ta : TE} {pos : Pos} (c : CalQ X.prog X.w X.K X.mg X.base C f k sp) (hr : Room (k + 1) X.A) (he : PE X e ta)
    (hab : attributeBase e f X.env (eval e X.env) = eval e X.env) : PE X (.Attribute e f pos) (tPrs C sp ta) := by
  obtain ⟨p, g, fd, hp, F, hb⟩ := c.ex
  exact pe_prop (pos := pos) (E := E0) he c.cls hp F hr hb .nil pass0 hab
theorem w_prs {σ : St} {H : Hp} {Q : VK} {ta : TE} {C : Addr} {sp : Sp} (h : ta σ H fun x H1 => kPrs C sp x H1 Q) : tPrs C sp ta σ H Q := h
theorem w_star {σ : St} {H : Hp} {QA : List V → Hp → Prop} {K : PySem.W.Frag} {te : TE} {tr : TA} (h : te σ H fun x H1 => ∃ p xs, x = .ref p ∧ (SqT K H1 p xs ∨ SqL K H1 p xs) ∧ tr σ H1 fun ys H2 => QA (xs ++ ys) H2) : StX.tStar K te tr σ H QA := h
theorem w_metS {σ : St} {H : Hp} {Q : VK} {C : Addr} {m : Str} {sp : Sp} {E : St → XK} {ta : TE} {t : TA} (h : ta σ H fun x H1 => ∃ a dx fs, x = .ref a ∧ H1 a = some (.ins C dx fs) ∧ fs.lookup m = none ∧ t σ H1 fun vs H2 => sp (x :: vs) H2 Q (E σ)) : tMetS C m sp E ta t σ H Q := h
/-! ### slices of tuples -/
def cutD (ds : List PyData) (lo hi : Option Int) : List PyData := List.take (HT.sIx ds.length ds.length hi - HT.sIx ds.length 0 lo) (List.drop (HT.sIx ds.length 0 lo) ds)
theorem TpAll.take {H : Hp} : ∀ (n : Nat) {vs : List V} {ds : List PyData}, TpAll H vs ds → TpAll H (vs.take n) (ds.take n)
  | 0, _, _, _ => .nil
  | _ + 1, _, _, .nil => .nil
  | n + 1, _, _, .cons h k => .cons h (TpAll.take n k)
theorem TpAll.drop {H : Hp} : ∀ (n : Nat) {vs : List V} {ds : List PyData}, TpAll H vs ds → TpAll H (vs.drop n) (ds.drop n)
  | 0, _, _, h => h
  | _ + 1, _, _, .nil => .nil
  | n + 1, _, _, .cons _ k => TpAll.drop n k
theorem w_slT {K : PySem.W.Frag} {H : Hp} {Q : VK} {v : V} {ds : List PyData} {lo hi : Option Int} (hv : Tp H v (.tuple ds)) (h : ∀ u H', Same H H' → Tp H' u (.tuple (cutD ds lo hi)) → Q u H') : rSlU K v lo hi H Q := by
  obtain ⟨a, xs, rfl, ha, ta⟩ := hv.inv
  have el := ta.length
  refine .inr (.inl ⟨a, xs, rfl, SqT.of ha, ?_, ?_⟩)
  · rintro ⟨z1, z2⟩
    have := h (.ref a) H (Same.refl H)
    unfold cutD at this
    rw [← el, z1, z2, Nat.sub_zero, List.drop_zero, List.take_of_length_le (by rw [el]; exact Nat.le_refl _)] at this
    exact this hv
  · intro z p hp
    have e := Same.new (o := .tup (cutV xs lo hi)) hp
    refine h _ _ e (.tup upd_same ?_)
    unfold cutV cutD
    rw [← el]
    exact ((ta.drop _).take _).mono (Same.tups e)
theorem cutD_to {ds : List PyData} {i : Nat} : cutD ds none (some (i : Int)) = ds.take i := by
  unfold cutD HT.sIx
  simp only [Nat.sub_zero, List.drop_zero]
  rw [if_neg (by omega), Int.toNat_natCast]
  by_cases h : i ≤ ds.length
  · rw [Nat.min_eq_left h]
  · rw [Nat.min_eq_right (by omega), List.take_of_length_le (Nat.le_refl _), List.take_of_length_le (by omega)]
theorem cutD_from {ds : List PyData} {i : Nat} : cutD ds (some (i : Int)) none = ds.drop i := by
  unfold cutD HT.sIx
  simp only
  rw [if_neg (by omega), Int.toNat_natCast]
  by_cases h : i ≤ ds.length
  · rw [Nat.min_eq_left h, List.take_of_length_le (by rw [List.length_drop]; exact Nat.le_refl _)]
  · rw [Nat.min_eq_right (by omega), Nat.sub_self, List.take_zero, List.drop_of_length_le (by omega)]
theorem cutD_last {ds : List PyData} {i : Nat} : cutD ds none (some (-((i : Int) + 1))) = ds.take (ds.length - (i + 1)) := by
  unfold cutD HT.sIx
  simp only [Nat.sub_zero, List.drop_zero]
  rw [if_pos (by omega)]
  congr 1
  omega
theorem w_ifY {b : Bool} {A B : Prop} (h : b = true) (k : A) : if b = true then A else B := by rw [if_pos h]; exact k
theorem w_ifN {b : Bool} {A B : Prop} (h : b = false) (k : B) : if b = true then A else B := by rw [if_neg (by rw [h]; decide)]; exact k
theorem inD_yes {lo hi n : Int} (h1 : lo ≤ n) (h2 : n ≤ hi) : inD lo hi (.int n) = true := by
  show (decide (lo ≤ n) && decide (n ≤ hi)) = true
  rw [decide_eq_true h1, decide_eq_true h2]
  rfl
theorem w_dnewK {σ : St} {H : Hp} {Q : VK} (h : ∀ p H', H p = none → Same H H' → H' p = some (.dK []) → Q (.ref p) H') : tDNewK σ H Q := alloc h

/-! ### == of data -/
mutual
theorem Dv.dp {K : PySem.W.Frag} {H : Hp} : ∀ {n : Nat} {v : V} {d : PyData}, flatN n d = true → Dv H v d → Dp K H v d
  | 0, _, _, h, _ => by unfold flatN at h; cases h
  | n + 1, _, _, _, .non => .non
  | n + 1, _, _, _, .bl b => .bl b
  | n + 1, _, _, _, .int i => .int i
  | n + 1, _, _, _, .str x => .str x
  | n + 1, _, _, h, .lst g k => .lst (SqL.of g) (DvAll.dp (n := n) (by unfold flatN at h; exact (Bool.and_eq_true_iff.mp h).2) k)
  | n + 1, _, _, h, .tup g k => .tup (SqT.of g) (DvAll.dp (n := n) (by unfold flatN at h; exact (Bool.and_eq_true_iff.mp h).2) k)
  | n + 1, _, _, h, .dict g => by unfold flatN at h; cases h
theorem DvAll.dp {K : PySem.W.Frag} {H : Hp} : ∀ {n : Nat} {vs : List V} {ds : List PyData}, flatAll n ds = true → DvAll H vs ds → DpAll K H vs ds
  | _, _, _, _, .nil => .nil
  | n, _, _, h, .cons g k => by
    unfold flatAll at h
    have h' := Bool.and_eq_true_iff.mp h
    exact .cons (Dv.dp (n := n) h'.1 g) (DvAll.dp (n := n) h'.2 k)
end
/-! no strings but short ones, no truth values: what is compared in the laws -/
mutual
def pureD : PyData → Bool
  | .none => true
  | .bool _ => false
  | .int _ => true
  | .str x => PySem.PyData.strOk x
  | .list ds => pureAll ds
  | .tuple ds => pureAll ds
  | .dict _ => false
def pureAll : List PyData → Bool
  | [] => true
  | d :: ds => pureD d && pureAll ds
end
mutual
theorem pure_lay : ∀ {d : PyData}, pureD d = true → d.canLay0 = true
  | .none, _ => by unfold PyData.canLay0; rfl
  | .bool _, h => by unfold pureD at h; cases h
  | .int _, _ => by unfold PyData.canLay0; rfl
  | .str x, h => by unfold pureD at h; unfold PyData.canLay0; exact h
  | .list ds, h => by unfold pureD at h; unfold PyData.canLay0; exact pure_layAll h
  | .tuple ds, h => by unfold pureD at h; unfold PyData.canLay0; exact pure_layAll h
  | .dict _, h => by unfold pureD at h; cases h
theorem pure_layAll : ∀ {ds : List PyData}, pureAll ds = true → PyData.canLayAll0 ds = true
  | [], _ => by unfold PyData.canLayAll0; rfl
  | d :: ds, h => by
    unfold pureAll at h
    have h' := Bool.and_eq_true_iff.mp h
    unfold PyData.canLayAll0
    rw [pure_lay h'.1, pure_layAll h'.2]
    rfl
end
mutual
theorem eqv_pure : ∀ {d e : PyData}, pureD d = true → pureD e = true → PyData.eqv d e = true → d = e
  | .none, e, _, he, h => by cases e <;> simp [PyData.eqv] at h ⊢
  | .bool _, _, h, _, _ => by unfold pureD at h; cases h
  | .int i, e, _, he, h => by
    cases e with
    | int j => simp [PyData.eqv] at h; rw [h]
    | bool b => unfold pureD at he; cases he
    | _ => simp [PyData.eqv] at h
  | .str x, e, _, he, h => by cases e <;> simp [PyData.eqv] at h ⊢; exact h
  | .list ds, e, hd, he, h => by
    cases e with
    | list es =>
      unfold pureD at hd he
      rw [PyData.eqv] at h
      rw [eqv_pureAll hd he h]
    | _ => simp [PyData.eqv] at h
  | .tuple ds, e, hd, he, h => by
    cases e with
    | tuple es =>
      unfold pureD at hd he
      rw [PyData.eqv] at h
      rw [eqv_pureAll hd he h]
    | _ => simp [PyData.eqv] at h
  | .dict _, _, h, _, _ => by unfold pureD at h; cases h
theorem eqv_pureAll : ∀ {ds es : List PyData}, pureAll ds = true → pureAll es = true → PyData.eqvAll ds es = true → ds = es
  | [], [], _, _, _ => rfl
  | [], _ :: _, _, _, h => by simp [PyData.eqvAll] at h
  | _ :: _, [], _, _, h => by simp [PyData.eqvAll] at h
  | d :: ds, e :: es, hd, he, h => by
    unfold pureAll at hd he
    rw [PyData.eqvAll] at h
    have h1 := Bool.and_eq_true_iff.mp hd
    have h2 := Bool.and_eq_true_iff.mp he
    have h3 := Bool.and_eq_true_iff.mp h
    rw [eqv_pure h1.1 h2.1 h3.1, eqv_pureAll h1.2 h2.2 h3.2]
end
theorem eqv_dec {d e : PyData} [dec : Decidable (d = e)] (hd : pureD d = true) (he : pureD e = true) : PyData.eqv d e = decide (d = e) := by
  by_cases h : d = e
  · subst h
    rw [decide_eq_true rfl]
    exact SeqAt.eqv_refl d (pure_lay hd)
  · rw [decide_eq_false h]
    cases hb : PyData.eqv d e with
    | false => rfl
    | true => exact absurd (eqv_pure hd he hb) h
mutual
theorem flat_depth : ∀ {n : Nat} {d : PyData}, flatN n d = true → d.depth ≤ n
  | 0, _, h => by unfold flatN at h; cases h
  | n + 1, .none, _ => by simp [PyData.depth]
  | n + 1, .bool _, _ => by simp [PyData.depth]
  | n + 1, .int _, _ => by simp [PyData.depth]
  | n + 1, .str _, _ => by simp [PyData.depth]
  | n + 1, .list ds, h => by
    unfold flatN at h
    have := flat_depthAll (Bool.and_eq_true_iff.mp h).2
    simp only [PyData.depth]; omega
  | n + 1, .tuple ds, h => by
    unfold flatN at h
    have := flat_depthAll (Bool.and_eq_true_iff.mp h).2
    simp only [PyData.depth]; omega
  | n + 1, .dict _, h => by unfold flatN at h; cases h
theorem flat_depthAll : ∀ {n : Nat} {ds : List PyData}, flatAll n ds = true → PyData.depthAll ds ≤ n
  | n, [], _ => by simp [PyData.depthAll]
  | n, d :: ds, h => by
    unfold flatAll at h
    have h' := Bool.and_eq_true_iff.mp h
    have h1 := flat_depth h'.1
    have h2 := flat_depthAll h'.2
    simp only [PyData.depthAll]; omega
end
theorem shaped_of {d : PyData} (h : flatN 45 d = true) (hp : pureD d = true) : SeqAt.shaped d = true := by
  unfold SeqAt.shaped
  rw [pure_lay hp, decide_eq_true (Nat.le_trans (flat_depth h) (by decide))]
  rfl
theorem w_eqD {K : PySem.W.Frag} {H : Hp} {Q : VK} {x y : V} {d e : PyData} [dec : Decidable (d = e)] (hx : Dv H x d) (hy : Dv H y e) (fd : flatN 45 d = true) (fe : flatN 45 e = true) (pd : pureD d = true) (pe : pureD e = true) (q : Q (.bl (decide (d = e))) H) : rEqU K x y H Q :=
  .inr ⟨d, e, hx.dp fd, hy.dp fe, shaped_of fd pd, shaped_of fe pe, by rw [eqv_dec pd pe]; exact q⟩
theorem w_neD {K : PySem.W.Frag} {H : Hp} {Q : VK} {x y : V} {d e : PyData} [dec : Decidable (d = e)] (hx : Dv H x d) (hy : Dv H y e) (fd : flatN 45 d = true) (fe : flatN 45 e = true) (pd : pureD d = true) (pe : pureD e = true) (q : Q (.bl (!decide (d = e))) H) : rNeU K x y H Q :=
  .inr ⟨d, e, hx.dp fd, hy.dp fe, shaped_of fd pd, shaped_of fe pe, by rw [eqv_dec pd pe]; exact q⟩
/-! lists of ints -/
theorem pure_ints : ∀ ns : List Int, pureAll (ns.map PyData.int) = true
  | [] => by unfold pureAll; rfl
  | n :: ns => by rw [List.map_cons]; unfold pureAll pureD; rw [pure_ints ns]; rfl
theorem flat_intsN {n : Nat} : ∀ ns : List Int, flatAll (n + 1) (ns.map PyData.int) = true
  | [] => by unfold flatAll; rfl
  | m :: ns => by rw [List.map_cons]; unfold flatAll flatN; rw [flat_intsN ns]; rfl
theorem flat_listI {ns : List Int} (h : ns.length ≤ 100000) : flatN 45 (.list (ns.map PyData.int)) = true := by
  unfold flatN
  rw [flat_intsN, List.length_map, decide_eq_true h]
  rfl
theorem flat_tupI {ns : List Int} (h : ns.length ≤ 100000) : flatN 45 (.tuple (ns.map PyData.int)) = true := by
  unfold flatN
  rw [flat_intsN, List.length_map, decide_eq_true h]
  rfl
theorem pure_listI (ns : List Int) : pureD (.list (ns.map PyData.int)) = true := by unfold pureD; exact pure_ints ns
theorem pure_tupI (ns : List Int) : pureD (.tuple (ns.map PyData.int)) = true := by unfold pureD; exact pure_ints ns
theorem map_int_inj {ns ms : List Int} (h : ns.map PyData.int = ms.map PyData.int) : ns = ms := by
  induction ns generalizing ms with
  | nil => cases ms with
    | nil => rfl
    | cons _ _ => cases h
  | cons a ns ih => cases ms with
    | nil => cases h
    | cons b ms =>
      rw [List.map_cons, List.map_cons] at h
      injection h with h1 h2
      injection h1 with h1
      rw [h1, ih h2]
theorem w_eqLI {K : PySem.W.Frag} {H : Hp} {Q : VK} {a b : Addr} {ns ms : List Int} (ha : H a = some (.lst (ns.map V.int))) (hb : H b = some (.lst (ms.map V.int))) (h1 : ns.length ≤ 100000) (h2 : ms.length ≤ 100000) (q : Q (.bl (decide (ns = ms))) H) : rEqU K (.ref a) (.ref b) H Q := by
  have dec : Decidable (PyData.list (ns.map PyData.int) = .list (ms.map PyData.int)) := Classical.propDecidable _
  refine w_eqD (dec := dec) (.lst ha ((TpAll.of_ints H ns).dv)) (.lst hb ((TpAll.of_ints H ms).dv)) (flat_listI h1) (flat_listI h2) (pure_listI _) (pure_listI _) ?_
  have e : decide (PyData.list (ns.map PyData.int) = .list (ms.map PyData.int)) = decide (ns = ms) := by
    rw [decide_eq_decide]
    exact ⟨fun z => by injection z with z; exact map_int_inj z, fun z => by rw [z]⟩
  rw [e]
  exact q
theorem w_neLI {K : PySem.W.Frag} {H : Hp} {Q : VK} {a b : Addr} {ns ms : List Int} (ha : H a = some (.lst (ns.map V.int))) (hb : H b = some (.lst (ms.map V.int))) (h1 : ns.length ≤ 100000) (h2 : ms.length ≤ 100000) (q : Q (.bl (!decide (ns = ms))) H) : rNeU K (.ref a) (.ref b) H Q := by
  have dec : Decidable (PyData.list (ns.map PyData.int) = .list (ms.map PyData.int)) := Classical.propDecidable _
  refine w_neD (dec := dec) (.lst ha ((TpAll.of_ints H ns).dv)) (.lst hb ((TpAll.of_ints H ms).dv)) (flat_listI h1) (flat_listI h2) (pure_listI _) (pure_listI _) ?_
  have e : decide (PyData.list (ns.map PyData.int) = .list (ms.map PyData.int)) = decide (ns = ms) := by
    rw [decide_eq_decide]
    exact ⟨fun z => by injection z with z; exact map_int_inj z, fun z => by rw [z]⟩
  rw [e]
  exact q
/-! ### isinstance of a tuple of classes -/
theorem kitAny_ty {K : PySem.W.Frag} {a : String} : ∀ (ns : List String), (∀ n ∈ ns, n ∈ tyNames) → a ∈ ["NoneType", "int", "bool", "str", "tuple", "list", "dict"] → PySem.W.kitAny K (.type a) (ns.map Value.type) = some (ns.any fun n => tyTab a n)
  | [], _, _ => kitAny_nil
  | n :: ns, h, m => by
    have e := kit_ty (K := K) (tyTab_all a m n (h n (List.mem_cons_self ..)))
    have ih := kitAny_ty (K := K) ns (fun x hx => h x (List.mem_cons_of_mem _ hx)) m
    rw [List.map_cons, List.any_cons]
    cases hb : tyTab a n with
    | true => exact kitAny_cons (b := true) (by rw [e, hb]) (fun z => nomatch z) (fun _ => rfl)
    | false => exact kitAny_cons (b := false) (by rw [e, hb]) (fun _ => ih) (fun z => nomatch z)
theorem paired_ty : ∀ ns : List String, Paired ClsV (ns.map V.ty) (ns.map Value.type)
  | [] => .nil
  | n :: ns => .cons (.ty n) (paired_ty ns)
theorem w_isiT {K : PySem.W.Frag} {H : Hp} {v : V} {tp : Addr} {ns : List String} {Q : VK} (h : Tag K H v) (ht : H tp = some (.tup (ns.map V.ty))) (hn : ∀ n ∈ ns, n ∈ tyNames) (q : Q (.bl (ns.any fun n => isTy H n v)) H) : rIsiT K [v, .ref tp] H Q := by
  have key : ∀ (a : String), TyX K H v (.type a) → tyN H v = a → a ∈ ["NoneType", "int", "bool", "str", "tuple", "list", "dict"] → rIsiT K [v, .ref tp] H Q := fun a t e m =>
    ⟨v, tp, _, .type a, _, _, rfl, ht, paired_ty ns, t, kitAny_ty ns hn m, by unfold isTy at q; rw [e] at q; exact q⟩
  cases h with
  | non => exact key "NoneType" (.base .non) rfl (by decide)
  | bl b => exact key "bool" (.base (.bl b)) rfl (by decide)
  | int i => exact key "int" (.base (.int i)) rfl (by decide)
  | str x => exact key "str" (.base (.str x)) rfl (by decide)
  | lst h => exact key "list" (.base (.lst h)) (by simp only [tyN, h]) (by decide)
  | tup h => exact key "tuple" (.base (.tup h)) (by simp only [tyN, h]) (by decide)
  | dK h => exact key "dict" (.base (.dK h)) (by simp only [tyN, h]) (by decide)
theorem w_slL {K : PySem.W.Frag} {H : Hp} {Q : VK} {a : Addr} {xs : List V} {lo hi : Option Int} (ha : H a = some (.lst xs)) (h : ∀ p H', H p = none → Same H H' → H' p = some (.lst (cutV xs lo hi)) → Q (.ref p) H') : rSlU K (.ref a) lo hi H Q := .inl ⟨a, xs, rfl, SqL.of ha, alloc h⟩
/-! ### the law's top -/
theorem R.tle {r : R} (ok : r.ok) {m : Int} (h : 2 ≤ m) (h2 : m ≤ 1000000000000000000000000000000) : 2 ≤ r.topm m ∧ r.topm m ≤ m ∧ r.topm m ≤ r.top := by
  cases r with
  | tab rows =>
    obtain ⟨h1, _, _⟩ := ok
    simp only [R.topm, R.top]
    split <;> omega
  | trm ts => exact ⟨h, Int.le_refl _, h2⟩

local macro_rules | `(tactic| walk_at "s") => `(tactic| with_reducible first
  | refine w_prs ?_ | refine w_star ?_ | refine w_metS ?_)
/-! ### ways -/
inductive Wy where
  | one
  | two (l r : Wy)
def Wy.data : Wy → PyData
  | .one => .int 1
  | .two l r => .tuple [l.data, r.data]
def Wy.things : Wy → Nat
  | .one => 1
  | .two l r => l.things + r.things
theorem Wy.pos : ∀ w : Wy, 1 ≤ w.things
  | .one => Nat.le_refl _
  | .two l r => by have := l.pos; show 1 ≤ l.things + r.things; omega
theorem Wy.inj : ∀ (w w' : Wy), w.data = w'.data → w' = w
  | .one, .one, _ => rfl
  | .one, .two _ _, h => nomatch h
  | .two _ _, .one, h => nomatch h
  | .two l r, .two l' r', h => by
    have h' : PyData.tuple [l.data, r.data] = .tuple [l'.data, r'.data] := h
    injection h' with h'
    injection h' with h1 h'
    injection h' with h2 _
    rw [l.inj l' h1, r.inj r' h2]
/-- how many things are in a value, with so much depth -/
def thN : Nat → PyData → Int
  | 0, _ => 0
  | _ + 1, .int k => if k = 1 then 1 else 0
  | n + 1, .tuple [a, b] => if 0 < thN n a then (if 0 < thN n b then thN n a + thN n b else 0) else 0
  | _ + 1, _ => 0
/-- pairs within pairs, less deep than n -/
def dN : Nat → PyData → Bool
  | 0, _ => false
  | n + 1, .tuple [a, b] => dN n a && dN n b
  | _ + 1, _ => true
theorem Wy.dN : ∀ (w : Wy) {n : Nat}, w.things ≤ n → dN n w.data = true
  | .one, 0, h => absurd h (by decide)
  | .one, n + 1, _ => rfl
  | .two l r, 0, h => by have := l.pos; have : l.things + r.things ≤ 0 := h; omega
  | .two l r, n + 1, h => by
    have h1 := l.pos
    have h2 := r.pos
    have h' : l.things + r.things ≤ n + 1 := h
    show (Spt.dN n l.data && Spt.dN n r.data) = true
    rw [l.dN (by omega), r.dN (by omega)]
    rfl
theorem Wy.thN : ∀ (w : Wy) {n : Nat}, w.things ≤ n → thN n w.data = w.things
  | .one, 0, h => absurd h (by decide)
  | .one, n + 1, _ => rfl
  | .two l r, 0, h => by have := l.pos; have : l.things + r.things ≤ 0 := h; omega
  | .two l r, n + 1, h => by
    have h1 := l.pos
    have h2 := r.pos
    have h' : l.things + r.things ≤ n + 1 := h
    show (if 0 < Spt.thN n l.data then (if 0 < Spt.thN n r.data then Spt.thN n l.data + Spt.thN n r.data else 0) else 0) = ((l.things + r.things : Nat) : Int)
    rw [l.thN (by omega), r.thN (by omega), if_pos (by omega), if_pos (by omega)]
    omega
theorem w_int1b {H : Hp} {Q : VK} {b : Bool} (h : Q (.int (if b then 1 else 0)) H) : rInt1 [.bl b] H Q := .inr ⟨b, rfl, h⟩
def spn_things_in (Γ : Gm) (n : Nat) : Sp := fun vs H Q _ => ∃ x d, vs = [x] ∧ Dv H x d ∧ dN n d = true ∧ Q (.int (thN n d)) H
def sp_things_in (Γ : Gm) : Sp := spn_things_in Γ 45
/-- things_in: value, first, second -/
def t_things_in (Γ : Gm) (n : Nat) : TS := (tSeq (tIfS (tB (tCal (sp_is_integer Γ) E0 (tCons (tVar 0) tNil))) (tRet (tCB rInt1 (tCons (tOp (rEqU Γ.K) (tVar 0) (tC (.int 1))) tNil))) tNext)
  (tSeq (tIfS (tOr (tNot (tB (tCB (rIsi Γ.K) (tCons (tVar 0) (tCons (tC (.ty "tuple")) tNil))))) (tTest (tOp (rNeU Γ.K) (tCB (rLen Γ.K) (tCons (tVar 0) tNil)) (tC (.int 2))))) (tRet (tC (.int 0))) tNext)
  (tSeq (tAsg (tCal (spn_things_in Γ n) E0 (tCons (tOp (rIx Γ.K) (tVar 0) (tC (.int 0))) tNil)) (gName 1))
  (tSeq (tAsg (tIf (tTest (tOp rGt (tVar 1) (tC (.int 0)))) (tCal (spn_things_in Γ n) E0 (tCons (tOp (rIx Γ.K) (tVar 0) (tC (.int 1))) tNil)) (tC (.int 0))) (gName 2))
  (tRet (tIf (tTest (tOp rGt (tVar 2) (tC (.int 0)))) (tOp (rAddU Γ.K) (tVar 1) (tVar 2)) (tC (.int 0))))))))
theorem rd0_things_in (Γ : Gm) (vs : List V) (H : Hp) (Q : VK) (E : XK) (h : spn_things_in Γ 0 vs H Q E) : False := by
  obtain ⟨x, d, _, _, h, _⟩ := h
  unfold dN at h
  cases h
theorem rd_things_in (Γ : Gm) (n : Nat) (vs : List V) (H : Hp) (Q : VK) (E : XK) (h : spn_things_in Γ (n + 1) vs H Q E) : t_things_in Γ n ⟨fun _ H' => Q .non H', Q, fun _ _ => False, fun _ _ => False⟩ (startN 3 vs) H := by
  obtain ⟨x, d, rfl, hd, hn, q⟩ := h
  unfold t_things_in
  walk_at "ss"
  refine ⟨x, rfl, hd.tag, ?_⟩
  walk_at "ss"
  by_cases other : isI x = false ∧ tyTab (tyD d) "tuple" = false ∧ thN (n + 1) d = 0
  · obtain ⟨h1, h2, h3⟩ := other
    rw [h1]
    walk_at "ss"
    refine w_isi hd.tag (by decide) ?_
    rw [hd.ty, h2]
    walk_at "ss"
    rw [← h3]
    exact q
  cases d with
  | int k =>
    have e := dv_int hd
    subst e
    rw [show isI (V.int k) = true from rfl]
    walk_at "ss"
    refine w_int1b ?_
    have : (if decide (k = 1) = true then (1 : Int) else 0) = thN (n + 1) (.int k) := by
      show _ = if k = 1 then (1 : Int) else 0
      by_cases e : k = 1
      · rw [if_pos e, if_pos (decide_eq_true e)]
      · rw [if_neg e, if_neg (by rw [decide_eq_false e]; decide)]
    rw [this]
    exact q
  | none => exact absurd ⟨by cases hd; rfl, by simp [tyD, tyTab], rfl⟩ other
  | bool b => exact absurd ⟨by cases hd; rfl, by simp [tyD, tyTab], rfl⟩ other
  | str b => exact absurd ⟨by cases hd; rfl, by simp [tyD, tyTab], rfl⟩ other
  | list b => exact absurd ⟨by cases hd; rfl, by simp [tyD, tyTab], rfl⟩ other
  | dict b => exact absurd ⟨by cases hd; rfl, by simp [tyD, tyTab], rfl⟩ other
  | tuple ds =>
    clear other
    obtain ⟨a, xs, rfl, ha, ta⟩ := hd.tupInv
    rw [show isI (V.ref a) = false from rfl]
    walk_at "ss"
    refine w_isi hd.tag (by decide) ?_
    rw [hd.ty, show tyTab (tyD (.tuple ds)) "tuple" = true from by simp [tyD, tyTab]]
    walk_at "ss"
    refine w_lenT (SqT.of ha) ?_
    walk_at "ss"
    have hl := ta.length
    match ds, ta, hl, q, hn with
    | [], _, hl, q, _ =>
      rw [hl]
      refine w_ifY rfl ?_
      walk_at "ss"
      exact q
    | [_], _, hl, q, _ =>
      rw [hl]
      refine w_ifY rfl ?_
      walk_at "ss"
      exact q
    | _ :: _ :: _ :: ds', _, hl, q, _ =>
      rw [hl]
      refine w_ifY (by simp only [List.length_cons]; rw [decide_eq_false (by omega)]; rfl) ?_
      walk_at "ss"
      exact q
    | [d1, d2], ta, hl, q, hn =>
      rw [hl]
      refine w_ifN rfl ?_
      walk_at "ss"
      have hn' : dN n d1 = true ∧ dN n d2 = true := by
        have : (dN n d1 && dN n d2) = true := hn
        rwa [Bool.and_eq_true] at this
      obtain ⟨x1, g1, t1⟩ := ta.get (i := 0) rfl
      obtain ⟨x2, g2, t2⟩ := ta.get (i := 1) rfl
      have q' : Q (.int (if 0 < thN n d1 then (if 0 < thN n d2 then thN n d1 + thN n d2 else 0) else 0)) H := q
      refine w_ixT (SqT.of ha) (atI_of (by decide) g1) ?_
      walk_at "ss"
      refine ⟨x1, d1, rfl, t1, hn'.1, ?_⟩
      walk_at "ss"
      refine w_ite (fun e => ?_) (fun e => ?_)
      · rw [if_pos (of_decide_eq_true e)] at q'
        walk_at "ss"
        refine w_ixT (SqT.of ha) (atI_of (by decide) g2) ?_
        walk_at "ss"
        refine ⟨x2, d2, rfl, t2, hn'.2, ?_⟩
        walk_at "ss"
        refine w_ite (fun e2 => ?_) (fun e2 => ?_)
        · rw [if_pos (of_decide_eq_true e2)] at q'
          walk_at "ss"
          exact q'
        · rw [if_neg (of_decide_eq_false e2)] at q'
          walk_at "ss"
          exact q'
      · rw [if_neg (of_decide_eq_false e)] at q'
        walk_at "ss"
        exact q'

/-! ### is_way and what asks it -/
def wayB (d : PyData) : Bool := decide (1 ≤ thN 45 d) && decide (thN 45 d ≤ 40)
theorem thN_inv : ∀ (n : Nat) (d : PyData), 0 < thN n d → ∃ w : Wy, d = w.data ∧ (w.things : Int) = thN n d
  | 0, _, h => absurd h (by unfold thN; decide)
  | n + 1, .int k, h => by
    have h' : 0 < (if k = 1 then (1 : Int) else 0) := h
    by_cases e : k = 1
    · subst e
      exact ⟨.one, rfl, rfl⟩
    · rw [if_neg e] at h'
      exact absurd h' (by decide)
  | n + 1, .tuple [a, b], h => by
    have h' : 0 < (if 0 < thN n a then (if 0 < thN n b then thN n a + thN n b else 0) else 0) := h
    by_cases e1 : 0 < thN n a
    · by_cases e2 : 0 < thN n b
      · obtain ⟨w1, rfl, t1⟩ := thN_inv n a e1
        obtain ⟨w2, rfl, t2⟩ := thN_inv n b e2
        refine ⟨.two w1 w2, rfl, ?_⟩
        show ((w1.things + w2.things : Nat) : Int) = (if 0 < thN n w1.data then (if 0 < thN n w2.data then thN n w1.data + thN n w2.data else 0) else 0)
        rw [if_pos e1, if_pos e2, ← t1, ← t2]
        omega
      · rw [if_pos e1, if_neg e2] at h'
        exact absurd h' (by decide)
    · rw [if_neg e1] at h'
      exact absurd h' (by decide)
  | n + 1, .none, h => absurd h (by unfold thN; decide)
  | n + 1, .bool _, h => absurd h (by unfold thN; decide)
  | n + 1, .str _, h => absurd h (by unfold thN; decide)
  | n + 1, .list _, h => absurd h (by unfold thN; decide)
  | n + 1, .dict _, h => absurd h (by unfold thN; decide)
  | n + 1, .tuple [], h => absurd h (by unfold thN; decide)
  | n + 1, .tuple [_], h => absurd h (by unfold thN; decide)
  | n + 1, .tuple (_ :: _ :: _ :: _), h => absurd h (by unfold thN; decide)
theorem wayB_inv {d : PyData} (h : wayB d = true) : ∃ w : Wy, d = w.data ∧ w.things ≤ 40 := by
  unfold wayB at h
  rw [Bool.and_eq_true, decide_eq_true_eq, decide_eq_true_eq] at h
  obtain ⟨w, h1, h2⟩ := thN_inv 45 d (by omega)
  exact ⟨w, h1, by omega⟩
theorem Wy.wayB (w : Wy) (h : w.things ≤ 40) : wayB w.data = true := by
  have := w.pos
  unfold Spt.wayB
  rw [w.thN (n := 45) (by omega), decide_eq_true (by omega), decide_eq_true (by omega)]
  rfl
theorem Wy.wide (w : Wy) (h : 40 < w.things) (h2 : w.things ≤ 45) : Spt.wayB w.data = false := by
  unfold Spt.wayB
  rw [w.thN (n := 45) (by omega), decide_eq_false (show ¬ ((w.things : Int) ≤ 40) by omega), Bool.and_false]
theorem Wy.tp {H : Hp} : ∀ (w : Wy) {x : V}, Dv H x w.data → Tp H x w.data
  | .one, _, h => by cases h; exact .int 1
  | .two l r, _, h => by
    cases h with
    | tup g k =>
      cases k with
      | cons h1 k =>
        cases k with
        | cons h2 k =>
          cases k
          exact .tup g (.cons (l.tp h1) (.cons (r.tp h2) .nil))
def sp_is_way (Γ : Gm) : Sp := fun vs H Q _ => ∃ x d, vs = [x] ∧ Dv H x d ∧ dN 45 d = true ∧ Q (.bl (wayB d)) H
/-- is_way: value -/
def t_is_way (Γ : Gm) : TS := (tRet (tChain rLe rLe (tC (.int 1)) (tCal (sp_things_in Γ) E0 (tCons (tVar 0) tNil)) (tC (.int 40))))
theorem rd_is_way (Γ : Gm) (vs : List V) (H : Hp) (Q : VK) (E : XK) (h : sp_is_way Γ vs H Q E) : t_is_way Γ ⟨fun _ H' => Q .non H', Q, fun _ _ => False, fun _ _ => False⟩ (startN 1 vs) H := by
  obtain ⟨x, d, rfl, hd, hn, q⟩ := h
  unfold t_is_way
  walk_at "ss"
  refine ⟨x, d, rfl, hd, hn, ?_⟩
  walk_at "ss"
  unfold wayB at q
  refine w_ite (fun e => ?_) (fun e => ?_)
  · rw [e, Bool.true_and] at q
    walk_at "ss"
    exact q
  · rw [e, Bool.false_and] at q
    exact q
def sp_check_way (Γ : Gm) : Sp := fun vs H Q E => ∃ x d, vs = [x] ∧ Dv H x d ∧ dN 45 d = true ∧ (wayB d = false → E (.ref Γ.cBadWay) none H) ∧ (wayB d = true → Q .non H)
/-- check_way: way -/
def t_check_way (Γ : Gm) (E : XK) : TS := (tIfS (tNot (tB (tCal (sp_is_way Γ) E0 (tCons (tVar 0) tNil)))) (tRaise Γ.cBadWay (fun cls d _ H => E cls d H)) tNext)
theorem rd_check_way (Γ : Gm) (vs : List V) (H : Hp) (Q : VK) (E : XK) (h : sp_check_way Γ vs H Q E) : t_check_way Γ E ⟨fun _ H' => Q .non H', Q, fun _ _ => False, fun _ _ => False⟩ (startN 1 vs) H := by
  obtain ⟨x, d, rfl, hd, hn, k1, k2⟩ := h
  unfold t_check_way
  walk_at "ss"
  refine ⟨x, d, rfl, hd, hn, ?_⟩
  walk_at "ss"
  refine w_ite (fun e => ?_) (fun e => ?_)
  · walk_at "ss"
    exact k1 (by simpa using e)
  · walk_at "ss"
    exact k2 (by simpa using e)
def sp_heap_of (Γ : Gm) : Sp := fun vs H Q E => ∃ x d, vs = [x] ∧ Dv H x d ∧ dN 45 d = true ∧ (wayB d = false → E (.ref Γ.cBadWay) none H) ∧ (wayB d = true → Q (.int (thN 45 d)) H)
/-- heap_of: way -/
def t_heap_of (Γ : Gm) (E : XK) : TS := (tSeq (tDrop (tCal (sp_check_way Γ) E (tCons (tVar 0) tNil)))
  (tRet (tCal (sp_things_in Γ) E0 (tCons (tVar 0) tNil))))
theorem rd_heap_of (Γ : Gm) (vs : List V) (H : Hp) (Q : VK) (E : XK) (h : sp_heap_of Γ vs H Q E) : t_heap_of Γ E ⟨fun _ H' => Q .non H', Q, fun _ _ => False, fun _ _ => False⟩ (startN 1 vs) H := by
  obtain ⟨x, d, rfl, hd, hn, k1, k2⟩ := h
  unfold t_heap_of
  walk_at "ss"
  refine ⟨x, d, rfl, hd, hn, k1, fun e => ?_⟩
  walk_at "ss"
  exact ⟨x, d, rfl, hd, hn, k2 e⟩
/-! ### the splits of a way -/
def Wy.splits : Wy → List (Nat × Nat)
  | .one => []
  | .two l r => (l.things, r.things) :: (l.splits ++ r.splits)
theorem Wy.splits_len : ∀ w : Wy, w.splits.length + 1 = w.things
  | .one => rfl
  | .two l r => by
    show ((l.things, r.things) :: (l.splits ++ r.splits)).length + 1 = l.things + r.things
    have h1 := l.splits_len
    have h2 := r.splits_len
    rw [List.length_cons, List.length_append]
    omega
theorem Wy.splits_ok : ∀ (w : Wy) (p : Nat × Nat), p ∈ w.splits → 1 ≤ p.1 ∧ 1 ≤ p.2 ∧ p.1 + p.2 ≤ w.things
  | .one, _, h => nomatch h
  | .two l r, p, h => by
    have h' : p ∈ (l.things, r.things) :: (l.splits ++ r.splits) := h
    have e : (Wy.two l r).things = l.things + r.things := rfl
    rw [List.mem_cons, List.mem_append] at h'
    rcases h' with rfl | h' | h'
    · exact ⟨l.pos, r.pos, Nat.le_refl _⟩
    · have := l.splits_ok p h'
      omega
    · have := r.splits_ok p h'
      omega
def prD (p : Nat × Nat) : PyData := .tuple [.int p.1, .int p.2]
def spn_splits_of (Γ : Gm) (n : Nat) : Sp := fun vs H Q _ => ∃ x w, vs = [x] ∧ Tp H x (Wy.data w) ∧ w.things ≤ n ∧ w.things ≤ 45 ∧ ∀ l xs H', Same H H' → H l = none → H' l = some (.lst xs) → TpAll H' xs (w.splits.map prD) → Q (.ref l) H'
def sp_splits_of (Γ : Gm) : Sp := spn_splits_of Γ 45
/-- splits_of: way -/
def t_splits_of (Γ : Gm) (n : Nat) : TS := (tSeq (tIfS (tNot (tB (tCB (rIsi Γ.K) (tCons (tVar 0) (tCons (tC (.ty "tuple")) tNil))))) (tRet (tLst tNil)) tNext)
  (tRet (tLst (tCons (tTup (tCons (tCal (sp_things_in Γ) E0 (tCons (tOp (rIx Γ.K) (tVar 0) (tC (.int 0))) tNil)) (tCons (tCal (sp_things_in Γ) E0 (tCons (tOp (rIx Γ.K) (tVar 0) (tC (.int 1))) tNil)) tNil))) (StX.tStar Γ.K (tCal (spn_splits_of Γ n) E0 (tCons (tOp (rIx Γ.K) (tVar 0) (tC (.int 0))) tNil)) (StX.tStar Γ.K (tCal (spn_splits_of Γ n) E0 (tCons (tOp (rIx Γ.K) (tVar 0) (tC (.int 1))) tNil)) tNil))))))
theorem rd0_splits_of (Γ : Gm) (vs : List V) (H : Hp) (Q : VK) (E : XK) (h : spn_splits_of Γ 0 vs H Q E) : False := by
  obtain ⟨x, w, _, _, h, _⟩ := h
  have := w.pos
  omega
theorem rd_splits_of (Γ : Gm) (n : Nat) (vs : List V) (H : Hp) (Q : VK) (E : XK) (h : spn_splits_of Γ (n + 1) vs H Q E) : t_splits_of Γ n ⟨fun _ H' => Q .non H', Q, fun _ _ => False, fun _ _ => False⟩ (startN 1 vs) H := by
  obtain ⟨x, w, rfl, hx, hn, h45, k⟩ := h
  unfold t_splits_of
  walk_at "ss"
  refine w_isi hx.tag (by decide) ?_
  rw [hx.dv.ty]
  cases w with
  | one =>
    rw [show tyTab (tyD (Wy.one).data) "tuple" = false from by simp [Wy.data, tyD, tyTab]]
    walk_at "ss"
    refine n_lst fun l H1 f1 e1 g1 => ?_
    exact k l [] H1 e1 f1 g1 .nil
  | two l r =>
    rw [show tyTab (tyD (Wy.two l r).data) "tuple" = true from by simp [Wy.data, tyD, tyTab]]
    have p1 := l.pos
    have p2 := r.pos
    have hn' : l.things + r.things ≤ n + 1 := hn
    have h45' : l.things + r.things ≤ 45 := h45
    obtain ⟨a, xs, rfl, ha, ta⟩ := hx.inv
    obtain ⟨x1, g1, t1⟩ := ta.get (i := 0) rfl
    obtain ⟨x2, g2, t2⟩ := ta.get (i := 1) rfl
    walk_at "ss"
    refine w_ixT (SqT.of ha) (atI_of (by decide) g1) ?_
    walk_at "ss"
    refine ⟨x1, _, rfl, t1.dv, l.dN (by omega), ?_⟩
    rw [l.thN (by omega)]
    walk_at "ss"
    refine w_ixT (SqT.of ha) (atI_of (by decide) g2) ?_
    walk_at "ss"
    refine ⟨x2, _, rfl, t2.dv, r.dN (by omega), ?_⟩
    rw [r.thN (by omega)]
    walk_at "ss"
    refine n_tup fun q H1 f1 e1 q1 => ?_
    walk_at "ss"
    refine w_ixT (SqT.of (e1 _ _ ha)) (atI_of (by decide) g1) ?_
    walk_at "ss"
    refine ⟨x1, l, rfl, t1.mono e1.tups, by omega, by omega, fun l1 xs1 H2 e2 f2 q2 tt2 => ?_⟩
    refine ⟨l1, xs1, rfl, .inr (SqL.of q2), ?_⟩
    walk_at "ss"
    refine w_ixT (SqT.of ((e1.trans e2) _ _ ha)) (atI_of (by decide) g2) ?_
    walk_at "ss"
    refine ⟨x2, r, rfl, t2.mono (e1.trans e2).tups, by omega, by omega, fun l2 xs2 H3 e3 f3 q3 tt3 => ?_⟩
    refine ⟨l2, xs2, rfl, .inr (SqL.of q3), ?_⟩
    walk_at "ss"
    have z1 := tt2.length
    have z2 := tt3.length
    have s1 := l.splits_len
    have s2 := r.splits_len
    rw [List.length_map] at z1 z2
    refine n_lst (hz := by simp only [List.length_cons, List.length_append, List.length_nil]; exact Nat.le_trans (m := 1000) (by omega) (by decide)) fun l3 H4 f4 e4 q4 => ?_
    refine k l3 _ H4 (e1.trans (e2.trans (e3.trans e4))) ?_ q4 ?_
    · exact (e1.trans (e2.trans e3)).free f4
    · rw [List.append_nil]
      show TpAll H4 _ (prD (l.things, r.things) :: ((l.splits ++ r.splits).map prD))
      rw [List.map_append]
      refine .cons (.tup ((e2.trans (e3.trans e4)) _ _ q1) (.cons (.int _) (.cons (.int _) .nil))) ((tt2.mono (e3.trans e4).tups).append (tt3.mono e4.tups))

/-! ### rows and sums of a way -/
def R.row (r : R) (w : Wy) : List Int := w.splits.map fun p => r.pts p.1 p.2
theorem R.row_len (r : R) (w : Wy) : (r.row w).length + 1 = w.things := by
  unfold R.row
  rw [List.length_map]
  exact w.splits_len
def sp_row_by (Γ : Gm) : Sp := fun vs H Q _ => ∃ v r x w, vs = [v, x] ∧ RuleAt Γ H v r ∧ Tp H x (Wy.data w) ∧ w.things ≤ 45 ∧ (w.things : Int) ≤ r.top ∧ ∀ l H', Same H H' → H l = none → H' l = some (.lst ((r.row w).map V.int)) → Q (.ref l) H'
/-- row_by: rule, way, first, second -/
def t_row_by (Γ : Gm) : TS := (tRet (tLc (iSeq Γ.K (tCal (sp_splits_of Γ) E0 (tCons (tVar 1) tNil))) (gTup Γ.K 2 (gCons (gName 2) (gCons (gName 3) gNil))) tYes (tCal (sp_points_by Γ) E0 (tCons (tVar 0) (tCons (tVar 2) (tCons (tVar 3) tNil)))) [2, 3]))
theorem rd_row_by (Γ : Gm) (vs : List V) (H : Hp) (Q : VK) (E : XK) (h : sp_row_by Γ vs H Q E) : t_row_by Γ ⟨fun _ H' => Q .non H', Q, fun _ _ => False, fun _ _ => False⟩ (startN 4 vs) H := by
  obtain ⟨v, r, x, w, rfl, hr, hx, hw, ht, k⟩ := h
  unfold t_row_by
  walk_at "ss"
  refine ⟨x, w, rfl, hx, hw, hw, fun l xs H1 e1 f1 g1 t1 => ?_⟩
  refine k_seqL (SqL.of g1) ?_
  have hl := t1.length
  rw [List.length_map] at hl
  have hs := w.splits_len
  refine k_lcList (fun i acc H' => acc = ((w.splits.take i).map fun p => V.int (r.pts p.1 p.2))) (SqL.of g1) (fun _ _ => rfl) ?_ ?_
  · rintro i y D acc H2 hi hD e2 hacc rfl
    obtain ⟨d, hd, ty⟩ := t1.get' hi
    rw [List.getElem?_map] at hd
    obtain ⟨p, hp, rfl⟩ := Option.map_eq_some_iff.mp hd
    obtain ⟨c, zs, rfl, hc, tc⟩ := ty.inv
    have ez : zs = [V.int p.1, V.int p.2] := by
      have := TpAll.ints (ns := [(p.1 : Int), (p.2 : Int)]) tc
      exact this
    subst ez
    refine w_gTup (SqT.of (e2 _ _ hc)) rfl ?_
    walk_at "ss"
    refine ⟨rfl, ?_⟩
    walk_at "ss"
    obtain ⟨b1, b2, b3⟩ := w.splits_ok p (List.mem_of_getElem? hp)
    refine ⟨v, r, p.1, p.2, rfl, hr.mono (e1.trans e2), by omega, by omega, by omega, fun H3 e3 => ?_⟩
    have hi' : i < w.splits.length := (List.getElem?_eq_some_iff.mp hp).1
    refine lcTurn.mk hD (e2.trans e3) (e3 _ _ hacc) (by rw [List.length_map, List.length_take]; omega) ?_
    rw [take_succ hp, List.map_append]
    rfl
  · rintro D acc H2 hD e2 hacc rfl
    rw [hl, List.take_length] at hacc
    refine k D H2 (e1.trans e2) (e1.free hD) ?_
    rw [hacc]
    unfold R.row
    rw [List.map_map]
    rfl
structure WayK (Γ : Gm) (r : R) (d : PyData) (H : Hp) (E : XK) : Prop where
  bad : wayB d = false → E (.ref Γ.cBadWay) none H
  wide : wayB d = true → r.top < thN 45 d → E (.ref Γ.cBadHeap) none H
def sp_check_way_of (Γ : Gm) : Sp := fun vs H Q E => ∃ v r x d, vs = [v, x] ∧ RuleAt Γ H v r ∧ Dv H x d ∧ dN 45 d = true ∧ WayK Γ r d H E ∧ (wayB d = true → thN 45 d ≤ r.top → Q .non H)
/-- check_way_of: rule, way -/
def t_check_way_of (Γ : Gm) (E : XK) : TS := (tSeq (tDrop (tCal (sp_check_way Γ) E (tCons (tVar 1) tNil)))
  (tIfS (tTest (tOp rGt (tCal (sp_things_in Γ) E0 (tCons (tVar 1) tNil)) (tCal (sp_most_of Γ) E0 (tCons (tVar 0) tNil)))) (tRaise Γ.cBadHeap (fun cls d _ H => E cls d H)) tNext))
theorem rd_check_way_of (Γ : Gm) (vs : List V) (H : Hp) (Q : VK) (E : XK) (h : sp_check_way_of Γ vs H Q E) : t_check_way_of Γ E ⟨fun _ H' => Q .non H', Q, fun _ _ => False, fun _ _ => False⟩ (startN 2 vs) H := by
  obtain ⟨v, r, x, d, rfl, hr, hx, hn, ⟨k1, k2⟩, k3⟩ := h
  unfold t_check_way_of
  walk_at "ss"
  refine ⟨x, d, rfl, hx, hn, k1, fun e => ?_⟩
  walk_at "ss"
  refine ⟨x, d, rfl, hx, hn, ?_⟩
  walk_at "ss"
  refine ⟨v, r, rfl, hr, ?_⟩
  walk_at "ss"
  refine w_ite (fun e2 => ?_) (fun e2 => ?_)
  · walk_at "ss"
    exact k2 e (of_decide_eq_true e2)
  · walk_at "ss"
    exact k3 e (by have := of_decide_eq_false e2; omega)
def sp_row_of (Γ : Gm) : Sp := fun vs H Q E => ∃ v r x d, vs = [v, x] ∧ RuleAt Γ H v r ∧ Dv H x d ∧ dN 45 d = true ∧ WayK Γ r d H E ∧ ∀ w, d = Wy.data w → w.things ≤ 40 → (w.things : Int) ≤ r.top → ∀ l H', Same H H' → H l = none → H' l = some (.lst ((r.row w).map V.int)) → Q (.ref l) H'
def sp_sum_of (Γ : Gm) : Sp := fun vs H Q E => ∃ v r x d, vs = [v, x] ∧ RuleAt Γ H v r ∧ Dv H x d ∧ dN 45 d = true ∧ WayK Γ r d H E ∧ ∀ w, d = Wy.data w → w.things ≤ 40 → (w.things : Int) ≤ r.top → ∀ H', Same H H' → Q (.int (r.row w).sum) H'
/-- row_of: rule, way -/
def t_row_of (Γ : Gm) (E : XK) : TS := (tSeq (tDrop (tCal (sp_check_way_of Γ) E (tCons (tVar 0) (tCons (tVar 1) tNil))))
  (tRet (tCal (sp_row_by Γ) E0 (tCons (tVar 0) (tCons (tVar 1) tNil)))))
theorem rd_row_of (Γ : Gm) (vs : List V) (H : Hp) (Q : VK) (E : XK) (h : sp_row_of Γ vs H Q E) : t_row_of Γ E ⟨fun _ H' => Q .non H', Q, fun _ _ => False, fun _ _ => False⟩ (startN 2 vs) H := by
  obtain ⟨v, r, x, d, rfl, hr, hx, hn, hk, k⟩ := h
  unfold t_row_of
  walk_at "ss"
  refine ⟨v, r, x, d, rfl, hr, hx, hn, hk, fun e1 e2 => ?_⟩
  obtain ⟨w, rfl, h40⟩ := wayB_inv e1
  rw [w.thN (by omega)] at e2
  walk_at "ss"
  exact ⟨v, r, x, w, rfl, hr, w.tp hx, by omega, e2, k w rfl h40 e2⟩
/-- sum_of: rule, way -/
def t_sum_of (Γ : Gm) (E : XK) : TS := (tSeq (tDrop (tCal (sp_check_way_of Γ) E (tCons (tVar 0) (tCons (tVar 1) tNil))))
  (tRet (tCB (rSum Γ.K) (tCons (tCal (sp_row_by Γ) E0 (tCons (tVar 0) (tCons (tVar 1) tNil))) tNil))))
theorem rd_sum_of (Γ : Gm) (vs : List V) (H : Hp) (Q : VK) (E : XK) (h : sp_sum_of Γ vs H Q E) : t_sum_of Γ E ⟨fun _ H' => Q .non H', Q, fun _ _ => False, fun _ _ => False⟩ (startN 2 vs) H := by
  obtain ⟨v, r, x, d, rfl, hr, hx, hn, hk, k⟩ := h
  unfold t_sum_of
  walk_at "ss"
  refine ⟨v, r, x, d, rfl, hr, hx, hn, hk, fun e1 e2 => ?_⟩
  obtain ⟨w, rfl, h40⟩ := wayB_inv e1
  rw [w.thN (by omega)] at e2
  walk_at "ss"
  refine ⟨v, r, x, w, rfl, hr, w.tp hx, by omega, e2, fun l H1 e3 f3 g3 => ?_⟩
  walk_at "ss"
  refine w_sum (SqL.of g3) ?_
  exact k w rfl h40 e2 H1 e3
/-! ### the law's own ways -/
def spn__law_way (Γ : Gm) (n : Nat) : Sp := fun vs H Q _ => ∃ (d : Addr) (m : Int), vs = [.ref d, .int m] ∧ H d = some (dO d) ∧ 1 ≤ m ∧ m ≤ n ∧ m ≤ 45 ∧ ∀ w v H', Same H H' → Tp H' v (Wy.data w) → (w.things : Int) = m → Q v H'
def sp__law_way (Γ : Gm) : Sp := spn__law_way Γ 45
/-- law_way: _law_d, _law_heap, _law_one -/
def t__law_way (Γ : Gm) (n : Nat) : TS := (tSeq (tIfS (tTest (tOp (rEqU Γ.K) (tVar 1) (tC (.int 1)))) (tRet (tC (.int 1))) tNext)
  (tSeq (tAsg (tCal (sp__law_pick Γ) E0 (tCons (tVar 0) (tCons (tLst (tCons (tC (.int 1)) (tCons (tOp rSubI (tVar 1) (tC (.int 1))) (tCons (tOp (rAddU Γ.K) (tC (.int 1)) (tCal (sp__law_below Γ) E0 (tCons (tVar 0) (tCons (tOp rSubI (tVar 1) (tC (.int 1))) tNil)))) tNil)))) tNil))) (gName 2))
  (tRet (tTup (tCons (tCal (spn__law_way Γ n) E0 (tCons (tVar 0) (tCons (tVar 2) tNil))) (tCons (tCal (spn__law_way Γ n) E0 (tCons (tVar 0) (tCons (tOp rSubI (tVar 1) (tVar 2)) tNil))) tNil))))))
theorem rd0__law_way (Γ : Gm) (vs : List V) (H : Hp) (Q : VK) (E : XK) (h : spn__law_way Γ 0 vs H Q E) : False := by
  obtain ⟨d, m, _, _, h1, h2, _⟩ := h
  omega
theorem rd__law_way (Γ : Gm) (n : Nat) (vs : List V) (H : Hp) (Q : VK) (E : XK) (h : spn__law_way Γ (n + 1) vs H Q E) : t__law_way Γ n ⟨fun _ H' => Q .non H', Q, fun _ _ => False, fun _ _ => False⟩ (startN 3 vs) H := by
  obtain ⟨d, m, rfl, hd, h1, h2, h45, k⟩ := h
  unfold t__law_way
  walk_at "ss"
  refine w_ite (fun e => ?_) (fun e => ?_)
  · walk_at "ss"
    have := of_decide_eq_true e
    subst this
    exact k .one _ H (Same.refl H) (.int 1) rfl
  have hm := of_decide_eq_false e
  walk_at "ss"
  refine ⟨d, m - 1, rfl, hd, by omega, by omega, fun q q1 q2 => ?_⟩
  walk_at "ss"
  refine n_lst fun l H1 f1 e1 g1 => ?_
  walk_at "ss"
  refine ⟨d, l, _, rfl, e1 _ _ hd, SqL.of g1, show 0 < 3 from by decide, show 3 ≤ 100000 from by decide, fun i x hi => ?_⟩
  obtain ⟨o, rfl, o1, o2⟩ : ∃ o : Int, x = .int o ∧ 1 ≤ o ∧ o < m := by
    have := List.mem_of_getElem? hi
    simp only [List.mem_cons, List.not_mem_nil, or_false] at this
    rcases this with rfl | rfl | rfl
    · exact ⟨_, rfl, by omega, by omega⟩
    · exact ⟨_, rfl, by omega, by omega⟩
    · exact ⟨_, rfl, by omega, by omega⟩
  walk_at "ss"
  refine ⟨d, o, rfl, e1 _ _ hd, o1, by omega, by omega, fun w1 v1 H2 e2 t1 c1 => ?_⟩
  walk_at "ss"
  refine ⟨d, m - o, rfl, (e1.trans e2) _ _ hd, by omega, by omega, by omega, fun w2 v2 H3 e3 t2 c2 => ?_⟩
  walk_at "ss"
  refine n_tup fun p H4 f4 e4 g4 => ?_
  refine k (.two w1 w2) _ H4 (e1.trans (e2.trans (e3.trans e4))) (.tup g4 (.cons (t1.mono (e3.trans e4).tups) (.cons (t2.mono e4.tups) .nil))) ?_
  show ((w1.things + w2.things : Nat) : Int) = m
  omega
def spn__law_things (Γ : Gm) (n : Nat) : Sp := fun vs H Q _ => ∃ x w, vs = [x] ∧ Tp H x (Wy.data w) ∧ w.things ≤ n ∧ Q (.int w.things) H
def sp__law_things (Γ : Gm) : Sp := spn__law_things Γ 45
/-- law_things: _law_way_here -/
def t__law_things (Γ : Gm) (n : Nat) : TS := (tRet (tIf (tB (tCB (rIsi Γ.K) (tCons (tVar 0) (tCons (tC (.ty "tuple")) tNil)))) (tOp (rAddU Γ.K) (tCal (spn__law_things Γ n) E0 (tCons (tOp (rIx Γ.K) (tVar 0) (tC (.int 0))) tNil)) (tCal (spn__law_things Γ n) E0 (tCons (tOp (rIx Γ.K) (tVar 0) (tC (.int 1))) tNil))) (tC (.int 1))))
theorem rd0__law_things (Γ : Gm) (vs : List V) (H : Hp) (Q : VK) (E : XK) (h : spn__law_things Γ 0 vs H Q E) : False := by
  obtain ⟨x, w, _, _, h, _⟩ := h
  have := w.pos
  omega
theorem rd__law_things (Γ : Gm) (n : Nat) (vs : List V) (H : Hp) (Q : VK) (E : XK) (h : spn__law_things Γ (n + 1) vs H Q E) : t__law_things Γ n ⟨fun _ H' => Q .non H', Q, fun _ _ => False, fun _ _ => False⟩ (startN 1 vs) H := by
  obtain ⟨x, w, rfl, hx, hn, q⟩ := h
  unfold t__law_things
  walk_at "ss"
  refine w_isi hx.tag (by decide) ?_
  rw [hx.dv.ty]
  cases w with
  | one =>
    rw [show tyTab (tyD (Wy.one).data) "tuple" = false from by simp [Wy.data, tyD, tyTab]]
    walk_at "ss"
    exact q
  | two l r =>
    rw [show tyTab (tyD (Wy.two l r).data) "tuple" = true from by simp [Wy.data, tyD, tyTab]]
    have p1 := l.pos
    have p2 := r.pos
    have hn' : l.things + r.things ≤ n + 1 := hn
    obtain ⟨a, xs, rfl, ha, ta⟩ := hx.inv
    obtain ⟨x1, g1, t1⟩ := ta.get (i := 0) rfl
    obtain ⟨x2, g2, t2⟩ := ta.get (i := 1) rfl
    walk_at "ss"
    refine w_ixT (SqT.of ha) (atI_of (by decide) g1) ?_
    walk_at "ss"
    refine ⟨x1, l, rfl, t1, by omega, ?_⟩
    walk_at "ss"
    refine w_ixT (SqT.of ha) (atI_of (by decide) g2) ?_
    walk_at "ss"
    refine ⟨x2, r, rfl, t2, by omega, ?_⟩
    walk_at "ss"
    exact q
def spn__law_row (Γ : Gm) (n : Nat) : Sp := fun vs H Q _ => ∃ v r x w, vs = [v, x] ∧ RuleAt Γ H v r ∧ Tp H x (Wy.data w) ∧ w.things ≤ n ∧ w.things ≤ 45 ∧ (w.things : Int) ≤ r.top ∧ ∀ l H', Same H H' → H l = none → H' l = some (.lst ((r.row w).map V.int)) → Q (.ref l) H'
def sp__law_row (Γ : Gm) : Sp := spn__law_row Γ 45
/-- law_row: _law_rule_here, _law_way_here, _law_own -/
def t__law_row (Γ : Gm) (n : Nat) : TS := (tSeq (tIfS (tNot (tB (tCB (rIsi Γ.K) (tCons (tVar 1) (tCons (tC (.ty "tuple")) tNil))))) (tRet (tLst tNil)) tNext)
  (tSeq (tAsg (tLst (tCons (tCal (sp__law_points Γ) E0 (tCons (tVar 0) (tCons (tCal (sp__law_things Γ) E0 (tCons (tOp (rIx Γ.K) (tVar 1) (tC (.int 0))) tNil)) (tCons (tCal (sp__law_things Γ) E0 (tCons (tOp (rIx Γ.K) (tVar 1) (tC (.int 1))) tNil)) tNil)))) tNil)) (gName 2))
  (tRet (tOp (rAddU Γ.K) (tOp (rAddU Γ.K) (tVar 2) (tCal (spn__law_row Γ n) E0 (tCons (tVar 0) (tCons (tOp (rIx Γ.K) (tVar 1) (tC (.int 0))) tNil)))) (tCal (spn__law_row Γ n) E0 (tCons (tVar 0) (tCons (tOp (rIx Γ.K) (tVar 1) (tC (.int 1))) tNil)))))))
theorem rd0__law_row (Γ : Gm) (vs : List V) (H : Hp) (Q : VK) (E : XK) (h : spn__law_row Γ 0 vs H Q E) : False := by
  obtain ⟨v, r, x, w, _, _, _, h, _⟩ := h
  have := w.pos
  omega
theorem R.row_two (r : R) (a b : Wy) : r.row (.two a b) = r.pts a.things b.things :: (r.row a ++ r.row b) := by
  show ((a.things, b.things) :: (a.splits ++ b.splits)).map _ = _
  rw [List.map_cons, List.map_append]
  rfl
theorem rd__law_row (Γ : Gm) (n : Nat) (vs : List V) (H : Hp) (Q : VK) (E : XK) (h : spn__law_row Γ (n + 1) vs H Q E) : t__law_row Γ n ⟨fun _ H' => Q .non H', Q, fun _ _ => False, fun _ _ => False⟩ (startN 3 vs) H := by
  obtain ⟨v, r, x, w, rfl, hr, hx, hn, h45, ht, k⟩ := h
  unfold t__law_row
  walk_at "ss"
  refine w_isi hx.tag (by decide) ?_
  rw [hx.dv.ty]
  cases w with
  | one =>
    rw [show tyTab (tyD (Wy.one).data) "tuple" = false from by simp [Wy.data, tyD, tyTab]]
    walk_at "ss"
    refine n_lst fun l H1 f1 e1 g1 => ?_
    exact k l H1 e1 f1 g1
  | two a b =>
    rw [show tyTab (tyD (Wy.two a b).data) "tuple" = true from by simp [Wy.data, tyD, tyTab]]
    have p1 := a.pos
    have p2 := b.pos
    have hn' : a.things + b.things ≤ n + 1 := hn
    have h45' : a.things + b.things ≤ 45 := h45
    have ht' : ((a.things + b.things : Nat) : Int) ≤ r.top := ht
    obtain ⟨c, xs, rfl, ha, ta⟩ := hx.inv
    obtain ⟨x1, g1, t1⟩ := ta.get (i := 0) rfl
    obtain ⟨x2, g2, t2⟩ := ta.get (i := 1) rfl
    walk_at "ss"
    refine w_ixT (SqT.of ha) (atI_of (by decide) g1) ?_
    walk_at "ss"
    refine ⟨x1, a, rfl, t1, by omega, ?_⟩
    walk_at "ss"
    refine w_ixT (SqT.of ha) (atI_of (by decide) g2) ?_
    walk_at "ss"
    refine ⟨x2, b, rfl, t2, by omega, ?_⟩
    walk_at "ss"
    refine ⟨v, r, a.things, b.things, rfl, hr, by omega, by omega, by omega, ?_⟩
    walk_at "ss"
    refine n_lst fun l1 H1 f1 e1 q1 => ?_
    walk_at "ss"
    refine w_ixT (SqT.of (e1 _ _ ha)) (atI_of (by decide) g1) ?_
    walk_at "ss"
    refine ⟨v, r, x1, a, rfl, hr.mono e1, t1.mono e1.tups, by omega, by omega, by omega, fun l2 H2 e2 f2 q2 => ?_⟩
    walk_at "ss"
    have z1 := r.row_len a
    have z2 := r.row_len b
    refine w_addL (e2 _ _ q1) q2 (Nat.le_trans (m := 1000) (by simp only [List.length_cons, List.length_nil, List.length_map]; omega) (by decide)) fun l3 H3 f3 e3 q3 => ?_
    walk_at "ss"
    have e13 := e1.trans (e2.trans e3)
    refine w_ixT (SqT.of (e13 _ _ ha)) (atI_of (by decide) g2) ?_
    walk_at "ss"
    refine ⟨v, r, x2, b, rfl, hr.mono e13, t2.mono e13.tups, by omega, by omega, by omega, fun l4 H4 e4 f4 q4 => ?_⟩
    walk_at "ss"
    refine w_addL (e4 _ _ q3) q4 (Nat.le_trans (m := 1000) (by simp only [List.length_append, List.length_cons, List.length_nil, List.length_map]; omega) (by decide)) fun l5 H5 f5 e5 q5 => ?_
    refine k l5 H5 (e13.trans (e4.trans e5)) ((e13.trans e4).free f5) ?_
    rw [q5, R.row_two, List.map_cons, List.map_append]
    rfl

/-! ### the least and the most points, size by size -/
def fAt (gs : List Int) (n : Nat) : Int := gs.getD (n - 1) 0
def cand (r : R) (s : Int) (gs : List Int) (n i : Nat) : Int := fAt gs i + fAt gs (n - i) + s * r.pts i (n - i : Nat)
structure Tab (r : R) (s : Int) (gs : List Int) : Prop where
  one : fAt gs 1 = 0
  low : ∀ n, 2 ≤ n → n ≤ gs.length → ∀ i, 1 ≤ i → i < n → fAt gs n ≤ cand r s gs n i
  hit : ∀ n, 2 ≤ n → n ≤ gs.length → ∃ i, 1 ≤ i ∧ i < n ∧ fAt gs n = cand r s gs n i
theorem fAt_app {gs : List Int} {m : Int} {n : Nat} (h1 : 1 ≤ n) (h : n ≤ gs.length) : fAt (gs ++ [m]) n = fAt gs n := by
  unfold fAt
  rw [List.getD_eq_getElem?_getD, List.getD_eq_getElem?_getD, List.getElem?_append_left (by omega)]
theorem fAt_new {gs : List Int} {m : Int} : fAt (gs ++ [m]) (gs.length + 1) = m := by
  unfold fAt
  rw [List.getD_eq_getElem?_getD, Nat.add_sub_cancel, List.getElem?_append_right (Nat.le_refl _), Nat.sub_self]
  rfl
theorem cand_app {r : R} {s m : Int} {gs : List Int} {n i : Nat} (h1 : 1 ≤ i) (h2 : i < n) (h : n ≤ gs.length + 1) : cand r s (gs ++ [m]) n i = cand r s gs n i := by
  unfold cand
  rw [fAt_app h1 (by omega), fAt_app (by omega) (by omega)]
theorem Tab.app {r : R} {s m : Int} {gs : List Int} (T : Tab r s gs) (hl : 1 ≤ gs.length) (h1 : ∀ i, 1 ≤ i → i < gs.length + 1 → m ≤ cand r s gs (gs.length + 1) i) (h2 : ∃ i, 1 ≤ i ∧ i < gs.length + 1 ∧ m = cand r s gs (gs.length + 1) i) : Tab r s (gs ++ [m]) := by
  refine ⟨?_, fun n hn hn2 i i1 i2 => ?_, fun n hn hn2 => ?_⟩
  · rw [fAt_app (Nat.le_refl _) hl]
    exact T.one
  · rw [List.length_append] at hn2
    have hn2' : n ≤ gs.length + 1 := hn2
    rw [cand_app i1 i2 hn2']
    by_cases e : n ≤ gs.length
    · rw [fAt_app (by omega) e]
      exact T.low n hn e i i1 i2
    · have e' : n = gs.length + 1 := by omega
      subst e'
      rw [fAt_new]
      exact h1 i i1 i2
  · rw [List.length_append] at hn2
    have hn2' : n ≤ gs.length + 1 := hn2
    by_cases e : n ≤ gs.length
    · obtain ⟨i, i1, i2, i3⟩ := T.hit n hn e
      refine ⟨i, i1, i2, ?_⟩
      rw [cand_app i1 i2 hn2', fAt_app (by omega) e]
      exact i3
    · have e' : n = gs.length + 1 := by omega
      subst e'
      obtain ⟨i, i1, i2, i3⟩ := h2
      refine ⟨i, i1, i2, ?_⟩
      rw [cand_app i1 i2 (Nat.le_refl _), fAt_new]
      exact i3
/-- the table's list -/
abbrev tabV (gs : List Int) : List V := .non :: gs.map V.int
theorem tab_ix {gs : List Int} {n : Nat} (h1 : 1 ≤ n) (h : n ≤ gs.length) {j : Int} (e : j = n) : atI (tabV gs) j = some (.int (fAt gs n)) := by
  subst e
  refine atI_of (by omega) ?_
  rw [Int.toNat_natCast]
  obtain ⟨m, rfl⟩ : ∃ m, n = m + 1 := ⟨n - 1, by omega⟩
  unfold tabV fAt
  rw [List.getElem?_cons_succ, List.getElem?_map, List.getElem?_eq_getElem (by omega), Nat.add_sub_cancel, List.getD_eq_getElem?_getD, List.getElem?_eq_getElem (by omega)]
  rfl
/-- how great points are -/
theorem pow_small {x : Int} {k : Nat} (hx : x.natAbs ≤ 2 ^ 100) (hk : k ≤ 4) : (x ^ k).natAbs ≤ 2 ^ 400 := Nat.le_trans (pow_nat hx) (Nat.pow_le_pow_right (by decide) (by omega))
theorem sum_small : ∀ (xs : List Int) {B : Nat}, (∀ x ∈ xs, x.natAbs ≤ B) → xs.sum.natAbs ≤ xs.length * B
  | [], B, _ => by simp
  | x :: xs, B, h => by
    have h1 := h x (List.mem_cons_self ..)
    have h2 := sum_small xs (B := B) fun y hy => h y (List.mem_cons_of_mem _ hy)
    rw [List.sum_cons, List.length_cons, Nat.succ_mul]
    have := Int.natAbs_add_le x xs.sum
    omega
theorem pts_small {r : R} {a b : Int} (ok : r.ok) (ha : 1 ≤ a) (hb : 1 ≤ b) (hs : a + b ≤ r.top) : (r.pts a b).natAbs ≤ 2 ^ 830 := by
  cases r with
  | tab rows =>
    obtain ⟨row, e1, e2⟩ := tab_at ok ha hb hs
    obtain ⟨_, hb'⟩ := ok.2.2 _ _ e1
    have := hb' _ (List.mem_of_getElem? e2)
    refine Nat.le_trans (m := 2 ^ 20) (by omega) (Nat.pow_le_pow_right (by decide) (by decide))
  | trm ts =>
    have top : a + b ≤ 1000000000000000000000000000000 := hs
    have z1 : a.natAbs ≤ 2 ^ 100 := by omega
    have z2 : b.natAbs ≤ 2 ^ 100 := by omega
    obtain ⟨h6, hb6⟩ := ok
    show (ts.map fun t : Int × Nat × Nat => t.1 * a ^ t.2.1 * b ^ t.2.2).sum.natAbs ≤ _
    have key : ∀ x ∈ ts.map (fun t : Int × Nat × Nat => t.1 * a ^ t.2.1 * b ^ t.2.2), x.natAbs ≤ 2 ^ 820 := fun x hx => by
      obtain ⟨t, ht, rfl⟩ := List.mem_map.mp hx
      obtain ⟨t1, t2, t3, t4⟩ := hb6 t ht
      exact mul_nat (m := 420) (n := 400) (mul_nat (m := 20) (n := 400) (by omega) (pow_small z1 t3)) (pow_small z2 t4)
    refine Nat.le_trans (sum_small _ key) ?_
    rw [List.length_map]
    refine Nat.le_trans (Nat.mul_le_mul_right _ (Nat.le_trans h6 (show 6 ≤ 2 ^ 10 from by decide))) ?_
    rw [← Nat.pow_add]
    exact Nat.le_refl _
def sgn (s : Int) : Prop := s = 1 ∨ s = -1
def sp_table_of (Γ : Gm) : Sp := fun vs H Q _ => ∃ v r h s, vs = [v, .int h, .int s] ∧ RuleAt Γ H v r ∧ 1 ≤ h ∧ h ≤ 40 ∧ h ≤ r.top ∧ sgn s ∧ ∀ l gs H', Same H H' → H l = none → H' l = some (.lst (tabV gs)) → (gs.length : Int) = h → Tab r s gs → Q (.ref l) H'
/-- table_of: rule, heap, sign, found, size, some, first -/
def t_table_of (Γ : Gm) : TS := (tSeq (tAsg (tLst (tCons (tC .non) (tCons (tC (.int 0)) tNil))) (gName 3))
  (tSeq (tFor (iRng2 (tCons (tC (.int 2)) (tCons (tOp (rAddU Γ.K) (tVar 1) (tC (.int 1))) tNil))) (gName 4) (tSeq (tAsg (tLst tNil) (gName 5))
  (tSeq (tFor (iRng2 (tCons (tC (.int 1)) (tCons (tVar 4) tNil))) (gName 6) (tDrop (tBM Γ.K "list" rAppend (tVar 5) (tCons (tOp (rAddU Γ.K) (tOp (rAddU Γ.K) (tOp (rIx Γ.K) (tVar 3) (tVar 6)) (tOp (rIx Γ.K) (tVar 3) (tOp rSubI (tVar 4) (tVar 6)))) (tOp (rMulU Γ.K) (tVar 2) (tCal (sp_points_by Γ) E0 (tCons (tVar 0) (tCons (tVar 6) (tCons (tOp rSubI (tVar 4) (tVar 6)) tNil)))))) tNil))))
  (tDrop (tBM Γ.K "list" rAppend (tVar 3) (tCons (tCB (rMin Γ.K) (tCons (tVar 5) tNil)) tNil))))))
  (tRet (tVar 3))))
theorem rd_table_of (Γ : Gm) (vs : List V) (H : Hp) (Q : VK) (E : XK) (h : sp_table_of Γ vs H Q E) : t_table_of Γ ⟨fun _ H' => Q .non H', Q, fun _ _ => False, fun _ _ => False⟩ (startN 7 vs) H := by
  obtain ⟨v, r, h, s, rfl, hr, h1, h40, ht, hs, k⟩ := h
  have hok := hr.ok
  have hsn : s.natAbs ≤ 2 ^ 1 := by rcases hs with rfl | rfl <;> decide
  unfold t_table_of
  walk_at "ss"
  refine n_lst fun L H1 fL e1 g1 => ?_
  walk_at "ss"
  refine k_rng2 (by omega) ?_
  refine k_range (fun i σ H' => ∃ gs x4 x5 x6, σ = [some v, some (.int h), some (.int s), some (.ref L), x4, x5, x6] ∧ gs.length = i + 1 ∧ Same H H' ∧ H' L = some (.lst (tabV gs)) ∧ Tab r s gs) ⟨[0], none, none, none, rfl, rfl, e1, g1, ⟨rfl, fun n n2 n3 => by simp only [List.length_cons, List.length_nil] at n3; omega, fun n n2 n3 => by simp only [List.length_cons, List.length_nil] at n3; omega⟩⟩ ?_ ?_
  · rintro i σ H2 hi ⟨gs, x4, x5, x6, rfl, hgl, e2, g2, T⟩
    have hi' : (i : Int) + 2 ≤ h := by omega
    walk_at "ss"
    refine n_lst fun M H3 fM e3 g3 => ?_
    walk_at "ss"
    refine k_rng2 (by omega) ?_
    refine k_range (fun j σ H' => ∃ x6, σ = [some v, some (.int h), some (.int s), some (.ref L), some (.int (2 + (i : Int))), some (.ref M), x6] ∧ Same H2 H' ∧ H' M = some (.lst (((List.range j).map fun j => cand r s gs (i + 2) (j + 1)).map V.int))) ⟨_, rfl, e3, g3⟩ ?_ ?_
    · rintro j σ H4 hj ⟨x6', rfl, e4, g4⟩
      have hj' : j < i + 1 := by omega
      walk_at "ss"
      refine w_tyL g4 ?_
      walk_at "ss"
      refine w_ixL (SqL.of (e4 _ _ g2)) (tab_ix (n := j + 1) (by omega) (by omega) (by omega)) ?_
      walk_at "ss"
      refine w_ixL (SqL.of (e4 _ _ g2)) (tab_ix (n := i + 2 - (j + 1)) (by omega) (by omega) (by omega)) ?_
      walk_at "ss"
      refine ⟨v, r, _, _, rfl, hr.mono (e2.trans e4), by omega, by omega, by omega, fun H5 e5 => ?_⟩
      have ps := pts_small (r := r) (a := 1 + (j : Int)) (b := 2 + (i : Int) - (1 + (j : Int))) hok (by omega) (by omega) (by omega)
      walk_at "ss"
      refine w_mulI (cmul_of hsn ps) ?_
      walk_at "ss"
      refine w_app (e5 _ _ g4) (by rw [List.length_map, List.length_map, List.length_range]; omega) ?_
      refine ⟨_, rfl, Same.mut (e4.trans e5) fM, ?_⟩
      rw [upd_same, List.range_succ, List.map_append, List.map_append]
      have ec : cand r s gs (i + 2) (j + 1) = fAt gs (j + 1) + fAt gs (i + 2 - (j + 1)) + s * r.pts (1 + (j : Int)) (2 + (i : Int) - (1 + (j : Int))) := by
        unfold cand
        rw [show (((j + 1 : Nat)) : Int) = 1 + (j : Int) by omega, show (((i + 2 - (j + 1) : Nat)) : Int) = 2 + (i : Int) - (1 + (j : Int)) by omega]
      rw [← ec]
      rfl
    · rintro σ H4 ⟨x6', rfl, e4, g4⟩
      have ej : (2 + (i : Int) - 1).toNat = i + 1 := by omega
      rw [ej] at g4
      walk_at "ss"
      have gL := e4 _ _ g2
      refine w_tyL gL ?_
      walk_at "ss"
      refine w_min g4 (by rw [List.length_map, List.length_range]; omega) fun m hm hlow => ?_
      walk_at "ss"
      refine w_app gL (by simp only [List.length_cons, List.length_map]; omega) ?_
      have hmem : ∀ j, j < i + 1 → cand r s gs (i + 2) (j + 1) ∈ (List.range (i + 1)).map fun j => cand r s gs (i + 2) (j + 1) := fun j hj => List.mem_map.mpr ⟨j, List.mem_range.mpr hj, rfl⟩
      refine ⟨gs ++ [m], _, _, _, rfl, by rw [List.length_append, hgl]; rfl, Same.mut (e2.trans e4) fL, ?_, ?_⟩
      · rw [upd_same]
        unfold tabV
        rw [List.map_append]
        rfl
      · refine T.app (by omega) (fun a a1 a2 => ?_) ?_
        · rw [hgl]
          have := hlow _ (hmem (a - 1) (by omega))
          rwa [show a - 1 + 1 = a by omega] at this
        · obtain ⟨j, hj, rfl⟩ := List.mem_map.mp hm
          have := List.mem_range.mp hj
          refine ⟨j + 1, by omega, by omega, ?_⟩
          rw [hgl]
  · rintro σ H2 ⟨gs, x4, x5, x6, rfl, hgl, e2, g2, T⟩
    walk_at "ss"
    exact k L gs H2 e2 fL g2 (by omega) T

/-! ### least, greatest, the first ways -/
theorem heap_yes {r : R} {n : Int} (h1 : 1 ≤ n) (h2 : n ≤ 40) (h3 : n ≤ r.top) : heapOk r 40 (.int n) = true := by
  unfold heapOk
  refine inD_yes h1 ?_
  split <;> omega
theorem w_heap {Γ : Gm} {H : Hp} {Q : VK} {E : XK} {v : V} {r : R} {n : Int} (hr : RuleAt Γ H v r) (h1 : 1 ≤ n) (h2 : n ≤ 40) (h3 : n ≤ r.top) (k : Q .non H) : sp_check_heap Γ [v, .int n, .int 40] H Q E :=
  ⟨v, r, .int n, .int n, 40, rfl, hr, .int n, (fun z => by rw [heap_yes h1 h2 h3] at z; cases z), fun _ => k⟩
def sp_least (Γ : Gm) : Sp := fun vs H Q _ => ∃ v r, ∃ n : Nat, vs = [v, .int n] ∧ RuleAt Γ H v r ∧ 1 ≤ n ∧ n ≤ 40 ∧ (n : Int) ≤ r.top ∧ ∀ gs H', Same H H' → gs.length = n → Tab r 1 gs → Q (.int (fAt gs n)) H'
def sp_greatest (Γ : Gm) : Sp := fun vs H Q _ => ∃ v r, ∃ n : Nat, vs = [v, .int n] ∧ RuleAt Γ H v r ∧ 1 ≤ n ∧ n ≤ 40 ∧ (n : Int) ≤ r.top ∧ ∀ gs H', Same H H' → gs.length = n → Tab r (-1) gs → Q (.int (0 - fAt gs n)) H'
/-- least: rule, heap -/
def t_least (Γ : Gm) (E : XK) : TS := (tSeq (tDrop (tCal (sp_check_heap Γ) E (tCons (tVar 0) (tCons (tVar 1) (tCons (tC (.int 40)) tNil)))))
  (tRet (tOp (rIx Γ.K) (tCal (sp_table_of Γ) E0 (tCons (tVar 0) (tCons (tVar 1) (tCons (tC (.int 1)) tNil)))) (tVar 1))))
theorem rd_least (Γ : Gm) (vs : List V) (H : Hp) (Q : VK) (E : XK) (h : sp_least Γ vs H Q E) : t_least Γ E ⟨fun _ H' => Q .non H', Q, fun _ _ => False, fun _ _ => False⟩ (startN 2 vs) H := by
  obtain ⟨v, r, n, rfl, hr, h1, h40, ht, k⟩ := h
  unfold t_least
  walk_at "ss"
  refine w_heap hr (by omega) (by omega) ht ?_
  walk_at "ss"
  refine ⟨v, r, n, 1, rfl, hr, by omega, by omega, ht, .inl rfl, fun l gs H1 e1 f1 g1 hl T => ?_⟩
  walk_at "ss"
  refine w_ixL (SqL.of g1) (tab_ix (n := n) h1 (by omega) rfl) ?_
  exact k gs H1 e1 (by omega) T
/-- greatest: rule, heap -/
def t_greatest (Γ : Gm) (E : XK) : TS := (tSeq (tDrop (tCal (sp_check_heap Γ) E (tCons (tVar 0) (tCons (tVar 1) (tCons (tC (.int 40)) tNil)))))
  (tRet (tOp rSubI (tC (.int 0)) (tOp (rIx Γ.K) (tCal (sp_table_of Γ) E0 (tCons (tVar 0) (tCons (tVar 1) (tCons (tUn (rU fun i => .int (-i)) (tC (.int 1))) tNil)))) (tVar 1)))))
theorem rd_greatest (Γ : Gm) (vs : List V) (H : Hp) (Q : VK) (E : XK) (h : sp_greatest Γ vs H Q E) : t_greatest Γ E ⟨fun _ H' => Q .non H', Q, fun _ _ => False, fun _ _ => False⟩ (startN 2 vs) H := by
  obtain ⟨v, r, n, rfl, hr, h1, h40, ht, k⟩ := h
  unfold t_greatest
  walk_at "ss"
  refine w_heap hr (by omega) (by omega) ht ?_
  walk_at "ss"
  refine ⟨v, r, n, -1, rfl, hr, by omega, by omega, ht, .inr rfl, fun l gs H1 e1 f1 g1 hl T => ?_⟩
  walk_at "ss"
  refine w_ixL (SqL.of g1) (tab_ix (n := n) h1 (by omega) rfl) ?_
  walk_at "ss"
  exact k gs H1 e1 (by omega) T
def firsts (r : R) (s : Int) (gs : List Int) (n : Nat) : List Nat := ((List.range (n - 1)).map (· + 1)).filter fun i => decide (cand r s gs n i = fAt gs n)
def sp_firsts_of (Γ : Gm) : Sp := fun vs H Q _ => ∃ v r t gs, ∃ n : Nat, ∃ s, vs = [v, .ref t, .int n, .int s] ∧ RuleAt Γ H v r ∧ H t = some (.lst (tabV gs)) ∧ 1 ≤ n ∧ n ≤ gs.length ∧ n ≤ 40 ∧ (n : Int) ≤ r.top ∧ sgn s ∧
  ∀ l H', Same H H' → H l = none → H' l = some (.lst ((firsts r s gs n).map fun i : Nat => V.int (i : Int))) → Q (.ref l) H'
/-- firsts_of: rule, table, heap, sign, found, first -/
def t_firsts_of (Γ : Gm) : TS := (tSeq (tAsg (tLst tNil) (gName 4))
  (tSeq (tFor (iRng2 (tCons (tC (.int 1)) (tCons (tVar 2) tNil))) (gName 5) (tIfS (tTest (tOp (rEqU Γ.K) (tOp (rAddU Γ.K) (tOp (rAddU Γ.K) (tOp (rIx Γ.K) (tVar 1) (tVar 5)) (tOp (rIx Γ.K) (tVar 1) (tOp rSubI (tVar 2) (tVar 5)))) (tOp (rMulU Γ.K) (tVar 3) (tCal (sp_points_by Γ) E0 (tCons (tVar 0) (tCons (tVar 5) (tCons (tOp rSubI (tVar 2) (tVar 5)) tNil)))))) (tOp (rIx Γ.K) (tVar 1) (tVar 2)))) (tDrop (tBM Γ.K "list" rAppend (tVar 4) (tCons (tVar 5) tNil))) tNext))
  (tRet (tVar 4))))
theorem rd_firsts_of (Γ : Gm) (vs : List V) (H : Hp) (Q : VK) (E : XK) (h : sp_firsts_of Γ vs H Q E) : t_firsts_of Γ ⟨fun _ H' => Q .non H', Q, fun _ _ => False, fun _ _ => False⟩ (startN 6 vs) H := by
  obtain ⟨v, r, t, gs, n, s, rfl, hr, ht, h1, hg, h40, htop, hs, k⟩ := h
  have hok := hr.ok
  have hsn : s.natAbs ≤ 2 ^ 1 := by rcases hs with rfl | rfl <;> decide
  unfold t_firsts_of
  walk_at "ss"
  refine n_lst fun L H1 fL e1 g1 => ?_
  walk_at "ss"
  refine k_rng2 (by omega) ?_
  refine k_range (fun j σ H' => ∃ x5, σ = [some v, some (.ref t), some (.int n), some (.int s), some (.ref L), x5] ∧ Same H H' ∧ H' L = some (.lst ((((List.range j).map (· + 1)).filter fun i => decide (cand r s gs n i = fAt gs n)).map fun i : Nat => V.int (i : Int)))) ⟨_, rfl, e1, g1⟩ ?_ ?_
  · rintro j σ H2 hj ⟨x5, rfl, e2, g2⟩
    have hj' : j + 1 < n := by omega
    walk_at "ss"
    refine w_ixL (SqL.of (e2 _ _ ht)) (tab_ix (n := j + 1) (by omega) (by omega) (by omega)) ?_
    walk_at "ss"
    refine w_ixL (SqL.of (e2 _ _ ht)) (tab_ix (n := n - (j + 1)) (by omega) (by omega) (by omega)) ?_
    walk_at "ss"
    refine ⟨v, r, _, _, rfl, hr.mono e2, by omega, by omega, by omega, fun H3 e3 => ?_⟩
    have ps := pts_small (r := r) (a := 1 + (j : Int)) (b := (n : Int) - (1 + (j : Int))) hok (by omega) (by omega) (by omega)
    walk_at "ss"
    refine w_mulI (cmul_of hsn ps) ?_
    walk_at "ss"
    refine w_ixL (SqL.of ((e2.trans e3) _ _ ht)) (tab_ix (n := n) (by omega) (by omega) rfl) ?_
    walk_at "ss"
    have ec : cand r s gs n (j + 1) = fAt gs (j + 1) + fAt gs (n - (j + 1)) + s * r.pts (1 + (j : Int)) ((n : Int) - (1 + (j : Int))) := by
      unfold cand
      rw [show (((j + 1 : Nat)) : Int) = 1 + (j : Int) by omega, show (((n - (j + 1) : Nat)) : Int) = (n : Int) - (1 + (j : Int)) by omega]
    rw [← ec]
    refine w_ite (fun e => ?_) (fun e => ?_)
    · walk_at "ss"
      refine w_tyL (e3 _ _ g2) ?_
      walk_at "ss"
      have ll : (((List.range j).map (· + 1)).filter fun i => decide (cand r s gs n i = fAt gs n)).length ≤ j := by
        refine Nat.le_trans (List.length_filter_le _ _) ?_
        rw [List.length_map, List.length_range]
        exact Nat.le_refl _
      refine w_app (e3 _ _ g2) (by rw [List.length_map]; omega) ?_
      refine ⟨_, rfl, Same.mut (e2.trans e3) fL, ?_⟩
      rw [upd_same, List.range_succ, List.map_append, List.filter_append, List.map_append]
      simp only [List.map_cons, List.map_nil]
      rw [show [j + 1].filter (fun i => decide (cand r s gs n i = fAt gs n)) = [j + 1] from by simp only [List.filter_cons, List.filter_nil]; rw [if_pos e]]
      simp only [List.map_cons, List.map_nil]
      rw [show (((j + 1 : Nat)) : Int) = 1 + (j : Int) by omega]
    · walk_at "ss"
      refine ⟨_, rfl, e2.trans e3, ?_⟩
      rw [List.range_succ, List.map_append, List.filter_append, List.map_append]
      simp only [List.map_cons, List.map_nil]
      rw [show [j + 1].filter (fun i => decide (cand r s gs n i = fAt gs n)) = [] from by simp only [List.filter_cons, List.filter_nil]; rw [if_neg (by rw [e]; decide)]]
      simp only [List.map_nil, List.append_nil]
      exact e3 _ _ g2
  · rintro σ H2 ⟨x5, rfl, e2, g2⟩
    walk_at "ss"
    refine k L H2 e2 fL ?_
    rw [show ((n : Int) - 1).toNat = n - 1 by omega] at g2
    exact g2
theorem mem_firsts {r : R} {s : Int} {gs : List Int} {n i : Nat} : i ∈ firsts r s gs n ↔ 1 ≤ i ∧ i < n ∧ cand r s gs n i = fAt gs n := by
  unfold firsts
  rw [List.mem_filter, decide_eq_true_eq, List.mem_map]
  constructor
  · rintro ⟨⟨j, hj, rfl⟩, h⟩
    have := List.mem_range.mp hj
    exact ⟨by omega, by omega, h⟩
  · rintro ⟨h1, h2, h3⟩
    exact ⟨⟨i - 1, List.mem_range.mpr (by omega), by omega⟩, h3⟩
theorem firsts_ne {r : R} {s : Int} {gs : List Int} {n : Nat} (T : Tab r s gs) (h2 : 2 ≤ n) (h : n ≤ gs.length) : ∃ i is, firsts r s gs n = i :: is := by
  obtain ⟨i, i1, i2, i3⟩ := T.hit n h2 h
  have : i ∈ firsts r s gs n := mem_firsts.mpr ⟨i1, i2, i3.symm⟩
  cases e : firsts r s gs n with
  | nil => rw [e] at this; cases this
  | cons a as => exact ⟨a, as, rfl⟩
/-- the first of the best ways -/
def fwN (r : R) (s : Int) (gs : List Int) : Nat → Nat → Wy
  | 0, _ => .one
  | k + 1, n => if n = 1 then .one else .two (fwN r s gs k ((firsts r s gs n).headD 1)) (fwN r s gs k (n - (firsts r s gs n).headD 1))
def spn_first_way (Γ : Gm) (k : Nat) : Sp := fun vs H Q _ => ∃ v r t gs, ∃ n : Nat, ∃ s, vs = [v, .ref t, .int n, .int s] ∧ RuleAt Γ H v r ∧ H t = some (.lst (tabV gs)) ∧ Tab r s gs ∧ 1 ≤ n ∧ n ≤ k ∧ n ≤ gs.length ∧ n ≤ 40 ∧ (n : Int) ≤ r.top ∧ sgn s ∧
  ∀ y H', Same H H' → Tp H' y (fwN r s gs k n).data → Q y H'
def sp_first_way (Γ : Gm) : Sp := spn_first_way Γ 45
/-- first_way: rule, table, heap, sign, first -/
def t_first_way (Γ : Gm) (n : Nat) : TS := (tSeq (tIfS (tTest (tOp (rEqU Γ.K) (tVar 2) (tC (.int 1)))) (tRet (tC (.int 1))) tNext)
  (tSeq (tAsg (tOp (rIx Γ.K) (tCal (sp_firsts_of Γ) E0 (tCons (tVar 0) (tCons (tVar 1) (tCons (tVar 2) (tCons (tVar 3) tNil))))) (tC (.int 0))) (gName 4))
  (tRet (tTup (tCons (tCal (spn_first_way Γ n) E0 (tCons (tVar 0) (tCons (tVar 1) (tCons (tVar 4) (tCons (tVar 3) tNil))))) (tCons (tCal (spn_first_way Γ n) E0 (tCons (tVar 0) (tCons (tVar 1) (tCons (tOp rSubI (tVar 2) (tVar 4)) (tCons (tVar 3) tNil))))) tNil))))))
theorem rd0_first_way (Γ : Gm) (vs : List V) (H : Hp) (Q : VK) (E : XK) (h : spn_first_way Γ 0 vs H Q E) : False := by
  obtain ⟨v, r, t, gs, n, s, _, _, _, _, h1, h2, _⟩ := h
  omega
theorem rd_first_way (Γ : Gm) (k : Nat) (vs : List V) (H : Hp) (Q : VK) (E : XK) (h : spn_first_way Γ (k + 1) vs H Q E) : t_first_way Γ k ⟨fun _ H' => Q .non H', Q, fun _ _ => False, fun _ _ => False⟩ (startN 5 vs) H := by
  obtain ⟨v, r, t, gs, n, s, rfl, hr, ht, T, h1, hk, hg, h40, htop, hs, q⟩ := h
  unfold t_first_way
  walk_at "ss"
  have unf : fwN r s gs (k + 1) n = if n = 1 then .one else .two (fwN r s gs k ((firsts r s gs n).headD 1)) (fwN r s gs k (n - (firsts r s gs n).headD 1)) := rfl
  rw [unf] at q
  by_cases e : n = 1
  · subst e
    rw [if_pos rfl] at q
    refine w_ifY rfl ?_
    walk_at "ss"
    exact q _ H (Same.refl H) (.int 1)
  rw [if_neg e] at q
  refine w_ifN (decide_eq_false (by omega)) ?_
  walk_at "ss"
  refine ⟨v, r, t, gs, n, s, rfl, hr, ht, h1, hg, h40, htop, hs, fun l H1 e1 f1 g1 => ?_⟩
  obtain ⟨i, is, ef⟩ := firsts_ne T (by omega) hg
  obtain ⟨i1, i2, i3⟩ := mem_firsts.mp (show i ∈ firsts r s gs n by rw [ef]; exact List.mem_cons_self ..)
  rw [ef] at g1 q
  walk_at "ss"
  refine w_ixL (SqL.of g1) (atI_of (by decide) rfl) ?_
  walk_at "ss"
  refine ⟨v, r, t, gs, i, s, rfl, hr.mono e1, e1 _ _ ht, T, i1, by omega, by omega, by omega, by omega, hs, fun y1 H2 e2 t1 => ?_⟩
  walk_at "ss"
  refine ⟨v, r, t, gs, n - i, s, ?_, hr.mono (e1.trans e2), (e1.trans e2) _ _ ht, T, by omega, by omega, by omega, by omega, by omega, hs, fun y2 H3 e3 t2 => ?_⟩
  · rw [show ((n - i : Nat) : Int) = (n : Int) - (i : Int) by omega]
  walk_at "ss"
  refine n_tup fun p H4 f4 e4 g4 => ?_
  exact q _ H4 (e1.trans (e2.trans (e3.trans e4))) (.tup g4 (.cons (t1.mono (e3.trans e4).tups) (.cons (t2.mono e4.tups) .nil)))
def sp_least_way (Γ : Gm) : Sp := fun vs H Q _ => ∃ v r, ∃ n : Nat, vs = [v, .int n] ∧ RuleAt Γ H v r ∧ 1 ≤ n ∧ n ≤ 40 ∧ (n : Int) ≤ r.top ∧ ∀ gs y H', Same H H' → gs.length = n → Tab r 1 gs → Tp H' y (fwN r 1 gs 45 n).data → Q y H'
def sp_greatest_way (Γ : Gm) : Sp := fun vs H Q _ => ∃ v r, ∃ n : Nat, vs = [v, .int n] ∧ RuleAt Γ H v r ∧ 1 ≤ n ∧ n ≤ 40 ∧ (n : Int) ≤ r.top ∧ ∀ gs y H', Same H H' → gs.length = n → Tab r (-1) gs → Tp H' y (fwN r (-1) gs 45 n).data → Q y H'
/-- least_way: rule, heap -/
def t_least_way (Γ : Gm) (E : XK) : TS := (tSeq (tDrop (tCal (sp_check_heap Γ) E (tCons (tVar 0) (tCons (tVar 1) (tCons (tC (.int 40)) tNil)))))
  (tRet (tCal (sp_first_way Γ) E0 (tCons (tVar 0) (tCons (tCal (sp_table_of Γ) E0 (tCons (tVar 0) (tCons (tVar 1) (tCons (tC (.int 1)) tNil)))) (tCons (tVar 1) (tCons (tC (.int 1)) tNil)))))))
theorem rd_least_way (Γ : Gm) (vs : List V) (H : Hp) (Q : VK) (E : XK) (h : sp_least_way Γ vs H Q E) : t_least_way Γ E ⟨fun _ H' => Q .non H', Q, fun _ _ => False, fun _ _ => False⟩ (startN 2 vs) H := by
  obtain ⟨v, r, n, rfl, hr, h1, h40, ht, k⟩ := h
  unfold t_least_way
  walk_at "ss"
  refine w_heap hr (by omega) (by omega) ht ?_
  walk_at "ss"
  refine ⟨v, r, n, 1, rfl, hr, by omega, by omega, ht, .inl rfl, fun l gs H1 e1 f1 g1 hl T => ?_⟩
  walk_at "ss"
  exact ⟨v, r, l, gs, n, 1, rfl, hr.mono e1, g1, T, h1, by omega, by omega, h40, ht, .inl rfl, fun y H2 e2 ty => k gs y H2 (e1.trans e2) (by omega) T ty⟩
/-- greatest_way: rule, heap -/
def t_greatest_way (Γ : Gm) (E : XK) : TS := (tSeq (tDrop (tCal (sp_check_heap Γ) E (tCons (tVar 0) (tCons (tVar 1) (tCons (tC (.int 40)) tNil)))))
  (tRet (tCal (sp_first_way Γ) E0 (tCons (tVar 0) (tCons (tCal (sp_table_of Γ) E0 (tCons (tVar 0) (tCons (tVar 1) (tCons (tUn (rU fun i => .int (-i)) (tC (.int 1))) tNil)))) (tCons (tVar 1) (tCons (tUn (rU fun i => .int (-i)) (tC (.int 1))) tNil)))))))
theorem rd_greatest_way (Γ : Gm) (vs : List V) (H : Hp) (Q : VK) (E : XK) (h : sp_greatest_way Γ vs H Q E) : t_greatest_way Γ E ⟨fun _ H' => Q .non H', Q, fun _ _ => False, fun _ _ => False⟩ (startN 2 vs) H := by
  obtain ⟨v, r, n, rfl, hr, h1, h40, ht, k⟩ := h
  unfold t_greatest_way
  walk_at "ss"
  refine w_heap hr (by omega) (by omega) ht ?_
  walk_at "ss"
  refine ⟨v, r, n, -1, rfl, hr, by omega, by omega, ht, .inr rfl, fun l gs H1 e1 f1 g1 hl T => ?_⟩
  walk_at "ss"
  exact ⟨v, r, l, gs, n, -1, rfl, hr.mono e1, g1, T, h1, by omega, by omega, h40, ht, .inr rfl, fun y H2 e2 ty => k gs y H2 (e1.trans e2) (by omega) T ty⟩

/-! ### how many best ways there are -/
structure Cnt (r : R) (s : Int) (gs : List Int) (cs : List Int) : Prop where
  one : cs.getD 1 0 = 1
  step : ∀ n, 2 ≤ n → n < cs.length → cs.getD n 0 = ((firsts r s gs n).map fun i => cs.getD i 0 * cs.getD (n - i) 0).sum
  small : ∀ n, 1 ≤ n → n < cs.length → (cs.getD n 0).natAbs ≤ 2 ^ (6 * (n - 1))
theorem getD_app {cs : List Int} {m : Int} {n : Nat} (h : n < cs.length) : (cs ++ [m]).getD n 0 = cs.getD n 0 := by
  rw [List.getD_eq_getElem?_getD, List.getD_eq_getElem?_getD, List.getElem?_append_left h]
theorem getD_new {cs : List Int} {m : Int} : (cs ++ [m]).getD cs.length 0 = m := by
  rw [List.getD_eq_getElem?_getD, List.getElem?_append_right (Nat.le_refl _), Nat.sub_self]
  rfl
theorem firsts_len {r : R} {s : Int} {gs : List Int} {n : Nat} : (firsts r s gs n).length ≤ n - 1 := by
  unfold firsts
  refine Nat.le_trans (List.length_filter_le _ _) ?_
  rw [List.length_map, List.length_range]
  exact Nat.le_refl _
theorem Cnt.app {r : R} {s : Int} {gs cs : List Int} (C : Cnt r s gs cs) (h2 : 2 ≤ cs.length) (h40 : cs.length ≤ 40) : Cnt r s gs (cs ++ [((firsts r s gs cs.length).map fun i => cs.getD i 0 * cs.getD (cs.length - i) 0).sum]) := by
  have same : ∀ n, n ≤ cs.length → ∀ m, ((firsts r s gs n).map fun i => (cs ++ [m]).getD i 0 * (cs ++ [m]).getD (n - i) 0) = (firsts r s gs n).map fun i => cs.getD i 0 * cs.getD (n - i) 0 := fun n hn m => by
    apply List.map_congr_left
    intro i hi
    obtain ⟨i1, i2, _⟩ := mem_firsts.mp hi
    rw [getD_app (by omega), getD_app (by omega)]
  refine ⟨?_, fun n n2 nl => ?_, fun n n1 nl => ?_⟩
  · rw [getD_app (by omega)]
    exact C.one
  · rw [List.length_append] at nl
    have nl' : n < cs.length + 1 := nl
    rw [same n (by omega)]
    by_cases e : n < cs.length
    · rw [getD_app e]
      exact C.step n n2 e
    · have : n = cs.length := by omega
      subst this
      rw [getD_new]
  · rw [List.length_append] at nl
    have nl' : n < cs.length + 1 := nl
    by_cases e : n < cs.length
    · rw [getD_app e]
      exact C.small n n1 e
    · have : n = cs.length := by omega
      subst this
      rw [getD_new]
      have b : ∀ x ∈ (firsts r s gs cs.length).map (fun i => cs.getD i 0 * cs.getD (cs.length - i) 0), x.natAbs ≤ 2 ^ (6 * (cs.length - 2)) := fun x hx => by
        obtain ⟨i, hi, rfl⟩ := List.mem_map.mp hx
        obtain ⟨i1, i2, _⟩ := mem_firsts.mp hi
        have := mul_nat (C.small i i1 (by omega)) (C.small (cs.length - i) (by omega) (by omega))
        rwa [show 6 * (i - 1) + 6 * (cs.length - i - 1) = 6 * (cs.length - 2) by omega] at this
      refine Nat.le_trans (sum_small _ b) ?_
      rw [List.length_map, show 6 * (cs.length - 1) = 6 + 6 * (cs.length - 2) by omega, Nat.pow_add]
      refine Nat.mul_le_mul_right _ (Nat.le_trans firsts_len ?_)
      show cs.length - 1 ≤ 64
      omega
def sp_counted (Γ : Gm) : Sp := fun vs H Q _ => ∃ v r, ∃ n : Nat, ∃ s, vs = [v, .int n, .int s] ∧ RuleAt Γ H v r ∧ 1 ≤ n ∧ n ≤ 40 ∧ (n : Int) ≤ r.top ∧ sgn s ∧ ∀ gs cs H', Same H H' → gs.length = n → Tab r s gs → cs.length = n + 1 → Cnt r s gs cs → Q (.int (cs.getD n 0)) H'
theorem ints_ix {cs : List Int} {n : Nat} (h : n < cs.length) {j : Int} (e : j = n) : atI (cs.map V.int) j = some (.int (cs.getD n 0)) := by
  subst e
  refine atI_of (by omega) ?_
  rw [Int.toNat_natCast, List.getElem?_map, List.getElem?_eq_getElem h, List.getD_eq_getElem?_getD, List.getElem?_eq_getElem h]
  rfl
/-- counted: rule, heap, sign, table, found, size, some, first -/
def t_counted (Γ : Gm) : TS := (tSeq (tAsg (tTup (tCons (tCal (sp_table_of Γ) E0 (tCons (tVar 0) (tCons (tVar 1) (tCons (tVar 2) tNil)))) (tCons (tLst (tCons (tC (.int 0)) (tCons (tC (.int 1)) tNil))) tNil))) (gTup Γ.K 2 (gCons (gName 3) (gCons (gName 4) gNil))))
  (tSeq (tFor (iRng2 (tCons (tC (.int 2)) (tCons (tOp (rAddU Γ.K) (tVar 1) (tC (.int 1))) tNil))) (gName 5) (tSeq (tAsg (tCal (sp_firsts_of Γ) E0 (tCons (tVar 0) (tCons (tVar 3) (tCons (tVar 5) (tCons (tVar 2) tNil))))) (gName 6))
  (tDrop (tBM Γ.K "list" rAppend (tVar 4) (tCons (tCB (rSum Γ.K) (tCons (tLc (iSeq Γ.K (tVar 6)) (gName 7) tYes (tOp (rMulU Γ.K) (tOp (rIx Γ.K) (tVar 4) (tVar 7)) (tOp (rIx Γ.K) (tVar 4) (tOp rSubI (tVar 5) (tVar 7)))) [7]) tNil)) tNil)))))
  (tRet (tOp (rIx Γ.K) (tVar 4) (tVar 1)))))
theorem rd_counted (Γ : Gm) (vs : List V) (H : Hp) (Q : VK) (E : XK) (h : sp_counted Γ vs H Q E) : t_counted Γ ⟨fun _ H' => Q .non H', Q, fun _ _ => False, fun _ _ => False⟩ (startN 8 vs) H := by
  obtain ⟨v, r, n, s, rfl, hr, h1, h40, ht, hs, k⟩ := h
  unfold t_counted
  walk_at "ss"
  refine ⟨v, r, n, s, rfl, hr, by omega, by omega, ht, hs, fun t gs H1 e1 f1 g1 hl T => ?_⟩
  have hgl : gs.length = n := by omega
  walk_at "ss"
  refine n_lst fun L H2 fL e2 g2 => ?_
  walk_at "ss"
  refine n_tup fun p H3 f3 e3 g3 => ?_
  refine w_gTup (SqT.of g3) rfl ?_
  walk_at "ss"
  refine k_rng2 (by omega) ?_
  have e13 := e1.trans (e2.trans e3)
  refine k_range (fun i σ H' => ∃ cs x5 x6 x7, σ = [some v, some (.int n), some (.int s), some (.ref t), some (.ref L), x5, x6, x7] ∧ Same H1 H' ∧ H' L = some (.lst (cs.map V.int)) ∧ cs.length = i + 2 ∧ Cnt r s gs cs) ⟨[0, 1], none, none, none, rfl, e2.trans e3, e3 _ _ g2, rfl, ⟨rfl, fun n n2 nl => by simp only [List.length_cons, List.length_nil] at nl; omega, fun n n1 nl => by
    simp only [List.length_cons, List.length_nil] at nl
    have : n = 1 := by omega
    subst this
    decide⟩⟩ ?_ ?_
  · rintro i σ H4 hi ⟨cs, x5, x6, x7, rfl, e4, g4, cl, C⟩
    have hi' : i + 2 ≤ n := by omega
    walk_at "ss"
    refine ⟨v, r, t, gs, i + 2, s, ?_, hr.mono (e1.trans e4), e4 _ _ g1, by omega, by omega, by omega, by omega, hs, fun M H5 e5 f5 g5 => ?_⟩
    · rw [show (((i + 2 : Nat)) : Int) = 2 + (i : Int) by omega]
    walk_at "ss"
    refine w_tyL (e5 _ _ g4) ?_
    walk_at "ss"
    refine k_seqL (SqL.of g5) ?_
    have fl := firsts_len (r := r) (s := s) (gs := gs) (n := i + 2)
    refine k_lcList (fun j acc H' => acc = (((firsts r s gs (i + 2)).take j).map fun a => cs.getD a 0 * cs.getD (i + 2 - a) 0).map V.int) (SqL.of g5) (fun _ _ => rfl) ?_ ?_
    · rintro j x D acc H6 hj hD e6 hacc rfl
      rw [List.getElem?_map] at hj
      obtain ⟨a, ha, rfl⟩ := Option.map_eq_some_iff.mp hj
      obtain ⟨a1, a2, _⟩ := mem_firsts.mp (List.mem_of_getElem? ha)
      have gL := (e5.trans e6) _ _ g4
      walk_at "ss"
      refine ⟨rfl, ?_⟩
      walk_at "ss"
      refine w_ixL (SqL.of gL) (ints_ix (n := a) (by omega) rfl) ?_
      walk_at "ss"
      refine w_ixL (SqL.of gL) (ints_ix (n := i + 2 - a) (by omega) (by omega)) ?_
      have s1 := C.small a a1 (by omega)
      have s2 := C.small (i + 2 - a) (by omega) (by omega)
      refine w_mulI (cmul_of s1 s2) ?_
      have jl : j < (firsts r s gs (i + 2)).length := (List.getElem?_eq_some_iff.mp ha).1
      refine lcTurn.mk hD e6 hacc (by rw [List.length_map, List.length_map, List.length_take]; omega) ?_
      rw [take_succ ha, List.map_append, List.map_append]
      rfl
    · rintro D acc H6 hD e6 hacc rfl
      rw [List.length_map, List.take_length] at hacc
      walk_at "ss"
      refine w_sum (SqL.of hacc) ?_
      walk_at "ss"
      have gL := (e5.trans e6) _ _ g4
      refine w_app gL (by rw [List.length_map]; omega) ?_
      refine ⟨cs ++ [((firsts r s gs cs.length).map fun i => cs.getD i 0 * cs.getD (cs.length - i) 0).sum], _, _, _, rfl, ?_, ?_, by rw [List.length_append, cl]; rfl, C.app (by omega) (by omega)⟩
      · exact Same.mut (e4.trans (e5.trans e6)) fL
      · rw [upd_same, List.map_append, cl]
        rfl
  · rintro σ H4 ⟨cs, x5, x6, x7, rfl, e4, g4, cl, C⟩
    walk_at "ss"
    refine w_ixL (SqL.of g4) (ints_ix (n := n) (by omega) rfl) ?_
    exact k gs cs H4 (e1.trans e4) hgl T (by omega) C
def sp_count_least (Γ : Gm) : Sp := fun vs H Q _ => ∃ v r, ∃ n : Nat, vs = [v, .int n] ∧ RuleAt Γ H v r ∧ 1 ≤ n ∧ n ≤ 40 ∧ (n : Int) ≤ r.top ∧ ∀ gs cs H', Same H H' → gs.length = n → Tab r 1 gs → cs.length = n + 1 → Cnt r 1 gs cs → Q (.int (cs.getD n 0)) H'
def sp_count_greatest (Γ : Gm) : Sp := fun vs H Q _ => ∃ v r, ∃ n : Nat, vs = [v, .int n] ∧ RuleAt Γ H v r ∧ 1 ≤ n ∧ n ≤ 40 ∧ (n : Int) ≤ r.top ∧ ∀ gs cs H', Same H H' → gs.length = n → Tab r (-1) gs → cs.length = n + 1 → Cnt r (-1) gs cs → Q (.int (cs.getD n 0)) H'
/-- count_least: rule, heap -/
def t_count_least (Γ : Gm) (E : XK) : TS := (tSeq (tDrop (tCal (sp_check_heap Γ) E (tCons (tVar 0) (tCons (tVar 1) (tCons (tC (.int 40)) tNil)))))
  (tRet (tCal (sp_counted Γ) E0 (tCons (tVar 0) (tCons (tVar 1) (tCons (tC (.int 1)) tNil))))))
theorem rd_count_least (Γ : Gm) (vs : List V) (H : Hp) (Q : VK) (E : XK) (h : sp_count_least Γ vs H Q E) : t_count_least Γ E ⟨fun _ H' => Q .non H', Q, fun _ _ => False, fun _ _ => False⟩ (startN 2 vs) H := by
  obtain ⟨v, r, n, rfl, hr, h1, h40, ht, k⟩ := h
  unfold t_count_least
  walk_at "ss"
  refine w_heap hr (by omega) (by omega) ht ?_
  walk_at "ss"
  exact ⟨v, r, n, 1, rfl, hr, h1, h40, ht, .inl rfl, k⟩
/-- count_greatest: rule, heap -/
def t_count_greatest (Γ : Gm) (E : XK) : TS := (tSeq (tDrop (tCal (sp_check_heap Γ) E (tCons (tVar 0) (tCons (tVar 1) (tCons (tC (.int 40)) tNil)))))
  (tRet (tCal (sp_counted Γ) E0 (tCons (tVar 0) (tCons (tVar 1) (tCons (tUn (rU fun i => .int (-i)) (tC (.int 1))) tNil))))))
theorem rd_count_greatest (Γ : Gm) (vs : List V) (H : Hp) (Q : VK) (E : XK) (h : sp_count_greatest Γ vs H Q E) : t_count_greatest Γ E ⟨fun _ H' => Q .non H', Q, fun _ _ => False, fun _ _ => False⟩ (startN 2 vs) H := by
  obtain ⟨v, r, n, rfl, hr, h1, h40, ht, k⟩ := h
  unfold t_count_greatest
  walk_at "ss"
  refine w_heap hr (by omega) (by omega) ht ?_
  walk_at "ss"
  exact ⟨v, r, n, -1, rfl, hr, h1, h40, ht, .inr rfl, k⟩

/-! ### all ways of a heap -/
def pairs (a b : List Wy) : List Wy := a.flatMap fun l => b.map fun r => Wy.two l r
def nextW (t : List (List Wy)) (n k : Nat) : List Wy := (List.range k).flatMap fun j => pairs (t.getD (j + 1) []) (t.getD (n - (j + 1)) [])
def wTab : Nat → List (List Wy)
  | 0 => [[], [.one]]
  | k + 1 => wTab k ++ [nextW (wTab k) (k + 2) (k + 1)]
theorem wTab_len : ∀ k, (wTab k).length = k + 2
  | 0 => rfl
  | k + 1 => by
    show (wTab k ++ [_]).length = _
    rw [List.length_append, wTab_len k]
    rfl
def waysN (n : Nat) : List Wy := (wTab (n - 1)).getD n []
theorem nextW_succ (t : List (List Wy)) (n k : Nat) : nextW t n (k + 1) = nextW t n k ++ pairs (t.getD (k + 1) []) (t.getD (n - (k + 1)) []) := by
  unfold nextW
  rw [List.range_succ, List.flatMap_append]
  simp
theorem nextW_le (t : List (List Wy)) (n k m : Nat) (h : k ≤ m) : (nextW t n k).length ≤ (nextW t n m).length := by
  induction m with
  | zero => rw [Nat.le_zero.mp h]; exact Nat.le_refl _
  | succ m ih =>
    by_cases e : k = m + 1
    · rw [e]; exact Nat.le_refl _
    · rw [nextW_succ, List.length_append]
      have := ih (by omega)
      omega
theorem wTab_sz : ∀ k < 8, (nextW (wTab k) (k + 2) (k + 1)).length ≤ 1430 := by decide +kernel
theorem wTab_szs : ∀ k < 8, ∀ ws ∈ wTab k, ws.length ≤ 1430 := by decide +kernel
/-- a list of ways -/
def WL (H : Hp) (a : Addr) (ws : List Wy) : Prop := ∃ xs, H a = some (.lst xs) ∧ TpAll H xs (ws.map Wy.data)
theorem WL.mono {H H' : Hp} {a : Addr} {ws : List Wy} (e : Same H H') (h : WL H a ws) : WL H' a ws := by
  obtain ⟨xs, h1, h2⟩ := h
  exact ⟨xs, e _ _ h1, h2.mono e.tups⟩
structure WI (H0 H : Hp) (L : Addr) (refs : List Addr) (t : List (List Wy)) : Prop where
  same : Same H0 H
  l : H L = some (.lst (refs.map V.ref))
  len : refs.length = t.length
  ne : ∀ a ∈ refs, a ≠ L
  at_ : ∀ (j : Nat) (ws : List Wy), t[j]? = some ws → ∃ a, refs[j]? = some a ∧ WL H a ws
theorem pairs_take {a b : List Wy} {i : Nat} {l : Wy} (h : a[i]? = some l) : pairs (a.take (i + 1)) b = pairs (a.take i) b ++ b.map fun r => Wy.two l r := by
  unfold pairs
  rw [take_succ h, List.flatMap_append]
  simp
theorem pairs_le {a b : List Wy} {i : Nat} : (pairs (a.take i) b).length ≤ (pairs a b).length := by
  conv => rhs; rw [← List.take_append_drop i a]
  unfold pairs
  rw [List.flatMap_append, List.length_append]
  omega
def sp__law_ways (Γ : Gm) : Sp := fun vs H Q _ => ∃ n : Nat, vs = [.int n] ∧ 1 ≤ n ∧ n ≤ 8 ∧ ∀ l xs H', Same H H' → H' l = some (.lst xs) → TpAll H' xs ((waysN n).map Wy.data) → Q (.ref l) H'
/-- law_ways: _law_heap, _law_found, _law_size, _law_own, _law_one, _law_left, _law_right -/
def t__law_ways (Γ : Gm) : TS := (tSeq (tAsg (tLst (tCons (tLst tNil) (tCons (tLst (tCons (tC (.int 1)) tNil)) tNil))) (gName 1))
  (tSeq (tFor (iRng2 (tCons (tC (.int 2)) (tCons (tOp (rAddU Γ.K) (tVar 0) (tC (.int 1))) tNil))) (gName 2) (tSeq (tAsg (tLst tNil) (gName 3))
  (tSeq (tFor (iRng2 (tCons (tC (.int 1)) (tCons (tVar 2) tNil))) (gName 4) (tFor (iSeq Γ.K (tOp (rIx Γ.K) (tVar 1) (tVar 4))) (gName 5) (tAsg (tOp (rAddU Γ.K) (tVar 3) (tLc (iSeq Γ.K (tOp (rIx Γ.K) (tVar 1) (tOp rSubI (tVar 2) (tVar 4)))) (gName 6) tYes (tTup (tCons (tVar 5) (tCons (tVar 6) tNil))) [6])) (gName 3))))
  (tDrop (tBM Γ.K "list" rAppend (tVar 1) (tCons (tVar 3) tNil))))))
  (tRet (tOp (rIx Γ.K) (tVar 1) (tVar 0)))))
theorem rd__law_ways (Γ : Gm) (vs : List V) (H : Hp) (Q : VK) (E : XK) (h : sp__law_ways Γ vs H Q E) : t__law_ways Γ ⟨fun _ H' => Q .non H', Q, fun _ _ => False, fun _ _ => False⟩ (startN 7 vs) H := by
  obtain ⟨n, rfl, h1, h8, k⟩ := h
  unfold t__law_ways
  walk_at "ss"
  refine n_lst fun l0 H1 f1 e1 g1 => ?_
  walk_at "ss"
  refine n_lst fun l1 H2 f2 e2 g2 => ?_
  walk_at "ss"
  refine n_lst fun L H3 f3 e3 g3 => ?_
  walk_at "ss"
  refine k_rng2 (by omega) ?_
  have e02 := e1.trans e2
  have fL : H2 L = none := f3
  have nl0 : l0 ≠ L := fun z => by subst z; rw [e2 _ _ g1] at f3; cases f3
  have nl1 : l1 ≠ L := fun z => by subst z; rw [g2] at f3; cases f3
  refine k_range (fun i σ H' => ∃ refs x2 x3 x4 x5 x6, σ = [some (.int n), some (.ref L), x2, x3, x4, x5, x6] ∧ WI H2 H' L refs (wTab i)) ⟨[l0, l1], none, none, none, none, none, rfl, e3, g3, rfl, fun a ha => ?_, fun j ws hj => ?_⟩ ?_ ?_
  · simp only [List.mem_cons, List.not_mem_nil, or_false] at ha
    rcases ha with rfl | rfl
    · exact nl0
    · exact nl1
  · match j, hj with
    | 0, hj =>
      cases hj
      exact ⟨l0, rfl, [], (e2.trans e3) _ _ g1, .nil⟩
    | 1, hj =>
      cases hj
      exact ⟨l1, rfl, _, e3 _ _ g2, .cons (.int 1) .nil⟩
  · rintro i σ H4 hi ⟨refs, x2, x3, x4, x5, x6, rfl, I⟩
    have hi' : i + 2 ≤ n := by omega
    have tl := wTab_len i
    have sz := wTab_sz i (by omega)
    have szs := wTab_szs i (by omega)
    have getw : ∀ j, j < i + 2 → ∃ a, refs[j]? = some a ∧ WL H4 a ((wTab i).getD j []) := fun j hj => by
      obtain ⟨a, h1, h2⟩ := I.at_ j _ (List.getElem?_eq_getElem (by omega))
      refine ⟨a, h1, ?_⟩
      rw [List.getD_eq_getElem?_getD, List.getElem?_eq_getElem (by omega)]
      exact h2
    walk_at "ss"
    refine n_lst fun M0 H5 f5 e5 g5 => ?_
    walk_at "ss"
    refine k_rng2 (by omega) ?_
    refine k_range (fun j σ H' => ∃ M x4 x5 x6, σ = [some (.int n), some (.ref L), some (.int (2 + (i : Int))), some (.ref M), x4, x5, x6] ∧ Same H4 H' ∧ WL H' M (nextW (wTab i) (i + 2) j) ∧ H4 M = none) ⟨M0, _, _, _, rfl, e5, ⟨[], g5, .nil⟩, f5⟩ ?_ ?_
    · rintro j σ H6 hj ⟨M, x4', x5', x6', rfl, e6, w6, fM⟩
      have hj' : j < i + 1 := by omega
      obtain ⟨a, ra, wa⟩ := getw (j + 1) (by omega)
      obtain ⟨b, rb, wb⟩ := getw (i + 2 - (j + 1)) (by omega)
      obtain ⟨xs, ga, ta⟩ := wa
      obtain ⟨ys, gb, tb⟩ := wb
      have lx := ta.length
      have ly := tb.length
      rw [List.length_map] at lx ly
      have total : (nextW (wTab i) (i + 2) (j + 1)).length ≤ 1430 := Nat.le_trans (nextW_le _ _ _ (i + 1) (by omega)) sz
      rw [nextW_succ, List.length_append] at total
      have lb : ((wTab i).getD (i + 2 - (j + 1)) []).length ≤ 1430 := by
        rw [List.getD_eq_getElem?_getD, List.getElem?_eq_getElem (by omega)]
        exact szs _ (List.getElem_mem _)
      walk_at "ss"
      refine w_ixL (SqL.of (e6 _ _ I.l)) (atI_of (x := .ref a) (by omega) (by rw [List.getElem?_map, show (1 + (j : Int)).toNat = j + 1 by omega, ra]; rfl)) ?_
      refine k_seqL (SqL.of (e6 _ _ ga)) ?_
      refine k_list (xs := xs) (fun q σ H' => ∃ M x5 x6, σ = [some (.int n), some (.ref L), some (.int (2 + (i : Int))), some (.ref M), some (.int (1 + (j : Int))), x5, x6] ∧ Same H4 H' ∧ WL H' M (nextW (wTab i) (i + 2) j ++ pairs (((wTab i).getD (j + 1) []).take q) ((wTab i).getD (i + 2 - (j + 1)) [])) ∧ H4 M = none) ⟨M, _, _, rfl, e6, by simpa [pairs] using w6, fM⟩ (fun q σ H' _ ⟨_, _, _, _, e, _⟩ => SqL.of (e _ _ ga)) ?_ ?_
      · rintro q x σ H7 hq ⟨M', x5'', x6'', rfl, e7, w7, fM'⟩
        obtain ⟨d, hd, tx⟩ := ta.get' hq
        rw [List.getElem?_map] at hd
        obtain ⟨l, hl, rfl⟩ := Option.map_eq_some_iff.mp hd
        have le := pairs_le (a := (wTab i).getD (j + 1) []) (b := (wTab i).getD (i + 2 - (j + 1)) []) (i := q + 1)
        rw [pairs_take hl, List.length_append, List.length_map] at le
        walk_at "ss"
        refine w_ixL (SqL.of (e7 _ _ I.l)) (atI_of (x := .ref b) (by omega) (by rw [List.getElem?_map, show (2 + (i : Int) - (1 + (j : Int))).toNat = i + 2 - (j + 1) by omega, rb]; rfl)) ?_
        refine k_seqL (SqL.of (e7 _ _ gb)) ?_
        refine k_lcList (fun c acc H' => TpAll H' acc ((((wTab i).getD (i + 2 - (j + 1)) []).take c).map fun r => (Wy.two l r).data)) (SqL.of (e7 _ _ gb)) (fun _ _ => .nil) ?_ ?_
        · rintro c y D acc H8 hc hD e8 hacc tacc
          obtain ⟨d, hd, ty⟩ := tb.get' hc
          rw [List.getElem?_map] at hd
          obtain ⟨r, hr, rfl⟩ := Option.map_eq_some_iff.mp hd
          have hcl : c < ((wTab i).getD (i + 2 - (j + 1)) []).length := (List.getElem?_eq_some_iff.mp hr).1
          have al := tacc.length
          rw [List.length_map, List.length_take] at al
          walk_at "ss"
          refine ⟨rfl, ?_⟩
          walk_at "ss"
          refine n_tup fun p H9 f9 e9 g9 => ?_
          have d9 := e9 _ _ hacc
          have u9 : Tups H9 (upd H9 D (.lst (acc ++ [.ref p]))) := (Same.refl H9).tups.upd (fun xs z => by rw [d9] at z; cases z)
          refine lcTurn.mk hD (e8.trans e9) d9 (by omega) ?_
          rw [take_succ hr, List.map_append]
          refine (tacc.mono (e9.tups.trans u9)).append (.cons (.tup (u9 _ _ g9) (.cons (tx.mono ((e7.trans (e8.trans e9)).tups.trans u9)) (.cons (ty.mono ((e7.trans (e8.trans e9)).tups.trans u9)) .nil))) .nil)
        · rintro D acc H8 hD e8 hacc tacc
          rw [ly, List.take_length] at tacc
          have al := tacc.length
          rw [List.length_map] at al
          obtain ⟨zs, gM, tM⟩ := w7
          have zl := tM.length
          rw [List.length_map, List.length_append] at zl
          refine w_addL (e8 _ _ gM) hacc (Nat.le_trans (m := 100000) (by omega) (by decide)) fun P H9 f9 e9 g9 => ?_
          walk_at "ss"
          refine ⟨P, _, _, rfl, e7.trans (e8.trans e9), ⟨_, g9, ?_⟩, (e7.trans e8).free f9⟩
          rw [pairs_take hl, ← List.append_assoc, List.map_append, List.map_map]
          exact (tM.mono (e8.trans e9).tups).append (tacc.mono e9.tups)
      · rintro σ H7 ⟨M', x5'', x6'', rfl, e7, w7, fM'⟩
        walk_at "ss"
        refine ⟨M', _, _, _, rfl, e7, ?_, fM'⟩
        rw [lx, List.take_length] at w7
        rw [nextW_succ]
        exact w7
    · rintro σ H6 ⟨M, x4', x5', x6', rfl, e6, w6, fM⟩
      rw [show (2 + (i : Int) - 1).toNat = i + 1 by omega] at w6
      have gL := e6 _ _ I.l
      walk_at "ss"
      refine w_tyL gL ?_
      walk_at "ss"
      have il := I.len
      refine w_app gL (by rw [List.length_map]; omega) ?_
      have hL2 : Same H2 (upd H6 L (.lst (refs.map V.ref ++ [.ref M]))) := Same.mut (I.same.trans e6) fL
      have nM : M ≠ L := fun z => by subst z; rw [I.l] at fM; cases fM
      have u6 : Tups H6 (upd H6 L (.lst (refs.map V.ref ++ [.ref M]))) := (Same.refl H6).tups.upd (fun xs z => by rw [gL] at z; cases z)
      have wl : ∀ {a : Addr} {ws : List Wy}, a ≠ L → WL H6 a ws → WL (upd H6 L (.lst (refs.map V.ref ++ [.ref M]))) a ws := fun ne ⟨xs, g1, g2⟩ => ⟨xs, by rw [upd_ne ne]; exact g1, g2.mono u6⟩
      refine ⟨refs ++ [M], _, _, _, _, _, rfl, hL2, by rw [upd_same, List.map_append]; rfl, by rw [List.length_append]; show _ = (wTab i ++ [_]).length; rw [List.length_append, il]; rfl, fun a ha => ?_, fun j ws hj => ?_⟩
      · rcases List.mem_append.mp ha with ha | ha
        · exact I.ne a ha
        · rw [List.mem_singleton] at ha
          rw [ha]
          exact nM
      · have hj2 : (wTab i ++ [nextW (wTab i) (i + 2) (i + 1)])[j]? = some ws := hj
        by_cases hjl : j < (wTab i).length
        · rw [List.getElem?_append_left hjl] at hj2
          obtain ⟨a, h1, h2⟩ := I.at_ j ws hj2
          refine ⟨a, by rw [List.getElem?_append_left (by omega)]; exact h1, wl (I.ne a (List.mem_of_getElem? h1)) (h2.mono e6)⟩
        · have hj3 : j = (wTab i).length := by
            have := (List.getElem?_eq_some_iff.mp hj2).1
            rw [List.length_append] at this
            simp only [List.length_cons, List.length_nil] at this
            omega
          subst hj3
          rw [List.getElem?_append_right (Nat.le_refl _), Nat.sub_self] at hj2
          cases hj2
          refine ⟨M, by rw [← il, List.getElem?_append_right (Nat.le_refl _), Nat.sub_self]; rfl, wl nM w6⟩
  · rintro σ H4 ⟨refs, x2, x3, x4, x5, x6, rfl, I⟩
    rw [show ((n : Int) + 1 - 2).toNat = n - 1 by omega] at I
    have tl := wTab_len (n - 1)
    obtain ⟨a, ra, xs, ga, ta⟩ := I.at_ n _ (List.getElem?_eq_getElem (by omega))
    walk_at "ss"
    refine w_ixL (SqL.of I.l) (atI_of (x := .ref a) (by omega) (by rw [List.getElem?_map, Int.toNat_natCast, ra]; rfl)) ?_
    refine k a xs H4 (e02.trans I.same) ga ?_
    unfold waysN
    rw [List.getD_eq_getElem?_getD, List.getElem?_eq_getElem (by omega)]
    exact ta

/-! ### the plain laws of the extremes -/
abbrev R.sum (r : R) (w : Wy) : Int := (r.row w).sum
theorem R.sum_one (r : R) : r.sum .one = 0 := rfl
theorem R.sum_two (r : R) (a b : Wy) : r.sum (.two a b) = r.pts a.things b.things + (r.sum a + r.sum b) := by
  show (r.row (.two a b)).sum = _
  rw [R.row_two, List.sum_cons, List.sum_append]
theorem things_two (a b : Wy) : (Wy.two a b).things = a.things + b.things := rfl
theorem best_low {r : R} {s : Int} {gs : List Int} (T : Tab r s gs) : ∀ w : Wy, w.things ≤ gs.length → fAt gs w.things ≤ s * r.sum w
  | .one, _ => by
    rw [R.sum_one, Int.mul_zero]
    exact Int.le_of_eq T.one
  | .two a b, h => by
    rw [things_two] at h
    have ha := a.pos
    have hb := b.pos
    have i1 := best_low T a (by omega)
    have i2 := best_low T b (by omega)
    have i3 := T.low (a.things + b.things) (by omega) h a.things ha (by omega)
    unfold cand at i3
    rw [show a.things + b.things - a.things = b.things by omega] at i3
    rw [things_two, R.sum_two, Int.mul_add, Int.mul_add]
    omega
theorem fw_ok {r : R} {s : Int} {gs : List Int} (T : Tab r s gs) : ∀ k n, 1 ≤ n → n ≤ k → n ≤ gs.length → (fwN r s gs k n).things = n ∧ s * r.sum (fwN r s gs k n) = fAt gs n
  | 0, n, h1, h2, _ => by omega
  | k + 1, n, h1, h2, h3 => by
    have unf : fwN r s gs (k + 1) n = if n = 1 then .one else .two (fwN r s gs k ((firsts r s gs n).headD 1)) (fwN r s gs k (n - (firsts r s gs n).headD 1)) := rfl
    rw [unf]
    by_cases e : n = 1
    · subst e
      rw [if_pos rfl, R.sum_one, Int.mul_zero]
      exact ⟨rfl, T.one.symm⟩
    rw [if_neg e]
    obtain ⟨i, is, ef⟩ := firsts_ne T (by omega) h3
    obtain ⟨i1, i2, i3⟩ := mem_firsts.mp (show i ∈ firsts r s gs n by rw [ef]; exact List.mem_cons_self ..)
    rw [ef]
    show (Wy.two (fwN r s gs k i) (fwN r s gs k (n - i))).things = n ∧ _
    obtain ⟨a1, a2⟩ := fw_ok T k i i1 (by omega) (by omega)
    obtain ⟨b1, b2⟩ := fw_ok T k (n - i) (by omega) (by omega) (by omega)
    refine ⟨by rw [things_two, a1, b1]; omega, ?_⟩
    show s * r.sum (Wy.two (fwN r s gs k i) (fwN r s gs k (n - i))) = _
    rw [R.sum_two, a1, b1, Int.mul_add, Int.mul_add, a2, b2, ← i3]
    unfold cand
    omega
theorem wTab_get : ∀ k m, 1 ≤ m → m ≤ k + 1 → (wTab k).getD m [] = waysN m
  | 0, m, h1, h2 => by
    have : m = 1 := by omega
    subst this
    rfl
  | k + 1, m, h1, h2 => by
    by_cases e : m = k + 2
    · subst e
      rfl
    · rw [← wTab_get k m h1 (by omega)]
      show (wTab k ++ [_]).getD m [] = _
      rw [List.getD_eq_getElem?_getD, List.getElem?_append_left (by rw [wTab_len]; omega), List.getD_eq_getElem?_getD]
theorem waysN_step {n : Nat} (h : 2 ≤ n) : waysN n = (List.range (n - 1)).flatMap fun j => pairs (waysN (j + 1)) (waysN (n - (j + 1))) := by
  obtain ⟨k, rfl⟩ : ∃ k, n = k + 2 := ⟨n - 2, by omega⟩
  have e1 : waysN (k + 2) = nextW (wTab k) (k + 2) (k + 1) := by
    show (wTab k ++ [_]).getD (k + 2) [] = _
    rw [List.getD_eq_getElem?_getD, List.getElem?_append_right (by rw [wTab_len]; exact Nat.le_refl _), wTab_len, Nat.sub_self]
    rfl
  rw [e1]
  unfold nextW
  show (List.range (k + 1)).flatMap _ = (List.range (k + 1)).flatMap _
  have : ∀ l : List Nat, (∀ j ∈ l, j < k + 1) → l.flatMap (fun j => pairs ((wTab k).getD (j + 1) []) ((wTab k).getD (k + 2 - (j + 1)) [])) = l.flatMap fun j => pairs (waysN (j + 1)) (waysN (k + 2 - (j + 1))) := by
    intro l
    induction l with
    | nil => intro _; rfl
    | cons a l ih =>
      intro h
      have ha := h a (List.mem_cons_self ..)
      rw [List.flatMap_cons, List.flatMap_cons, ih fun j hj => h j (List.mem_cons_of_mem _ hj), wTab_get k (a + 1) (by omega) (by omega), wTab_get k (k + 2 - (a + 1)) (by omega) (by omega)]
  exact this _ fun j hj => List.mem_range.mp hj
theorem mem_pairs {a b : List Wy} {w : Wy} : w ∈ pairs a b ↔ ∃ l ∈ a, ∃ r ∈ b, w = .two l r := by
  unfold pairs
  simp only [List.mem_flatMap, List.mem_map]
  constructor
  · rintro ⟨l, hl, r, hr, rfl⟩
    exact ⟨l, hl, r, hr, rfl⟩
  · rintro ⟨l, hl, r, hr, rfl⟩
    exact ⟨l, hl, r, hr, rfl⟩
theorem ways_things : ∀ n, 1 ≤ n → ∀ w ∈ waysN n, w.things = n := by
  intro n
  induction n using Nat.strongRecOn with
  | ind n ih =>
    intro h1 w hw
    by_cases e : n = 1
    · subst e
      have : w ∈ [Wy.one] := hw
      rw [List.mem_singleton] at this
      rw [this]
      rfl
    · rw [waysN_step (by omega), List.mem_flatMap] at hw
      obtain ⟨j, hj, hw⟩ := hw
      have := List.mem_range.mp hj
      obtain ⟨l, hl, r, hr, rfl⟩ := mem_pairs.mp hw
      rw [things_two, ih (j + 1) (by omega) (by omega) l hl, ih (n - (j + 1)) (by omega) (by omega) r hr]
      omega
/-! ### the first best way, and how many -/
def isB (r : R) (s : Int) (gs : List Int) (n : Nat) (w : Wy) : Bool := decide (s * r.sum w = fAt gs n)
theorem isB_two {r : R} {s : Int} {gs : List Int} (T : Tab r s gs) {n i : Nat} (i1 : 1 ≤ i) (i2 : i < n) (hg : n ≤ gs.length) {a b : Wy} (ha : a.things = i) (hb : b.things = n - i) :
    isB r s gs n (.two a b) = (decide (cand r s gs n i = fAt gs n) && (isB r s gs i a && isB r s gs (n - i) b)) := by
  have l1 := best_low T a (by omega)
  have l2 := best_low T b (by omega)
  have l3 := T.low n (by omega) hg i i1 i2
  rw [ha] at l1
  rw [hb] at l2
  unfold isB
  rw [R.sum_two, ha, hb, Int.mul_add, Int.mul_add, Bool.eq_iff_iff]
  simp only [Bool.and_eq_true, decide_eq_true_eq]
  unfold cand at l3 ⊢
  constructor
  · intro h
    refine ⟨?_, ?_, ?_⟩ <;> omega
  · rintro ⟨h1, h2, h3⟩
    omega
theorem find_pairs {p pa pb : Wy → Bool} {c : Bool} : ∀ (A B : List Wy), (∀ a ∈ A, ∀ b ∈ B, p (.two a b) = (c && (pa a && pb b))) → (pairs A B).find? p = if c then (A.find? pa).bind (fun a => (B.find? pb).map fun b => Wy.two a b) else none
  | [], B, _ => by cases c <;> rfl
  | a :: A, B, h => by
    have ih := find_pairs A B fun a' ha' b hb => h a' (List.mem_cons_of_mem _ ha') b hb
    have hd : pairs (a :: A) B = (B.map fun b => Wy.two a b) ++ pairs A B := by
      unfold pairs
      rw [List.flatMap_cons]
    have inner : ∀ B' : List Wy, (∀ b ∈ B', p (.two a b) = (c && (pa a && pb b))) → (B'.map fun b => Wy.two a b).find? p = if c && pa a then (B'.find? pb).map fun b => Wy.two a b else none := by
      intro B'
      induction B' with
      | nil => intro _; cases (c && pa a) <;> rfl
      | cons b B' ihb =>
        intro hB
        rw [List.map_cons, List.find?_cons, List.find?_cons, hB b (List.mem_cons_self ..), ihb fun b' hb' => hB b' (List.mem_cons_of_mem _ hb')]
        cases c <;> cases pa a <;> cases pb b <;> rfl
    rw [hd, List.find?_append, inner B fun b hb => h a (List.mem_cons_self ..) b hb, ih, List.find?_cons]
    cases c with
    | false => rfl
    | true =>
      cases pa a with
      | false => rfl
      | true =>
        simp only [Bool.and_self, if_true]
        cases B.find? pb with
        | none =>
          show (none : Option Wy).or _ = none
          cases A.find? pa <;> rfl
        | some b => rfl
theorem find_flat {p : Wy → Bool} {q : Nat → Bool} {f : Nat → List Wy} {X : Nat → Wy} : ∀ (l : List Nat), (∀ j ∈ l, (f j).find? p = if q j then some (X j) else none) → (l.flatMap f).find? p = (l.find? q).map X
  | [], _ => rfl
  | j :: l, h => by
    rw [List.flatMap_cons, List.find?_append, h j (List.mem_cons_self ..), List.find?_cons, find_flat l fun j' hj' => h j' (List.mem_cons_of_mem _ hj')]
    cases q j <;> rfl
theorem find_ways {r : R} {s : Int} {gs : List Int} (T : Tab r s gs) : ∀ n, 1 ≤ n → n ≤ gs.length → ∀ k, n ≤ k → (waysN n).find? (isB r s gs n) = some (fwN r s gs k n) := by
  intro n
  induction n using Nat.strongRecOn with
  | ind n ih =>
    intro h1 hg k hk
    obtain ⟨k, rfl⟩ : ∃ k', k = k' + 1 := ⟨k - 1, by omega⟩
    have unf : fwN r s gs (k + 1) n = if n = 1 then .one else .two (fwN r s gs k ((firsts r s gs n).headD 1)) (fwN r s gs k (n - (firsts r s gs n).headD 1)) := rfl
    rw [unf]
    by_cases e : n = 1
    · subst e
      rw [if_pos rfl]
      show List.find? _ [Wy.one] = _
      rw [List.find?_cons]
      have : isB r s gs 1 .one = true := decide_eq_true (by rw [R.sum_one, Int.mul_zero]; exact T.one.symm)
      rw [this]
    rw [if_neg e, waysN_step (by omega)]
    rw [find_flat (q := fun j => decide (cand r s gs n (j + 1) = fAt gs n)) (X := fun j => .two (fwN r s gs k (j + 1)) (fwN r s gs k (n - (j + 1))))]
    · obtain ⟨i, is, ef⟩ := firsts_ne T (by omega) hg
      rw [ef]
      show _ = some (Wy.two (fwN r s gs k i) (fwN r s gs k (n - i)))
      have : ∀ l : List Nat, (l.map (· + 1)).filter (fun i => decide (cand r s gs n i = fAt gs n)) = i :: is → l.find? (fun j => decide (cand r s gs n (j + 1) = fAt gs n)) = some (i - 1) ∧ 1 ≤ i := by
        intro l
        induction l with
        | nil => intro h; cases h
        | cons a l ihl =>
          intro h
          rw [List.map_cons, List.filter_cons] at h
          rw [List.find?_cons]
          cases hb : decide (cand r s gs n (a + 1) = fAt gs n) with
          | true =>
            rw [hb] at h
            simp only [if_true] at h
            injection h with h1 h2
            subst h1
            exact ⟨rfl, by omega⟩
          | false =>
            rw [hb] at h
            simp only [Bool.false_eq_true, if_false] at h
            exact ihl h
      obtain ⟨z1, z2⟩ := this (List.range (n - 1)) ef
      rw [z1]
      show some (Wy.two (fwN r s gs k (i - 1 + 1)) (fwN r s gs k (n - (i - 1 + 1)))) = _
      rw [show i - 1 + 1 = i by omega]
    · intro j hj
      have hj' := List.mem_range.mp hj
      rw [find_pairs (pa := isB r s gs (j + 1)) (pb := isB r s gs (n - (j + 1))) (c := decide (cand r s gs n (j + 1) = fAt gs n))]
      · rw [ih (j + 1) (by omega) (by omega) (by omega) k (by omega), ih (n - (j + 1)) (by omega) (by omega) (by omega) k (by omega)]
        rfl
      · intro a ha b hb
        exact isB_two T (by omega) (by omega) hg (ways_things _ (by omega) a ha) (ways_things _ (by omega) b hb)
theorem count_pairs {p pa pb : Wy → Bool} {c : Bool} : ∀ (A B : List Wy), (∀ a ∈ A, ∀ b ∈ B, p (.two a b) = (c && (pa a && pb b))) → (pairs A B).countP p = if c then A.countP pa * B.countP pb else 0
  | [], B, _ => by
    show 0 = _
    cases c <;> simp
  | a :: A, B, h => by
    have ih := count_pairs A B fun a' ha' b hb => h a' (List.mem_cons_of_mem _ ha') b hb
    have hd : pairs (a :: A) B = (B.map fun b => Wy.two a b) ++ pairs A B := by
      unfold pairs
      rw [List.flatMap_cons]
    have inner : ∀ B' : List Wy, (∀ b ∈ B', p (.two a b) = (c && (pa a && pb b))) → (B'.map fun b => Wy.two a b).countP p = if c && pa a then B'.countP pb else 0 := by
      intro B'
      induction B' with
      | nil => intro _; cases (c && pa a) <;> rfl
      | cons b B' ihb =>
        intro hB
        rw [List.map_cons, List.countP_cons, List.countP_cons, hB b (List.mem_cons_self ..), ihb fun b' hb' => hB b' (List.mem_cons_of_mem _ hb')]
        cases c <;> cases pa a <;> cases pb b <;> rfl
    rw [hd, List.countP_append, inner B fun b hb => h a (List.mem_cons_self ..) b hb, ih, List.countP_cons]
    cases c <;> cases pa a <;> simp [Nat.add_mul, Nat.add_comm]
theorem count_ways {r : R} {s : Int} {gs cs : List Int} (T : Tab r s gs) (C : Cnt r s gs cs) : ∀ n, 1 ≤ n → n ≤ gs.length → n < cs.length → (((waysN n).countP (isB r s gs n) : Nat) : Int) = cs.getD n 0 := by
  intro n
  induction n using Nat.strongRecOn with
  | ind n ih =>
    intro h1 hg hc
    by_cases e : n = 1
    · subst e
      rw [C.one]
      show ((List.countP _ [Wy.one] : Nat) : Int) = 1
      have : isB r s gs 1 .one = true := decide_eq_true (by rw [R.sum_one, Int.mul_zero]; exact T.one.symm)
      rw [List.countP_cons, this]
      rfl
    rw [waysN_step (by omega), C.step n (by omega) hc]
    unfold firsts
    have : ∀ l : List Nat, (∀ j ∈ l, j + 1 < n) → (((l.flatMap fun j => pairs (waysN (j + 1)) (waysN (n - (j + 1)))).countP (isB r s gs n) : Nat) : Int) = (((l.map (· + 1)).filter fun i => decide (cand r s gs n i = fAt gs n)).map fun i => cs.getD i 0 * cs.getD (n - i) 0).sum := by
      intro l
      induction l with
      | nil => intro _; rfl
      | cons j l ihl =>
        intro h
        have hj := h j (List.mem_cons_self ..)
        rw [List.flatMap_cons, List.countP_append, List.map_cons, List.filter_cons]
        have il := ihl fun j' hj' => h j' (List.mem_cons_of_mem _ hj')
        rw [count_pairs (pa := isB r s gs (j + 1)) (pb := isB r s gs (n - (j + 1))) (c := decide (cand r s gs n (j + 1) = fAt gs n)) _ _ fun a ha b hb => isB_two T (by omega) (by omega) hg (ways_things _ (by omega) a ha) (ways_things _ (by omega) b hb)]
        have c1 := ih (j + 1) (by omega) (by omega) (by omega) (by omega)
        have c2 := ih (n - (j + 1)) (by omega) (by omega) (by omega) (by omega)
        cases hb : decide (cand r s gs n (j + 1) = fAt gs n) with
        | true =>
          simp only [if_true]
          rw [List.map_cons, List.sum_cons, ← il, ← c1, ← c2, Int.natCast_add, Int.natCast_mul]
        | false =>
          simp only [Bool.false_eq_true, if_false]
          rw [← il]
          omega
    exact this _ fun j hj => by have := List.mem_range.mp hj; omega

/-! ### whiles, walks of any kind -/
/-- one turn of a while: N is what it comes to -/
def whK (tb : TS) (Pv : Nat → St → Hp → Prop) (m : Nat) (rt : VK) (nx : St → Hp → Prop) (σ : St) (H : Hp) : Prop := ∃ N : St → Hp → Prop, (∀ σ' H', N σ' H' → ∃ m', m' < m ∧ Pv m' σ' H') ∧ tb ⟨N, rt, nx, N⟩ σ H
theorem k_while {c : TT} {tb : TS} {nx bk ct : St → Hp → Prop} {rt : VK} {σ : St} {H : Hp} (Pv : Nat → St → Hp → Prop) (m : Nat) (h0 : Pv m σ H) (hs : ∀ m σ H, Pv m σ H → c σ H fun b H1 => if b = true then whK tb Pv m rt nx σ H1 else nx σ H1) : tWhile c tb ⟨nx, rt, bk, ct⟩ σ H := ⟨Pv, ⟨m, h0⟩, hs⟩
theorem whK.mk {tb : TS} {Pv : Nat → St → Hp → Prop} {m : Nat} {rt : VK} {nx : St → Hp → Prop} {σ : St} {H : Hp} (h : tb ⟨fun σ' H' => ∃ m', m' < m ∧ Pv m' σ' H', rt, nx, fun σ' H' => ∃ m', m' < m ∧ Pv m' σ' H'⟩ σ H) : whK tb Pv m rt nx σ H := ⟨_, fun _ _ z => z, h⟩
theorem k_it {J : It} {n : Nat} {G : Hp → Prop} {Y : Nat → Hp → V → Hp → Prop} {g : TG} {t : TS} {nx : St → Hp → Prop} {rt : VK} {σ : St} {H : Hp} (w : Walk J n G Y) (Pv : Nat → St → Hp → Prop) (h0 : Pv 0 σ H) (hG : ∀ i σ H, i ≤ n → Pv i σ H → G H)
    (hs : ∀ i x σ H H', i < n → Pv i σ H → Y i H x H' → g x σ H' fun σ2 H2 => t ⟨Pv (i + 1), rt, nx, Pv (i + 1)⟩ σ2 H2) (hd : ∀ σ H, Pv n σ H → nx σ H) : forK J g t nx rt σ H :=
  for_it w (D := ⟨nx, rt, fun _ _ => False, fun _ _ => False⟩) Pv h0 hG hs hd
theorem k_lcIt {J : It} {n : Nat} {G : Hp → Prop} {Y : Nat → Hp → V → Hp → Prop} {g : TG} {c : TT} {te : TE} {vs : List Nat} {σ : St} {H : Hp} {Q : VK} (w : Walk J n G Y) (hG : ∀ H', Same H H' → G H') (P : Nat → List V → Hp → Prop) (h0 : ∀ H', Same H H' → P 0 [] H')
    (hs : ∀ i x D acc H1 H', i < n → H D = none → Same H H1 → H1 D = some (.lst acc) → P i acc H1 → Y i H1 x H' → g x (wipe σ vs) H' fun σ2 H2 => wipe σ2 vs = wipe σ vs ∧ c σ2 H2 fun b H3 => if b = true then te σ2 H3 (lcTurn H D (P (i + 1))) else lcAt H D (P (i + 1)) H3)
    (hd : ∀ D acc H', H D = none → Same H H' → H' D = some (.lst acc) → P n acc H' → Q (.ref D) H') : lcK J g c te vs σ H Q := fun D hD =>
  lc_it w (fun i H' => lcAt H D (P i) H') ⟨[], hD, Same.new hD, upd_same, h0 _ (Same.new hD)⟩ (fun i H' _ ⟨_, _, e, _⟩ => hG _ e) (fun i x H1 H' hi ⟨acc, _, e, ha, p⟩ y => hs i x D acc H1 H' hi hD e ha p y) fun H' ⟨acc, _, e, ha, p⟩ => hd D acc H' hD e ha p
theorem k_enL {K : PySem.W.Frag} {H : Hp} {a : Addr} {xs : List V} {R : It → Hp → Prop} (hx : SqL K H a xs) (h : R (Ite K a) H) : kEnum K [.ref a] H R := .inl ⟨a, xs, rfl, hx, h⟩
theorem atI_last {α : Type} {l : List α} {x : α} (h : l[l.length - 1]? = some x) (h0 : 0 < l.length) : atI l (-1) = some x := by
  unfold atI ixN
  rw [if_neg (by decide), if_pos (by omega)]
  show l[((l.length : Int) + -1).toNat]? = _
  rw [show ((l.length : Int) + -1).toNat = l.length - 1 by omega]
  exact h
/-! ### fractions -/
def frD (a b : Int) : PyData := .tuple [.int a, .int b]
def ratD (q : Rat) : PyData := frD q.num q.den
/-- how great a fraction's numbers are -/
def bdR (a b : Nat) (q : Rat) : Prop := q.num.natAbs ≤ 2 ^ a ∧ q.den ≤ 2 ^ b
theorem bdR.mono {a b a' b' : Nat} {q : Rat} (h : bdR a b q) (h1 : a ≤ a') (h2 : b ≤ b') : bdR a' b' q := ⟨Nat.le_trans h.1 (Nat.pow_le_pow_right (by decide) h1), Nat.le_trans h.2 (Nat.pow_le_pow_right (by decide) h2)⟩
theorem bd_mk {o : Int} {u a b : Nat} (ho : o.natAbs ≤ 2 ^ a) (hu : u ≤ 2 ^ b) : bdR a b (mkRat o u) := by
  unfold bdR
  rw [Rat.num_mkRat, Rat.den_mkRat]
  by_cases h : u = 0
  · rw [if_pos h, if_pos h]
    exact ⟨by simp, Nat.two_pow_pos b⟩
  · rw [if_neg h, if_neg h]
    refine ⟨Nat.le_trans ?_ ho, Nat.le_trans (Nat.div_le_self _ _) hu⟩
    rw [Int.natAbs_ediv_of_dvd]
    · exact Nat.div_le_self _ _
    · exact Int.ofNat_dvd_left.mpr (Nat.gcd_dvd_right _ _)
theorem bd_add {a b c d : Nat} {p q : Rat} (hp : bdR a b p) (hq : bdR c d q) : bdR (a + b + c + d + 1) (b + d) (p + q) := by
  rw [Rat.add_def']
  refine bd_mk ?_ ?_
  · refine Nat.le_trans (Int.natAbs_add_le _ _) ?_
    rw [Int.natAbs_mul, Int.natAbs_mul, Int.natAbs_natCast, Int.natAbs_natCast]
    have h1 : p.num.natAbs * q.den ≤ 2 ^ (a + b + c + d) := Nat.le_trans (Nat.mul_le_mul hp.1 hq.2) (by rw [← Nat.pow_add]; exact Nat.pow_le_pow_right (by decide) (by omega))
    have h2 : q.num.natAbs * p.den ≤ 2 ^ (a + b + c + d) := Nat.le_trans (Nat.mul_le_mul hq.1 hp.2) (by rw [← Nat.pow_add]; exact Nat.pow_le_pow_right (by decide) (by omega))
    rw [Nat.pow_succ]
    omega
  · rw [Nat.pow_add]
    exact Nat.mul_le_mul hp.2 hq.2
theorem fr_inv {H : Hp} {x : V} {a b : Int} (h : Tp H x (frD a b)) : ∃ p, x = .ref p ∧ H p = some (.tup [.int a, .int b]) := by
  obtain ⟨p, xs, rfl, hp, tp⟩ := h.inv
  have e := TpAll.ints (ns := [a, b]) tp
  subst e
  exact ⟨p, rfl, hp⟩
theorem fr_mk {H : Hp} {p : Addr} {a b : Int} (h : H p = some (.tup [.int a, .int b])) : Tp H (.ref p) (frD a b) := .tup h (.cons (.int a) (.cons (.int b) .nil))
def sp_lowest (Γ : Gm) : Sp := fun vs H Q _ => ∃ (o : Int) (u : Nat), vs = [.int o, .int u] ∧ 0 < u ∧ u ≤ 2 ^ 8000 ∧ ∀ x H', Same H H' → Tp H' x (ratD (mkRat o u)) → Q x H'
/-- lowest: over, under, great, less -/
def t_lowest (Γ : Gm) : TS := (tSeq (tPar 2 3 (tCons (tCB rAbs (tCons (tVar 0) tNil)) (tCons (tVar 1) tNil)))
  (tSeq (tWhile (tTest (tOp (rNeU Γ.K) (tVar 3) (tC (.int 0)))) (tPar 2 3 (tCons (tVar 3) (tCons (tOp rModI (tVar 2) (tVar 3)) tNil))))
  (tRet (tTup (tCons (tOp rDivI (tVar 0) (tVar 2)) (tCons (tOp rDivI (tVar 1) (tVar 2)) tNil))))))
theorem rd_lowest (Γ : Gm) (vs : List V) (H : Hp) (Q : VK) (E : XK) (h : sp_lowest Γ vs H Q E) : t_lowest Γ ⟨fun _ H' => Q .non H', Q, fun _ _ => False, fun _ _ => False⟩ (startN 4 vs) H := by
  obtain ⟨o, u, rfl, hu, hb, k⟩ := h
  unfold t_lowest
  walk_at "ss"
  refine k_while (fun m σ H' => ∃ G L : Nat, σ = [some (.int o), some (.int u), some (.int G), some (.int L)] ∧ H' = H ∧ m = L ∧ Nat.gcd G L = Nat.gcd u o.natAbs) u ⟨o.natAbs, u, ?_, rfl, rfl, Nat.gcd_comm _ _⟩ ?_
  · have : (if o < 0 then -o else o) = (o.natAbs : Int) := by split <;> omega
    rw [this]
    rfl
  · rintro m σ H' ⟨G, L, rfl, rfl, rfl, hg⟩
    walk_at "ss"
    by_cases hL : m = 0
    · subst hL
      refine w_ifN (by rw [decide_eq_true (by omega)]; rfl) ?_
      rw [Nat.gcd_zero_right] at hg
      have gu : G ≤ u := by rw [hg]; exact Nat.le_of_dvd hu (Nat.gcd_dvd_left _ _)
      have g0 : 0 < G := by rw [hg]; exact Nat.gcd_pos_of_pos_left _ hu
      have gl : (G : Int).natAbs.log2 < 9000 := by
        rw [Int.natAbs_natCast]
        have := log2_le (n := G) (k := 8000) (Nat.le_trans gu hb)
        omega
      walk_at "ss"
      refine w_divI ⟨by omega, gl⟩ ?_
      walk_at "ss"
      refine w_divI ⟨by omega, gl⟩ ?_
      walk_at "ss"
      refine n_tup fun p H1 f1 e1 g1 => ?_
      refine k _ H1 e1 ?_
      unfold ratD
      rw [Rat.num_mkRat, Rat.den_mkRat, if_neg (by omega), if_neg (by omega), ← hg]
      refine fr_mk ?_
      rw [Int.natCast_ediv]
      exact g1
    · refine w_ifY (by rw [decide_eq_false (by omega)]; rfl) ?_
      refine whK.mk ?_
      walk_at "ss"
      refine ⟨G % m, Nat.mod_lt _ (Nat.pos_of_ne_zero hL), m, G % m, ?_, rfl, rfl, ?_⟩
      · rw [Int.natCast_emod]
        rfl
      · rw [← hg, Nat.gcd_comm m, Nat.gcd_comm G]
        exact (Nat.gcd_rec m G).symm
def sp_plus (Γ : Gm) : Sp := fun vs H Q _ => ∃ x y, ∃ a c : Int, ∃ b d : Nat, vs = [x, y] ∧ Tp H x (frD a b) ∧ Tp H y (frD c d) ∧ 0 < b ∧ 0 < d ∧ a.natAbs ≤ 2 ^ 200000 ∧ c.natAbs ≤ 2 ^ 200000 ∧ b ≤ 2 ^ 4000 ∧ d ≤ 2 ^ 4000 ∧ ∀ z H', Same H H' → Tp H' z (ratD (mkRat a b + mkRat c d)) → Q z H'
/-- plus: one, other -/
def t_plus (Γ : Gm) : TS := (tRet (tCal (sp_lowest Γ) E0 (tCons (tOp (rAddU Γ.K) (tOp (rMulU Γ.K) (tOp (rIx Γ.K) (tVar 0) (tC (.int 0))) (tOp (rIx Γ.K) (tVar 1) (tC (.int 1)))) (tOp (rMulU Γ.K) (tOp (rIx Γ.K) (tVar 1) (tC (.int 0))) (tOp (rIx Γ.K) (tVar 0) (tC (.int 1))))) (tCons (tOp (rMulU Γ.K) (tOp (rIx Γ.K) (tVar 0) (tC (.int 1))) (tOp (rIx Γ.K) (tVar 1) (tC (.int 1)))) tNil))))
theorem rd_plus (Γ : Gm) (vs : List V) (H : Hp) (Q : VK) (E : XK) (h : sp_plus Γ vs H Q E) : t_plus Γ ⟨fun _ H' => Q .non H', Q, fun _ _ => False, fun _ _ => False⟩ (startN 2 vs) H := by
  obtain ⟨x, y, a, c, b, d, rfl, hx, hy, hb, hd, ba, bc, bb, bd, k⟩ := h
  obtain ⟨p, rfl, hp⟩ := fr_inv hx
  obtain ⟨q, rfl, hq⟩ := fr_inv hy
  have hbb : (b : Int).natAbs ≤ 2 ^ 4000 := by rw [Int.natAbs_natCast]; exact bb
  have hdd : (d : Int).natAbs ≤ 2 ^ 4000 := by rw [Int.natAbs_natCast]; exact bd
  have p0 : atI [V.int a, V.int b] 0 = some (.int a) := atI0 _ _
  have p1 : atI [V.int a, V.int b] 1 = some (.int b) := atI1 _ _ _
  have q0 : atI [V.int c, V.int d] 0 = some (.int c) := atI0 _ _
  have q1 : atI [V.int c, V.int d] 1 = some (.int d) := atI1 _ _ _
  unfold t_plus
  walk_at "s"
  walk_at "s"
  walk_at "s"
  walk_at "s"
  walk_at "s"
  walk_at "s"
  walk_at "s"
  walk_at "s"
  refine w_ixT (SqT.of hp) p0 ?_
  walk_at "s"
  walk_at "s"
  walk_at "s"
  refine w_ixT (SqT.of hq) q1 ?_
  refine w_mulI (cmul_of ba hdd) ?_
  walk_at "s"
  walk_at "s"
  walk_at "s"
  walk_at "s"
  refine w_ixT (SqT.of hq) q0 ?_
  walk_at "s"
  walk_at "s"
  walk_at "s"
  refine w_ixT (SqT.of hp) p1 ?_
  refine w_mulI (cmul_of bc hbb) ?_
  refine w_addI ?_
  walk_at "s"
  walk_at "s"
  walk_at "s"
  walk_at "s"
  walk_at "s"
  refine w_ixT (SqT.of hp) p1 ?_
  walk_at "s"
  walk_at "s"
  walk_at "s"
  refine w_ixT (SqT.of hq) q1 ?_
  refine w_mulI (cmul_of hbb hdd) ?_
  walk_at "s"
  refine ⟨a * d + c * b, b * d, by rw [Int.natCast_mul], Nat.mul_pos hb hd, ?_, fun z H' e t => ?_⟩
  · refine Nat.le_trans (Nat.mul_le_mul bb bd) ?_
    rw [← Nat.pow_add]
    exact Nat.le_refl _
  · refine k z H' e ?_
    rw [Rat.mkRat_add_mkRat _ _ (by omega) (by omega)]
    exact t

/-! ### numbers of ways -/
def conv (t : List Nat) (n k : Nat) : Nat := ((List.range k).map fun i => t.getD (i + 1) 0 * t.getD (n - (i + 1)) 0).sum
def catT : Nat → List Nat
  | 0 => [0, 1]
  | k + 1 => catT k ++ [conv (catT k) (k + 2) (k + 1)]
theorem catT_len : ∀ k, (catT k).length = k + 2
  | 0 => rfl
  | k + 1 => by
    show (catT k ++ [_]).length = _
    rw [List.length_append, catT_len k]
    rfl
def cat (n : Nat) : Nat := (catT (n - 1)).getD n 0
theorem catT_get : ∀ k m, m ≤ k + 1 → (catT k).getD m 0 = cat m
  | 0, 0, _ => rfl
  | 0, 1, _ => rfl
  | 0, m + 2, h => by omega
  | k + 1, m, h => by
    by_cases e : m = k + 2
    · subst e
      rfl
    · rw [← catT_get k m (by omega)]
      show (catT k ++ [_]).getD m 0 = _
      rw [List.getD_eq_getElem?_getD, List.getElem?_append_left (by rw [catT_len]; omega), List.getD_eq_getElem?_getD]
/-- how many ways have a first part of at most j things -/
def off (n j : Nat) : Nat := ((List.range j).map fun i => cat (i + 1) * cat (n - (i + 1))).sum
theorem off_succ (n j : Nat) : off n (j + 1) = off n j + cat (j + 1) * cat (n - (j + 1)) := by
  unfold off
  rw [List.range_succ, List.map_append, List.sum_append]
  simp
theorem off_mono (n : Nat) {j k : Nat} (h : j ≤ k) : off n j ≤ off n k := by
  induction k with
  | zero => rw [Nat.le_zero.mp h]; exact Nat.le_refl _
  | succ k ih =>
    by_cases e : j = k + 1
    · rw [e]; exact Nat.le_refl _
    · have := ih (by omega)
      rw [off_succ]
      omega
theorem cat_step {n : Nat} (h : 2 ≤ n) : cat n = off n (n - 1) := by
  obtain ⟨k, rfl⟩ : ∃ k, n = k + 2 := ⟨n - 2, by omega⟩
  have e1 : cat (k + 2) = conv (catT k) (k + 2) (k + 1) := by
    show (catT k ++ [_]).getD (k + 2) 0 = _
    rw [List.getD_eq_getElem?_getD, List.getElem?_append_right (by rw [catT_len]; exact Nat.le_refl _), catT_len, Nat.sub_self]
    rfl
  rw [e1]
  unfold conv off
  show ((List.range (k + 1)).map _).sum = ((List.range (k + 1)).map _).sum
  congr 1
  refine List.map_congr_left fun i hi => ?_
  have := List.mem_range.mp hi
  rw [catT_get k (i + 1) (by omega), catT_get k (k + 2 - (i + 1)) (by omega)]
theorem cat_le : ∀ n ≤ 40, cat n ≤ 2 ^ 80 := by decide +kernel
def rankW : Wy → Nat
  | .one => 0
  | .two l r => off (l.things + r.things) (l.things - 1) + rankW l * cat r.things + rankW r
theorem mul_lt {a A b B : Nat} (h1 : a < A) (h2 : b < B) : a * B + b < A * B := by
  have : (a + 1) * B ≤ A * B := Nat.mul_le_mul_right B h1
  rw [Nat.succ_mul] at this
  omega
theorem rank_part {l r : Wy} (hl : rankW l < cat l.things) (hr : rankW r < cat r.things) : off (l.things + r.things) (l.things - 1) ≤ rankW (.two l r) ∧ rankW (.two l r) < off (l.things + r.things) l.things := by
  have p := l.pos
  have e : rankW (.two l r) = off (l.things + r.things) (l.things - 1) + rankW l * cat r.things + rankW r := rfl
  have s := off_succ (l.things + r.things) (l.things - 1)
  rw [show l.things - 1 + 1 = l.things by omega, show l.things + r.things - l.things = r.things by omega] at s
  have := mul_lt hl hr
  omega
theorem rank_lt : ∀ w : Wy, rankW w < cat w.things
  | .one => by decide
  | .two l r => by
    have hl := rank_lt l
    have hr := rank_lt r
    have p1 := l.pos
    have p2 := r.pos
    obtain ⟨_, h⟩ := rank_part hl hr
    rw [things_two, cat_step (by omega)]
    exact Nat.lt_of_lt_of_le h (off_mono _ (by omega))
theorem rank_inj : ∀ (w w' : Wy), w.things = w'.things → rankW w = rankW w' → w = w'
  | .one, .one, _, _ => rfl
  | .one, .two l r, h, _ => by
    have p1 := l.pos
    have p2 := r.pos
    rw [things_two] at h
    have : (Wy.one).things = 1 := rfl
    omega
  | .two l r, .one, h, _ => by
    have p1 := l.pos
    have p2 := r.pos
    rw [things_two] at h
    have : (Wy.one).things = 1 := rfl
    omega
  | .two l r, .two l' r', h, e => by
    rw [things_two, things_two] at h
    have a := rank_part (rank_lt l) (rank_lt r)
    have b := rank_part (rank_lt l') (rank_lt r')
    rw [← h] at b
    rw [e] at a
    have pl := l.pos
    have pl' := l'.pos
    have ht : l.things = l'.things := by
      rcases Nat.lt_trichotomy l.things l'.things with c | c | c
      · have := off_mono (l.things + r.things) (show l.things ≤ l'.things - 1 by omega)
        omega
      · exact c
      · have := off_mono (l.things + r.things) (show l'.things ≤ l.things - 1 by omega)
        omega
    have hr : r.things = r'.things := by omega
    have e1 : rankW (.two l r) = off (l.things + r.things) (l.things - 1) + rankW l * cat r.things + rankW r := rfl
    have e2 : rankW (.two l' r') = off (l'.things + r'.things) (l'.things - 1) + rankW l' * cat r'.things + rankW r' := rfl
    rw [e1, e2, ← ht, ← hr] at e
    have q1 := rank_lt r
    have q2 := rank_lt r'
    rw [← hr] at q2
    have ez : rankW l * cat r.things + rankW r = rankW l' * cat r.things + rankW r' := by omega
    have d1 : rankW r = rankW r' := by
      have := congrArg (· % cat r.things) ez
      simpa [Nat.mul_add_mod_self_right, Nat.mod_eq_of_lt q1, Nat.mod_eq_of_lt q2] using this
    have d2 : rankW l = rankW l' := by
      rw [d1] at ez
      exact Nat.eq_of_mul_eq_mul_right (by omega) (Nat.add_right_cancel ez)
    rw [rank_inj l l' ht d2, rank_inj r r' hr d1]
/-! where a way stands among all -/
theorem flat_get {α : Type} (f : Nat → List α) : ∀ (m k : Nat) (x : α), ((List.range m).flatMap f)[k]? = some x → ∃ j k', j < m ∧ (f j)[k']? = some x ∧ k = ((List.range j).map fun i => (f i).length).sum + k'
  | 0, k, x, h => by simp at h
  | m + 1, k, x, h => by
    rw [List.range_succ, List.flatMap_append] at h
    by_cases c : k < ((List.range m).flatMap f).length
    · rw [List.getElem?_append_left c] at h
      obtain ⟨j, k', h1, h2, h3⟩ := flat_get f m k x h
      exact ⟨j, k', by omega, h2, h3⟩
    · rw [List.getElem?_append_right (by omega)] at h
      refine ⟨m, k - ((List.range m).flatMap f).length, by omega, by simpa using h, ?_⟩
      rw [List.length_flatMap] at c ⊢
      omega
theorem pairs_len (A B : List Wy) : (pairs A B).length = A.length * B.length := by
  induction A with
  | nil => show 0 = _; simp
  | cons a A ih =>
    have : pairs (a :: A) B = (B.map fun b => Wy.two a b) ++ pairs A B := by
      unfold pairs
      rw [List.flatMap_cons]
    rw [this, List.length_append, List.length_map, ih, List.length_cons, Nat.succ_mul, Nat.add_comm]
theorem pairs_get : ∀ (A B : List Wy) (k : Nat) (w : Wy), (pairs A B)[k]? = some w → ∃ a b i j, A[i]? = some a ∧ B[j]? = some b ∧ w = .two a b ∧ k = i * B.length + j
  | [], B, k, w, h => by
    have : (pairs [] B)[k]? = none := rfl
    rw [this] at h
    cases h
  | a :: A, B, k, w, h => by
    have hd : pairs (a :: A) B = (B.map fun b => Wy.two a b) ++ pairs A B := by
      unfold pairs
      rw [List.flatMap_cons]
    rw [hd] at h
    by_cases c : k < B.length
    · rw [List.getElem?_append_left (by rw [List.length_map]; exact c), List.getElem?_map] at h
      obtain ⟨b, hb, rfl⟩ := Option.map_eq_some_iff.mp h
      exact ⟨a, b, 0, k, rfl, hb, rfl, by omega⟩
    · rw [List.getElem?_append_right (by rw [List.length_map]; omega), List.length_map] at h
      obtain ⟨a', b, i, j, h1, h2, h3, h4⟩ := pairs_get A B _ w h
      refine ⟨a', b, i + 1, j, by rw [List.getElem?_cons_succ]; exact h1, h2, h3, ?_⟩
      rw [Nat.succ_mul]
      omega
theorem ways_len : ∀ n, 1 ≤ n → (waysN n).length = cat n := by
  intro n
  induction n using Nat.strongRecOn with
  | ind n ih =>
    intro h1
    by_cases e : n = 1
    · subst e
      rfl
    rw [waysN_step (by omega), List.length_flatMap, cat_step (by omega)]
    unfold off
    congr 1
    refine List.map_congr_left fun j hj => ?_
    have := List.mem_range.mp hj
    rw [pairs_len, ih (j + 1) (by omega) (by omega), ih (n - (j + 1)) (by omega) (by omega)]
theorem ways_rank : ∀ n, 1 ≤ n → ∀ k w, (waysN n)[k]? = some w → rankW w = k := by
  intro n
  induction n using Nat.strongRecOn with
  | ind n ih =>
    intro h1 k w h
    by_cases e : n = 1
    · subst e
      match k, h with
      | 0, h => cases h; rfl
      | k + 1, h => simp [waysN, wTab] at h
    rw [waysN_step (by omega)] at h
    obtain ⟨j, k', hj, h2, h3⟩ := flat_get _ _ _ _ h
    obtain ⟨a, b, i, q, ha, hb, rfl, h4⟩ := pairs_get _ _ _ _ h2
    have ra := ih (j + 1) (by omega) (by omega) i a ha
    have rb := ih (n - (j + 1)) (by omega) (by omega) q b hb
    have ta := ways_things (j + 1) (by omega) a (List.mem_of_getElem? ha)
    have tb := ways_things (n - (j + 1)) (by omega) b (List.mem_of_getElem? hb)
    show off (a.things + b.things) (a.things - 1) + rankW a * cat b.things + rankW b = k
    rw [ta, tb, ra, rb, h3, h4, ways_len (n - (j + 1)) (by omega), show j + 1 + (n - (j + 1)) = n by omega, Nat.add_sub_cancel]
    have : ((List.range j).map fun i => (pairs (waysN (i + 1)) (waysN (n - (i + 1)))).length).sum = off n j := by
      unfold off
      congr 1
      refine List.map_congr_left fun z hz => ?_
      have := List.mem_range.mp hz
      rw [pairs_len, ways_len (z + 1) (by omega), ways_len (n - (z + 1)) (by omega)]
    rw [this]
    omega
theorem ways_all : ∀ w : Wy, w ∈ waysN w.things
  | .one => by
    show Wy.one ∈ [Wy.one]
    exact List.mem_singleton.mpr rfl
  | .two l r => by
    have p1 := l.pos
    have p2 := r.pos
    rw [things_two, waysN_step (by omega), List.mem_flatMap]
    refine ⟨l.things - 1, List.mem_range.mpr (by omega), ?_⟩
    rw [show l.things - 1 + 1 = l.things by omega, show l.things + r.things - l.things = r.things by omega]
    exact mem_pairs.mpr ⟨l, ways_all l, r, ways_all r, rfl⟩
/-! ### counts_to -/
def catV (m : Nat) : List V := (List.range (m + 1)).map fun i => V.int (cat i : Nat)
theorem catV_len (m : Nat) : (catV m).length = m + 1 := by unfold catV; rw [List.length_map, List.length_range]
theorem cat_ix {m n : Nat} (h : n ≤ m) {j : Int} (e : j = n) : atI (catV m) j = some (.int (cat n : Nat)) := by
  subst e
  refine atI_of (by omega) ?_
  rw [Int.toNat_natCast]
  unfold catV
  rw [List.getElem?_map, List.getElem?_range (by omega)]
  rfl
def sp_counts_to (Γ : Gm) : Sp := fun vs H Q _ => ∃ n : Nat, vs = [.int n] ∧ 1 ≤ n ∧ n ≤ 40 ∧ ∀ l H', Same H H' → H l = none → H' l = some (.lst (catV n)) → Q (.ref l) H'
theorem sum_nat : ∀ (l : List Nat), (l.map fun n : Nat => (n : Int)).sum = ((l.sum : Nat) : Int)
  | [] => rfl
  | n :: l => by rw [List.map_cons, List.sum_cons, List.sum_cons, sum_nat l, Int.natCast_add]
/-- counts_to: heap, found, size, first -/
def t_counts_to (Γ : Gm) : TS := (tSeq (tAsg (tLst (tCons (tC (.int 0)) (tCons (tC (.int 1)) tNil))) (gName 1))
  (tSeq (tFor (iRng2 (tCons (tC (.int 2)) (tCons (tOp (rAddU Γ.K) (tVar 0) (tC (.int 1))) tNil))) (gName 2) (tDrop (tBM Γ.K "list" rAppend (tVar 1) (tCons (tCB (rSum Γ.K) (tCons (tLc (iRng2 (tCons (tC (.int 1)) (tCons (tVar 2) tNil))) (gName 3) tYes (tOp (rMulU Γ.K) (tOp (rIx Γ.K) (tVar 1) (tVar 3)) (tOp (rIx Γ.K) (tVar 1) (tOp rSubI (tVar 2) (tVar 3)))) [3]) tNil)) tNil))))
  (tRet (tVar 1))))
theorem rd_counts_to (Γ : Gm) (vs : List V) (H : Hp) (Q : VK) (E : XK) (h : sp_counts_to Γ vs H Q E) : t_counts_to Γ ⟨fun _ H' => Q .non H', Q, fun _ _ => False, fun _ _ => False⟩ (startN 4 vs) H := by
  obtain ⟨n, rfl, h1, h40, k⟩ := h
  unfold t_counts_to
  walk_at "ss"
  refine n_lst fun L H1 fL e1 g1 => ?_
  walk_at "ss"
  refine k_rng2 (by omega) ?_
  refine k_range (fun i σ H' => ∃ x2 x3, σ = [some (.int n), some (.ref L), x2, x3] ∧ Same H H' ∧ H' L = some (.lst (catV (i + 1)))) ⟨none, none, rfl, e1, g1⟩ ?_ ?_
  · rintro i σ H2 hi ⟨x2, x3, rfl, e2, g2⟩
    have hi' : i + 2 ≤ n := by omega
    walk_at "ss"
    refine w_tyL g2 ?_
    walk_at "ss"
    refine k_rng2 (by omega) ?_
    rw [show (2 + (i : Int) - 1).toNat = i + 1 by omega]
    refine k_lcRange (fun j acc _ => acc = (((List.range j).map fun q => cat (q + 1) * cat (i + 2 - (q + 1))).map fun n : Nat => V.int (n : Int))) (fun _ _ => rfl) ?_ ?_
    · rintro j D acc H3 hj hD e3 hacc rfl
      have gL := e3 _ _ g2
      have c1 := cat_le (j + 1) (by omega)
      have c2 := cat_le (i + 2 - (j + 1)) (by omega)
      have c1' : (((cat (j + 1) : Nat)) : Int).natAbs ≤ 2 ^ 80 := by rw [Int.natAbs_natCast]; exact c1
      have c2' : (((cat (i + 2 - (j + 1)) : Nat)) : Int).natAbs ≤ 2 ^ 80 := by rw [Int.natAbs_natCast]; exact c2
      walk_at "ss"
      refine ⟨rfl, ?_⟩
      walk_at "ss"
      refine w_ixL (SqL.of gL) (cat_ix (n := j + 1) (by omega) (by omega)) ?_
      walk_at "ss"
      refine w_ixL (SqL.of gL) (cat_ix (n := i + 2 - (j + 1)) (by omega) (by omega)) ?_
      refine w_mulI (cmul_of c1' c2') ?_
      refine lcTurn.mk hD e3 hacc (by rw [List.length_map, List.length_map, List.length_range]; omega) ?_
      rw [List.range_succ, List.map_append, List.map_append]
      simp only [List.map_cons, List.map_nil]
      rw [Int.natCast_mul]
    · rintro D acc H3 hD e3 hacc rfl
      walk_at "ss"
      refine w_sum (ns := ((List.range (i + 1)).map fun q => cat (q + 1) * cat (i + 2 - (q + 1))).map fun n : Nat => (n : Int)) (SqL.of (by rw [hacc, List.map_map (f := fun n : Nat => (n : Int))]; rfl)) ?_
      walk_at "ss"
      have gL := e3 _ _ g2
      refine w_app gL (by rw [catV_len]; omega) ?_
      refine ⟨_, _, rfl, Same.mut (e2.trans e3) fL, ?_⟩
      rw [upd_same, sum_nat]
      have ec : ((List.range (i + 1)).map fun q => cat (q + 1) * cat (i + 2 - (q + 1))).sum = cat (i + 2) := (cat_step (n := i + 2) (by omega)).symm
      rw [ec]
      unfold catV
      rw [List.range_succ (n := i + 1 + 1), List.map_append]
      rfl
  · rintro σ H2 ⟨x2, x3, rfl, e2, g2⟩
    walk_at "ss"
    rw [show ((n : Int) + 1 - 2).toNat + 1 = n by omega] at g2
    exact k L H2 e2 fL g2

/-! ### dicts that are walked -/
theorem un1 {n m : Nat} (h : n + 64 < m) : n + 1 < m := by omega
/-- locked, or so already -/
def tLockM (t : TS) : TS := fun D σ H => tLock t D σ H ∨ t D σ H
theorem ps_lockM {X : Cx} {st : Stmt} {t : TS} (h : PS X st t) : PS X st (tLockM t) := by
  refine ⟨fun pins s σ H D I hw => ?_⟩
  rcases hw with hw | hw
  · exact (ps_lock h).run pins s σ H D I hw
  · exact h.run pins s σ H D I hw
theorem k_items {d : Addr} {o : Obj} {kvs : List (Key × V)} {σ : St} {H : Hp} {g : TG} {t : TS} {nx : St → Hp → Prop} {rt : VK} (Pv : Nat → St → Hp → Prop) (h0 : Pv 0 σ H) (hl : ∀ i σ H, i ≤ kvs.length → Pv i σ H → H d = some (.frz o (.dK kvs)))
    (hs : ∀ i k v σ H T, kvs[i]? = some (k, v) → Pv i σ H → H T = none → g (.ref T) σ (upd H T (.tup [kV k, v])) fun σ2 H2 => t ⟨Pv (i + 1), rt, nx, Pv (i + 1)⟩ σ2 H2) (hd : ∀ σ H, Pv kvs.length σ H → nx σ H) : forK (Iti d o kvs) g t nx rt σ H := by
  refine ⟨fun i m σ H => m = kvs.length - i ∧ i ≤ kvs.length ∧ Pv i σ H, ⟨kvs.length, rfl, Nat.zero_le _, h0⟩, ?_⟩
  rintro i m σ H ⟨rfl, hi, p⟩
  have q := hl i σ H hi p
  by_cases hlt : i < kvs.length
  · refine .inr ⟨⟨q, hlt⟩, Pv (i + 1), fun σ' H' p' => ⟨kvs.length - (i + 1), by omega, rfl, hlt, p'⟩, fun x H' y => ?_⟩
    obtain ⟨T, k, v, hkv, rfl, hT, rfl⟩ := y
    exact hs i k v σ H T hkv p hT
  · have e : i = kvs.length := by omega
    subst e
    exact .inl ⟨⟨q, Nat.le_refl _⟩, hd σ H p⟩
/-- all but what stands at g -/
def But (g : Addr) (H H' : Hp) : Prop := ∀ b o, b ≠ g → H b = some o → H' b = some o
theorem But.refl {g : Addr} (H : Hp) : But g H H := fun _ _ _ h => h
theorem _root_.L2.Same.butD {g : Addr} {H H' : Hp} (e : Same H H') : But g H H' := fun b o _ h => e b o h
theorem But.trans {g : Addr} {H H1 H2 : Hp} (a : But g H H1) (b : But g H1 H2) : But g H H2 := fun c o n h => b c o n (a c o n h)
theorem But.at {g : Addr} {H H' : Hp} {o : HO} (e : But g H H') : But g H (upd H' g o) := fun b u n h => by
  rw [upd_ne n]
  exact e b u n h
theorem But.same {g : Addr} {H H1 H2 : Hp} (n : H g = none) (a : Same H H1) (b : But g H1 H2) : Same H H2 := fun c o h => b c o (ne_of_none h n) (a c o h)
theorem But.tp {g : Addr} {H H' : Hp} {kvs : List (Key × V)} (e : But g H H') (h : H g = some (.dK kvs)) : Tups H H' := fun a xs q => e a _ (fun z => by subst z; rw [h] at q; cases q) q
theorem But.rule {Γ : Gm} {g : Addr} {H H' : Hp} {v : V} {r : R} {kvs : List (Key × V)} (e : But g H H') (h : H g = some (.dK kvs)) (k : RuleAt Γ H v r) : RuleAt Γ H' v r := by
  obtain ⟨p, dx, b, rfl, h2, h3, h4⟩ := k
  exact ⟨p, dx, b, rfl, e p _ (fun z => by subst z; rw [h] at h2; cases h2) h2, h3.mono (e.tp h), h4⟩
/-- the lock at d goes -/
theorem But.unlock {g d : Addr} {H H' : Hp} {od : Obj} {u : HO} (hd : H d = some u) (e : But g (upd H d (.frz od u)) H') (ne : d ≠ g) : But g H (upd H' d u) := fun b o n h => by
  by_cases hb : b = d
  · subst hb
    rw [upd_same]
    rw [hd] at h
    exact h
  · rw [upd_ne hb]
    exact e b o n (by rw [upd_ne hb]; exact h)
theorem But.locked {g d : Addr} {H H' : Hp} {od : Obj} {u : HO} (e : But g (upd H d (.frz od u)) H') (ne : d ≠ g) : H' d = some (.frz od u) := e d _ ne upd_same
theorem w_lockY {t : TS} {D : Ends} {σ : St} {H : Hp} (d : Addr) (u : HO) (hd : H d = some u) (mu : Mut (some u)) (h : ∀ od, t ⟨fun σ' H' => H' d = some (.frz od u) ∧ D.nx σ' (upd H' d u), fun v H' => H' d = some (.frz od u) ∧ D.rt v (upd H' d u), fun σ' H' => H' d = some (.frz od u) ∧ D.bk σ' (upd H' d u), fun σ' H' => H' d = some (.frz od u) ∧ D.ct σ' (upd H' d u)⟩ σ (upd H d (.frz od u))) : tLockM t D σ H := .inl ⟨d, u, hd, mu, h⟩
theorem w_lockN {t : TS} {D : Ends} {σ : St} {H : Hp} (h : t D σ H) : tLockM t D σ H := .inr h
section
variable {K : PySem.W.Frag} {σ : St} {H : Hp} {Q : VK} {nx bk ct : St → Hp → Prop} {rt : VK}
theorem w_items {td : TE} {R : It → Hp → Prop} (h : td σ H fun x H1 => ∃ d o kvs, x = .ref d ∧ H1 d = some (.frz o (.dK kvs)) ∧ R (Iti d o kvs) H1) : iItems td σ H R := h
theorem w_dget2 {td ty tx : TE} (h : td σ H fun x H1 => ∃ a, x = .ref a ∧ IsD H1 a ∧ ty σ H1 fun y H2 => tx σ H2 fun z H3 => ∃ o, DGet H3 a y o ∧ Q (o.getD z) H3) : tDGet2 td ty tx σ H Q := h
theorem w_dget {td ty : TE} (h : td σ H fun x H1 => ty σ H1 fun y H2 => ∃ a v, x = .ref a ∧ DGet H2 a y (some v) ∧ Q v H2) : tDGet td ty σ H Q := h
theorem w_setD {p : Addr} {kvs : List (Key × V)} {i : Int} {v : V} {k : Hp → Prop} (hp : H p = some (.dK kvs)) (hz : kvs.length ≤ 100000) (h : k (upd H p (.dK (putK kvs (.inl i) v)))) : rSetD (.ref p) (.int i) v H k := ⟨p, _, rfl, DPut.k (k := .inl i) hp (Nat.lt_of_le_of_lt hz (by decide)), h⟩
theorem w_disp1 {i j : Int} (h : ∀ p H', H p = none → Same H H' → H' p = some (.dK [((.inl i : Key), .int j)]) → Q (.ref p) H') : tDisp [(tC (.int i), tC (.int j))] σ H Q := fun p hp => ⟨upd_same, [(.inl i, .int j)], rfl, Nat.succ_le_succ (Nat.zero_le 14), by rw [upd_upd]; exact h p _ hp (Same.new hp) upd_same⟩
theorem w_dnew (h : ∀ p H', H p = none → Same H H' → H' p = some (.dK []) → Q (.ref p) H') : tDNewK σ H Q := fun p hp => h p _ hp (Same.new hp) upd_same
end
/-! ### dicts from numbers to how many -/
def kvD (D : List (Int × Nat)) : List (Key × V) := D.map fun p => ((.inl p.1 : Key), V.int (p.2 : Int))
def getN : List (Int × Nat) → Int → Nat
  | [], _ => 0
  | p :: r, x => if p.1 = x then p.2 else getN r x
def addR : List (Int × Nat) → Int → Nat → List (Int × Nat)
  | [], x, c => [(x, c)]
  | p :: r, x, c => if p.1 = x then (p.1, p.2 + c) :: r else p :: addR r x c
theorem keysD (D : List (Int × Nat)) : (kvD D).map (fun kv => kV kv.1) = (D.map (·.1)).map V.int := by
  unfold kvD
  rw [List.map_map, List.map_map]
  rfl
theorem getN_val (D : List (Int × Nat)) (x : Int) : (valV (kvD D) (.inl x)).getD (.int 0) = .int (getN D x : Nat) := by
  induction D with
  | nil => rfl
  | cons p r ih =>
    unfold getN
    by_cases e : p.1 = x
    · rw [if_pos e]
      show (valV ((.inl p.1, V.int (p.2 : Int)) :: kvD r) (.inl x)).getD _ = _
      rw [valV_pos (by rw [e])]
      rfl
    · rw [if_neg e]
      show (valV ((.inl p.1, V.int (p.2 : Int)) :: kvD r) (.inl x)).getD _ = _
      rw [valV_neg (fun z => e (by injection z))]
      exact ih
theorem valV_mem {D : List (Int × Nat)} (nd : (D.map (·.1)).Nodup) {x : Int} {m : Nat} (h : (x, m) ∈ D) : valV (kvD D) (.inl x) = some (.int (m : Nat)) := by
  induction D with
  | nil => cases h
  | cons p r ih =>
    rw [List.map_cons, List.nodup_cons] at nd
    show valV ((.inl p.1, V.int (p.2 : Int)) :: kvD r) (.inl x) = _
    rcases List.mem_cons.mp h with rfl | h
    · rw [valV_pos rfl]
    · rw [valV_neg (fun z => ?_)]
      · exact ih nd.2 h
      · have z' : p.1 = x := by injection z
        exact nd.1 (List.mem_map.mpr ⟨(x, m), h, z'.symm⟩)
theorem any_keys (D : List (Int × Nat)) (x : Int) : ((kvD D).any fun kv => decide (kv.1 = (.inl x : Key))) = decide (x ∈ D.map (·.1)) := by
  induction D with
  | nil => simp [kvD]
  | cons p r ih =>
    show (decide ((.inl p.1 : Key) = .inl x) || (kvD r).any _) = _
    rw [ih]
    by_cases e : p.1 = x
    · subst e; simp
    · have e1 : ¬ ((.inl p.1 : Key) = .inl x) := fun z => e (by injection z)
      have e2 : ¬ x = p.1 := fun z => e z.symm
      rw [decide_eq_false e1, List.map_cons, Bool.false_or]
      apply decide_eq_decide.mpr
      rw [List.mem_cons]
      exact ⟨.inr, fun h => h.resolve_left e2⟩
theorem map_id_key {r : List (Int × Nat)} {x : Int} {v : V} (h : x ∉ r.map (·.1)) : (kvD r).map (fun kv => if kv.1 = (.inl x : Key) then (kv.1, v) else kv) = kvD r := by
  induction r with
  | nil => rfl
  | cons p r ih =>
    rw [List.map_cons, List.mem_cons, not_or] at h
    show (if (.inl p.1 : Key) = .inl x then _ else _) :: (kvD r).map _ = _
    rw [ih h.2, if_neg (fun z => h.1 (by injection z with z; exact z.symm))]
    rfl
theorem put_addR {D : List (Int × Nat)} (nd : (D.map (·.1)).Nodup) (x : Int) (c : Nat) : putK (kvD D) (.inl x) (.int ((getN D x + c : Nat) : Int)) = kvD (addR D x c) := by
  unfold putK
  rw [any_keys]
  induction D with
  | nil =>
    rw [if_neg (by simp)]
    unfold getN addR
    rw [Nat.zero_add]
    rfl
  | cons p r ih =>
    rw [List.map_cons, List.nodup_cons] at nd
    have ih := ih nd.2
    unfold getN addR
    by_cases e : p.1 = x
    · have hx : x ∉ r.map (·.1) := by rw [← e]; exact nd.1
      rw [if_pos e, if_pos e, if_pos (decide_eq_true (by rw [List.map_cons, e]; exact List.mem_cons_self ..))]
      show (if (.inl p.1 : Key) = .inl x then _ else _) :: (kvD r).map _ = _
      rw [map_id_key hx, if_pos (by rw [e])]
      rfl
    · rw [if_neg e, if_neg e]
      have e1 : ¬ ((.inl p.1 : Key) = .inl x) := fun z => e (by injection z)
      by_cases hx : x ∈ r.map (·.1)
      · rw [if_pos (decide_eq_true (by rw [List.map_cons]; exact List.mem_cons_of_mem _ hx))]
        rw [if_pos (decide_eq_true hx)] at ih
        show (if (.inl p.1 : Key) = .inl x then _ else _) :: (kvD r).map _ = _
        rw [ih, if_neg e1]
        rfl
      · rw [if_neg (by rw [decide_eq_false (by rw [List.map_cons, List.mem_cons, not_or]; exact ⟨fun z => e z.symm, hx⟩)]; decide)]
        rw [if_neg (by rw [decide_eq_false hx]; decide)] at ih
        show (.inl p.1, V.int (p.2 : Int)) :: (kvD r ++ _) = _
        rw [ih]
        rfl
theorem addR_keys (D : List (Int × Nat)) (x : Int) (c : Nat) : (addR D x c).map (·.1) = if x ∈ D.map (·.1) then D.map (·.1) else D.map (·.1) ++ [x] := by
  induction D with
  | nil => rfl
  | cons p r ih =>
    unfold addR
    by_cases e : p.1 = x
    · rw [if_pos e, if_pos (by rw [List.map_cons, e]; exact List.mem_cons_self ..)]
      rfl
    · rw [if_neg e, List.map_cons, ih, List.map_cons]
      by_cases hx : x ∈ r.map (·.1)
      · rw [if_pos hx, if_pos (List.mem_cons_of_mem _ hx)]
      · rw [if_neg hx, if_neg (by rw [List.mem_cons, not_or]; exact ⟨fun z => e z.symm, hx⟩)]
        rfl
theorem addR_nodup {D : List (Int × Nat)} (nd : (D.map (·.1)).Nodup) (x : Int) (c : Nat) : ((addR D x c).map (·.1)).Nodup := by
  rw [addR_keys]
  split
  · exact nd
  · rename_i h
    rw [List.nodup_append]
    refine ⟨nd, by simp, fun a ha b hb => ?_⟩
    rw [List.mem_singleton] at hb
    subst hb
    exact fun z => h (z ▸ ha)
theorem addR_pos {D : List (Int × Nat)} (h : ∀ p ∈ D, 1 ≤ p.2) (x : Int) {c : Nat} (hc : 1 ≤ c) : ∀ p ∈ addR D x c, 1 ≤ p.2 := by
  induction D with
  | nil =>
    intro p hp
    rw [addR, List.mem_singleton] at hp
    subst hp
    exact hc
  | cons q r ih =>
    unfold addR
    intro p hp
    split at hp
    · rcases List.mem_cons.mp hp with rfl | hp
      · show 1 ≤ q.2 + c
        omega
      · exact h p (List.mem_cons_of_mem _ hp)
    · rcases List.mem_cons.mp hp with rfl | hp
      · exact h _ (List.mem_cons_self ..)
      · exact ih (fun z hz => h z (List.mem_cons_of_mem _ hz)) p hp
/-- all that D says, weighed -/
def wD (D : List (Int × Nat)) (f : Int → Nat) : Nat := (D.map fun p => p.2 * f p.1).sum
theorem wD_cons (p : Int × Nat) (r : List (Int × Nat)) (f : Int → Nat) : wD (p :: r) f = p.2 * f p.1 + wD r f := rfl
theorem wD_addR (D : List (Int × Nat)) (x : Int) (c : Nat) (f : Int → Nat) : wD (addR D x c) f = wD D f + c * f x := by
  induction D with
  | nil =>
    show c * f x + 0 = 0 + c * f x
    omega
  | cons p r ih =>
    unfold addR
    split
    · rename_i e
      rw [wD_cons, wD_cons]
      show (p.2 + c) * f p.1 + wD r f = _
      rw [Nat.add_mul, e]
      omega
    · rw [wD_cons, wD_cons, ih]
      omega
/-- a dict of how many: each key once, none of none -/
structure OkD (D : List (Int × Nat)) : Prop where
  nd : (D.map (·.1)).Nodup
  ps : ∀ p ∈ D, 1 ≤ p.2
theorem OkD.add {D : List (Int × Nat)} (h : OkD D) (x : Int) {c : Nat} (hc : 1 ≤ c) : OkD (addR D x c) := ⟨addR_nodup h.nd x c, addR_pos h.ps x hc⟩
theorem OkD.nil : OkD [] := ⟨List.nodup_nil, fun _ z => nomatch z⟩
theorem OkD.len {D : List (Int × Nat)} (h : OkD D) : D.length ≤ wD D fun _ => 1 := by
  have key : ∀ l : List (Int × Nat), (∀ p ∈ l, 1 ≤ p.2) → l.length ≤ wD l fun _ => 1 := by
    intro l
    induction l with
    | nil => intro _; exact Nat.zero_le _
    | cons p r ih =>
      intro hp
      have h1 := hp p (List.mem_cons_self ..)
      have h2 := ih fun q hq => hp q (List.mem_cons_of_mem _ hq)
      rw [wD_cons, List.length_cons]
      omega
  exact key D h.ps
theorem wD_mem {D : List (Int × Nat)} {p : Int × Nat} (h : p ∈ D) (f : Int → Nat) : p.2 * f p.1 ≤ wD D f := by
  induction D with
  | nil => cases h
  | cons q r ih =>
    rw [wD_cons]
    rcases List.mem_cons.mp h with rfl | h
    · omega
    · have := ih h
      omega
/-- D tells how often each number stands in L -/
structure Cnt2 (D : List (Int × Nat)) (L : List Int) : Prop extends OkD D where
  eq : ∀ f : Int → Nat, wD D f = (L.map f).sum
theorem sum_ones (L : List Int) : (L.map fun _ => 1).sum = L.length := by
  induction L with
  | nil => rfl
  | cons a L ih => rw [List.map_cons, List.sum_cons, ih, List.length_cons]; omega
theorem Cnt2.len {D : List (Int × Nat)} {L : List Int} (h : Cnt2 D L) : D.length ≤ L.length := by
  have := h.toOkD.len
  rw [h.eq, sum_ones] at this
  exact this
theorem Cnt2.le {D : List (Int × Nat)} {L : List Int} (h : Cnt2 D L) {p : Int × Nat} (hp : p ∈ D) : p.2 ≤ L.length := by
  have := wD_mem hp fun _ => 1
  rw [h.eq, sum_ones] at this
  simpa using this
theorem sum_ind (L : List Int) (x : Int) : (L.map fun y => if y = x then 1 else 0).sum = L.count x := by
  induction L with
  | nil => rfl
  | cons a L ih =>
    rw [List.map_cons, List.sum_cons, ih, List.count_cons]
    by_cases e : a = x
    · subst e; simp; omega
    · simp [e]
theorem wD_key {D : List (Int × Nat)} (nd : (D.map (·.1)).Nodup) {p : Int × Nat} (hp : p ∈ D) : wD D (fun y => if y = p.1 then 1 else 0) = p.2 := by
  have zero : ∀ (l : List (Int × Nat)) (x : Int), x ∉ l.map (·.1) → wD l (fun y => if y = x then 1 else 0) = 0 := by
    intro l x
    induction l with
    | nil => intro _; rfl
    | cons q r ih =>
      intro h
      rw [List.map_cons, List.mem_cons, not_or] at h
      rw [wD_cons, ih h.2, if_neg (fun z => h.1 z.symm)]
      omega
  induction D with
  | nil => cases hp
  | cons q r ih =>
    rw [List.map_cons, List.nodup_cons] at nd
    rw [wD_cons]
    rcases List.mem_cons.mp hp with rfl | hp
    · rw [zero r p.1 nd.1, if_pos rfl]
      omega
    · have ne : ¬ q.1 = p.1 := fun z => nd.1 (by rw [z]; exact List.mem_map.mpr ⟨p, hp, rfl⟩)
      rw [ih nd.2 hp, if_neg ne]
      omega
theorem Cnt2.count {D : List (Int × Nat)} {L : List Int} (h : Cnt2 D L) {p : Int × Nat} (hp : p ∈ D) : p.2 = L.count p.1 := by
  rw [← wD_key h.nd hp, h.eq, sum_ind]
theorem Cnt2.mem {D : List (Int × Nat)} {L : List Int} (h : Cnt2 D L) (x : Int) : x ∈ D.map (·.1) ↔ x ∈ L := by
  constructor
  · intro hx
    obtain ⟨p, hp, rfl⟩ := List.mem_map.mp hx
    have h1 := h.count hp
    have h2 := h.ps p hp
    exact List.count_pos_iff.mp (by omega)
  · intro hx
    have h1 := h.eq fun y => if y = x then 1 else 0
    rw [sum_ind] at h1
    have h2 := List.count_pos_iff.mpr hx
    have key : ∀ l : List (Int × Nat), 0 < wD l (fun y => if y = x then 1 else 0) → x ∈ l.map (·.1) := by
      intro l
      induction l with
      | nil => intro z; exact absurd z (Nat.lt_irrefl 0)
      | cons q r ih =>
        intro z
        rw [wD_cons] at z
        by_cases e : q.1 = x
        · rw [List.map_cons, e]; exact List.mem_cons_self ..
        · rw [if_neg e] at z
          rw [List.map_cons]
          exact List.mem_cons_of_mem _ (ih (by omega))
    exact key D (by omega)
/-- a dict with a number each time -/
theorem Cnt2.one : Cnt2 [(0, 1)] [0] := ⟨⟨by simp, fun p hp => by rw [List.mem_singleton] at hp; subst hp; decide⟩, fun f => by
  rw [wD_cons]
  show 1 * f 0 + 0 = f 0 + 0
  omega⟩

/-! ### sums of all ways -/
def sumsW (r : R) (n : Nat) : List Int := (waysN n).map r.sum
/-- the sums by the first c splits of n -/
def nextS (r : R) (n c : Nat) : List Int := (List.range c).flatMap fun j => (sumsW r (j + 1)).flatMap fun a => (sumsW r (n - (j + 1))).map fun b => a + b + r.pts ((j + 1 : Nat) : Int) ((n - (j + 1) : Nat) : Int)
theorem sumsW_step (r : R) {n : Nat} (h : 2 ≤ n) : sumsW r n = nextS r n (n - 1) := by
  unfold sumsW nextS
  rw [waysN_step h, List.map_flatMap]
  have cong : ∀ (l : List Nat) (f g : Nat → List Int), (∀ x ∈ l, f x = g x) → l.flatMap f = l.flatMap g := fun l f g hfg => by
    induction l with
    | nil => rfl
    | cons x l ih => rw [List.flatMap_cons, List.flatMap_cons, hfg x (List.mem_cons_self ..), ih fun y hy => hfg y (List.mem_cons_of_mem _ hy)]
  refine cong _ _ _ fun j hj => ?_
  have hj' := List.mem_range.mp hj
  unfold pairs sumsW
  rw [List.map_flatMap, List.flatMap_map]
  have cong2 : ∀ (l : List Wy) (f g : Wy → List Int), (∀ x ∈ l, f x = g x) → l.flatMap f = l.flatMap g := fun l f g hfg => by
    induction l with
    | nil => rfl
    | cons x l ih => rw [List.flatMap_cons, List.flatMap_cons, hfg x (List.mem_cons_self ..), ih fun y hy => hfg y (List.mem_cons_of_mem _ hy)]
  refine cong2 _ _ _ fun a ha => ?_
  rw [List.map_map, List.map_map]
  refine List.map_congr_left fun b hb => ?_
  have h1 := ways_things (j + 1) (by omega) a ha
  have h2 := ways_things (n - (j + 1)) (by omega) b hb
  show r.sum (.two a b) = r.sum a + r.sum b + _
  rw [R.sum_two, h1, h2]
  omega
theorem nextS_succ (r : R) (n c : Nat) : nextS r n (c + 1) = nextS r n c ++ (sumsW r (c + 1)).flatMap fun a => (sumsW r (n - (c + 1))).map fun b => a + b + r.pts ((c + 1 : Nat) : Int) ((n - (c + 1) : Nat) : Int) := by
  unfold nextS
  rw [List.range_succ, List.flatMap_append]
  simp
theorem nextS_le (r : R) (n : Nat) {c m : Nat} (h : c ≤ m) : (nextS r n c).length ≤ (nextS r n m).length := by
  induction m with
  | zero => rw [Nat.le_zero.mp h]; exact Nat.le_refl _
  | succ m ih =>
    by_cases e : c = m + 1
    · rw [e]; exact Nat.le_refl _
    · rw [nextS_succ, List.length_append]
      have := ih (by omega)
      omega
theorem flat_len {α β γ : Type} (A : List α) (B : List β) (f : α → β → γ) : (A.flatMap fun a => B.map (f a)).length = A.length * B.length := by
  induction A with
  | nil => simp
  | cons a A ih => rw [List.flatMap_cons, List.length_append, ih, List.length_map, List.length_cons, Nat.succ_mul]; omega
theorem sumsW_len (r : R) {n : Nat} (h : 1 ≤ n) : (sumsW r n).length = cat n := by
  unfold sumsW
  rw [List.length_map, ways_len n h]
theorem cat10 : ∀ n, n ≤ 10 → cat n ≤ 4862 := by decide +kernel
theorem flat_sum {α β : Type} (A : List α) (B : List β) (g : α → β → Int) (f : Int → Nat) : ((A.flatMap fun a => B.map (g a)).map f).sum = (A.map fun a => (B.map fun b => f (g a b)).sum).sum := by
  induction A with
  | nil => rfl
  | cons a A ih => rw [List.flatMap_cons, List.map_append, List.sum_append, ih, List.map_map, List.map_cons, List.sum_cons]; rfl
theorem wD_take {D : List (Int × Nat)} {i : Nat} {p : Int × Nat} (h : D[i]? = some p) (f : Int → Nat) : wD (D.take (i + 1)) f = wD (D.take i) f + p.2 * f p.1 := by
  unfold wD
  rw [take_succ h, List.map_append, List.sum_append]
  simp
theorem wD_all (D : List (Int × Nat)) (f : Int → Nat) : wD (D.take D.length) f = wD D f := by rw [List.take_length]
theorem wD_congr {D : List (Int × Nat)} {f g : Int → Nat} (h : ∀ x, f x = g x) : wD D f = wD D g := by rw [show f = g from funext h]
theorem wD_mul (D : List (Int × Nat)) (c : Nat) (f : Int → Nat) : c * wD D f = wD D fun x => c * f x := by
  induction D with
  | nil => rfl
  | cons p r ih => rw [wD_cons, wD_cons, Nat.mul_add, ih, Nat.mul_left_comm]
theorem kvD_get {D : List (Int × Nat)} {i : Nat} {k : Key} {v : V} (h : (kvD D)[i]? = some (k, v)) : ∃ p, D[i]? = some p ∧ k = .inl p.1 ∧ v = .int (p.2 : Int) := by
  unfold kvD at h
  rw [List.getElem?_map] at h
  obtain ⟨p, hp, e⟩ := Option.map_eq_some_iff.mp h
  cases e
  exact ⟨p, hp, rfl, rfl⟩
theorem kvD_len (D : List (Int × Nat)) : (kvD D).length = D.length := List.length_map ..
theorem addR_len (D : List (Int × Nat)) (x : Int) (c : Nat) : (addR D x c).length ≤ D.length + 1 := by
  induction D with
  | nil => exact Nat.le_refl _
  | cons p r ih =>
    unfold addR
    split
    · rw [List.length_cons, List.length_cons]; omega
    · rw [List.length_cons, List.length_cons]; omega
/-- the innermost loop -/
theorem sums_inner (Γ : Gm) {v fo : V} {n size first m one : Int} {many : Nat} {p d2 : Addr} {od : Obj} {D D2 : List (Int × Nat)} {x9 x10 x11 : Option V} {H6 : Hp} {nx : St → Hp → Prop} {rt : VK}
    (hp : H6 p = some (.dK (kvD D))) (hd : H6 d2 = some (.frz od (.dK (kvD D2)))) (o : OkD D) (o2 : OkD D2) (hm : 1 ≤ many) (hm2 : many ≤ 5000) (hc : ∀ q ∈ D2, q.2 ≤ 5000) (hz : D.length + D2.length ≤ 90000)
    (fin : ∀ x9 x10 x11 H' D', But p H6 H' → H' p = some (.dK (kvD D')) → OkD D' → D'.length ≤ D.length + D2.length → (∀ f : Int → Nat, wD D' f = wD D f + many * wD D2 fun b => f (one + b + m)) →
      nx [some v, some (.int n), some fo, some (.int size), some (.ref p), some (.int first), some (.int m), some (.int one), some (.int many), x9, x10, x11] H') :
    forK (Iti d2 od (kvD D2)) (gTup Γ.K 2 (gCons (gName 9) (gCons (gName 10) gNil))) (tSeq (tAsg (tOp (rAddU Γ.K) (tOp (rAddU Γ.K) (tVar 7) (tVar 9)) (tVar 6)) (gName 11))
  (tAsg (tOp (rAddU Γ.K) (tDGet2 (tVar 4) (tVar 11) (tC (.int 0))) (tOp (rMulU Γ.K) (tVar 8) (tVar 10))) (gSub (tVar 4) (tVar 11) rSetD))) nx rt
      [some v, some (.int n), some fo, some (.int size), some (.ref p), some (.int first), some (.int m), some (.int one), some (.int many), x9, x10, x11] H6 := by
  have ne : d2 ≠ p := fun z => by subst z; rw [hp] at hd; cases hd
  refine k_items (fun l σ H' => ∃ x9 x10 x11 D', σ = [some v, some (.int n), some fo, some (.int size), some (.ref p), some (.int first), some (.int m), some (.int one), some (.int many), x9, x10, x11] ∧ But p H6 H' ∧ H' p = some (.dK (kvD D')) ∧ OkD D' ∧ D'.length ≤ D.length + l ∧ l ≤ D2.length ∧
    ∀ f : Int → Nat, wD D' f = wD D f + many * wD (D2.take l) fun b => f (one + b + m)) ⟨x9, x10, x11, D, rfl, But.refl _, hp, o, Nat.le_refl _, Nat.zero_le _, fun f => by show _ = _ + many * 0; omega⟩ (fun l σ H' _ ⟨_, _, _, _, _, b, _⟩ => b _ _ ne hd) ?_ ?_
  · rintro l k u σ H7 T hkv ⟨x9', x10', x11', D', rfl, b7, g7, o7, l7, _, w7⟩ fT
    obtain ⟨q, hq, rfl, rfl⟩ := kvD_get hkv
    have lt : l < D2.length := (List.getElem?_eq_some_iff.mp hq).1
    have nT : p ≠ T := ne_of_none g7 fT
    have g8 : (upd H7 T (.tup [.int q.1, .int (q.2 : Int)])) p = some (.dK (kvD D')) := by rw [upd_ne nT]; exact g7
    have b8 : But p H6 (upd H7 T (.tup [.int q.1, .int (q.2 : Int)])) := b7.trans (Same.new fT).butD
    have hq1 := o2.ps q (List.mem_of_getElem? hq)
    have hq2 := hc q (List.mem_of_getElem? hq)
    show gTup Γ.K 2 _ (.ref T) _ (upd H7 T (.tup [.int q.1, .int (q.2 : Int)])) _
    refine w_gTup (SqT.of upd_same) rfl ?_
    generalize upd H7 T (.tup [.int q.1, .int (q.2 : Int)]) = H8 at g8 b8 ⊢
    walk_at "ss"
    show tDGet2 (tVar 4) (tVar 11) (tC (.int 0)) _ _ _
    refine w_dget2 ?_
    walk_at "ss"
    refine ⟨p, rfl, .inl ⟨_, .of g8⟩, ?_⟩
    walk_at "ss"
    refine ⟨_, DGet.k (k := .inl (one + q.1 + m)) g8, ?_⟩
    rw [getN_val]
    walk_at "ss"
    rw [show ((getN D' (one + q.1 + m) : Nat) : Int) + (many : Int) * (q.2 : Int) = ((getN D' (one + q.1 + m) + many * q.2 : Nat) : Int) by rw [Int.natCast_add, Int.natCast_mul]]
    refine w_setD g8 (by rw [kvD_len]; omega) ?_
    rw [put_addR o7.nd]
    have al := addR_len D' (one + q.1 + m) (many * q.2)
    refine ⟨_, _, _, addR D' (one + q.1 + m) (many * q.2), rfl, b8.at, upd_same, o7.add _ (Nat.mul_pos hm hq1), by omega, lt, fun f => ?_⟩
    rw [wD_addR, w7, wD_take hq, Nat.mul_add, Nat.mul_assoc]
    omega
  · rintro σ H7 ⟨x9', x10', x11', D', rfl, b7, g7, o7, l7, _, w7⟩
    rw [kvD_len] at l7 w7
    exact fin _ _ _ _ D' b7 g7 o7 l7 fun f => by rw [w7, wD_all]
structure SI (r : R) (H : Hp) (L : Addr) (refs : List Addr) (Ds : List (List (Int × Nat))) : Prop where
  l : H L = some (.lst (refs.map V.ref))
  len : refs.length = Ds.length
  ne : ∀ a ∈ refs, a ≠ L
  at_ : ∀ (j : Nat) (D : List (Int × Nat)), Ds[j]? = some D → ∃ a, refs[j]? = some a ∧ H a = some (.dK (kvD D))
  ok : ∀ (j : Nat) (D : List (Int × Nat)), 1 ≤ j → Ds[j]? = some D → Cnt2 D (sumsW r j)
def sp_sums_by (Γ : Gm) : Sp := fun vs H Q _ => ∃ v r, ∃ n : Nat, vs = [v, .int n] ∧ RuleAt Γ H v r ∧ 1 ≤ n ∧ n ≤ 10 ∧ (n : Int) ≤ r.top ∧ ∀ L refs Ds H', Same H H' → SI r H' L refs Ds → Ds.length = n + 1 → Q (.ref L) H'
/-- sums_by: rule, heap, found, size, own, first, more, one, many, other, times, told -/
def t_sums_by (Γ : Gm) : TS := (tSeq (tAsg (tLst (tCons tDNewK (tCons (tDisp [((tC (.int 0)), (tC (.int 1)))]) tNil))) (gName 2))
  (tSeq (tFor (iRng2 (tCons (tC (.int 2)) (tCons (tOp (rAddU Γ.K) (tVar 1) (tC (.int 1))) tNil))) (gName 3) (tSeq (tAsg tDNewK (gName 4))
  (tSeq (tFor (iRng2 (tCons (tC (.int 1)) (tCons (tVar 3) tNil))) (gName 5) (tSeq (tAsg (tCal (sp_points_by Γ) E0 (tCons (tVar 0) (tCons (tVar 5) (tCons (tOp rSubI (tVar 3) (tVar 5)) tNil)))) (gName 6))
  (tLockM (tFor (iItems (tOp (rIx Γ.K) (tVar 2) (tVar 5))) (gTup Γ.K 2 (gCons (gName 7) (gCons (gName 8) gNil))) (tLockM (tFor (iItems (tOp (rIx Γ.K) (tVar 2) (tOp rSubI (tVar 3) (tVar 5)))) (gTup Γ.K 2 (gCons (gName 9) (gCons (gName 10) gNil))) (tSeq (tAsg (tOp (rAddU Γ.K) (tOp (rAddU Γ.K) (tVar 7) (tVar 9)) (tVar 6)) (gName 11))
  (tAsg (tOp (rAddU Γ.K) (tDGet2 (tVar 4) (tVar 11) (tC (.int 0))) (tOp (rMulU Γ.K) (tVar 8) (tVar 10))) (gSub (tVar 4) (tVar 11) rSetD)))))))))
  (tDrop (tBM Γ.K "list" rAppend (tVar 2) (tCons (tVar 4) tNil))))))
  (tRet (tVar 2))))
theorem rd_sums_by (Γ : Gm) (vs : List V) (H : Hp) (Q : VK) (E : XK) (h : sp_sums_by Γ vs H Q E) : t_sums_by Γ ⟨fun _ H' => Q .non H', Q, fun _ _ => False, fun _ _ => False⟩ (startN 12 vs) H := by
  obtain ⟨v, r, n, rfl, hr, h1, h10, htop, k⟩ := h
  unfold t_sums_by
  walk_at "ss"
  refine w_dnew fun q0 H1 f1 e1 g1 => ?_
  walk_at "ss"
  refine w_disp1 fun q1 H2 fq1 e2 g2 => ?_
  walk_at "ss"
  refine n_lst fun L H3 f3 e3 g3 => ?_
  walk_at "ss"
  refine k_rng2 (by omega) ?_
  have nl0 : q0 ≠ L := ne_of_none (e2 _ _ g1) f3
  have nl1 : q1 ≠ L := ne_of_none g2 f3
  have e03 := e1.trans (e2.trans e3)
  have nLH : H L = none := by
    cases e : H L with
    | none => rfl
    | some o => rw [(e1.trans e2) _ _ e] at f3; cases f3
  refine k_range (fun i σ H' => ∃ refs Ds x3 x4 x5 x6 x7 x8 x9 x10 x11, σ = [some v, some (.int n), some (.ref L), x3, x4, x5, x6, x7, x8, x9, x10, x11] ∧ Same H H' ∧ SI r H' L refs Ds ∧ Ds.length = i + 2) ⟨[q0, q1], [[], [(0, 1)]], none, none, none, none, none, none, none, none, none, rfl, e03, ⟨g3, rfl, fun a ha => ?_, fun j D hj => ?_, fun j D j1 hj => ?_⟩, rfl⟩ ?_ ?_
  · simp only [List.mem_cons, List.not_mem_nil, or_false] at ha
    rcases ha with rfl | rfl
    · exact nl0
    · exact nl1
  · match j, hj with
    | 0, hj =>
      cases hj
      exact ⟨q0, rfl, (e2.trans e3) _ _ g1⟩
    | 1, hj =>
      cases hj
      exact ⟨q1, rfl, e3 _ _ g2⟩
  · match j, hj with
    | 1, hj =>
      cases hj
      exact Cnt2.one
  · rintro i σ H4 hi ⟨refs, Ds, x3, x4, x5, x6, x7, x8, x9, x10, x11, rfl, e4, I, hDl⟩
    have hi' : i + 2 ≤ n := by omega
    have r4 := hr.mono e4
    have getd : ∀ j, 1 ≤ j → j < i + 2 → ∃ a D, refs[j]? = some a ∧ H4 a = some (.dK (kvD D)) ∧ Cnt2 D (sumsW r j) := fun j j1 hj => by
      obtain ⟨a, h1, h2⟩ := I.at_ j _ (List.getElem?_eq_getElem (by omega))
      exact ⟨a, _, h1, h2, I.ok j _ j1 (List.getElem?_eq_getElem (by omega))⟩
    have catb : ∀ j, 1 ≤ j → j < i + 2 → (sumsW r j).length ≤ 4862 := fun j j1 hj => by rw [sumsW_len r j1]; exact cat10 j (by omega)
    have total : ∀ c, c ≤ i + 1 → (nextS r (i + 2) c).length ≤ 4862 := fun c hc => by
      have := nextS_le r (i + 2) hc
      rw [← show i + 2 - 1 = i + 1 by omega, ← sumsW_step r (by omega), sumsW_len r (by omega)] at this
      exact Nat.le_trans this (cat10 _ (by omega))
    walk_at "ss"
    refine w_dnew fun p H5 f5 e5 g5 => ?_
    walk_at "ss"
    refine k_rng2 (by omega) ?_
    have nLp : L ≠ p := ne_of_none I.l f5
    refine k_range (fun c σ H' => ∃ D x5 x6 x7 x8 x9 x10 x11, σ = [some v, some (.int n), some (.ref L), some (.int (2 + (i : Int))), some (.ref p), x5, x6, x7, x8, x9, x10, x11] ∧ But p H5 H' ∧ H' p = some (.dK (kvD D)) ∧ OkD D ∧ D.length ≤ (nextS r (i + 2) c).length ∧ ∀ f : Int → Nat, wD D f = ((nextS r (i + 2) c).map f).sum)
      ⟨[], _, _, _, _, _, _, _, rfl, But.refl _, g5, OkD.nil, Nat.zero_le _, fun f => rfl⟩ ?_ ?_
    · rintro c σ H6 hc ⟨D, x5', x6', x7', x8', x9', x10', x11', rfl, b6, g6, o6, l6, w6⟩
      have hc' : c < i + 1 := by omega
      obtain ⟨d1, D1, rd1, gd1, C1⟩ := getd (c + 1) (by omega) (by omega)
      obtain ⟨d2, D2, rd2, gd2, C2⟩ := getd (i + 2 - (c + 1)) (by omega) (by omega)
      have n1 : d1 ≠ p := ne_of_none gd1 f5
      have n2 : d2 ≠ p := ne_of_none gd2 f5
      have L1 := C1.len
      have L2' := C2.len
      have cb1 := catb (c + 1) (by omega) (by omega)
      have cb2 := catb (i + 2 - (c + 1)) (by omega) (by omega)
      have tot := total (c + 1) (by omega)
      rw [nextS_succ, List.length_append, flat_len] at tot
      have e46 : But p H4 H6 := e5.butD.trans b6
      have r6 : RuleAt Γ H6 v r := b6.rule g5 (r4.mono e5)
      walk_at "ss"
      refine ⟨v, r, _, _, rfl, r6, by omega, by omega, by omega, fun H7 e7 => ?_⟩
      have b7 := b6.trans e7.butD
      have g7 := e7 _ _ g6
      have gL7 : H7 L = some (.lst (refs.map V.ref)) := e7 _ _ (e46 _ _ nLp I.l)
      have gd17 : H7 d1 = some (.dK (kvD D1)) := e7 _ _ (e46 _ _ n1 gd1)
      have gd27 : H7 d2 = some (.dK (kvD D2)) := e7 _ _ (e46 _ _ n2 gd2)
      rw [show (1 + (c : Int)) = ((c + 1 : Nat) : Int) by omega, show (2 + (i : Int) - ((c + 1 : Nat) : Int)) = ((i + 2 - (c + 1) : Nat) : Int) by omega]
      walk_at "ss"
      refine w_lockY d1 _ gd17 True.intro fun od1 => ?_
      refine w_for ?_
      refine w_items ?_
      have bL : ∀ {H'}, But p (upd H7 d1 (.frz od1 (.dK (kvD D1)))) H' → H' L = some (.lst (refs.map V.ref)) := fun {H'} b => b _ _ nLp (by rw [upd_ne (ne_of gL7 gd17 (fun z => nomatch z))]; exact gL7)
      walk_at "ss"
      refine w_ixL (SqL.of (bL (But.refl _))) (atI_of (x := .ref d1) (by omega) (by rw [List.getElem?_map, show ((c + 1 : Nat) : Int).toNat = c + 1 by omega, rd1]; rfl)) ?_
      refine ⟨d1, od1, kvD D1, rfl, upd_same, ?_⟩
      refine k_items (fun q σ H' => ∃ D' x7 x8 x9 x10 x11, σ = [some v, some (.int n), some (.ref L), some (.int (2 + (i : Int))), some (.ref p), some (.int ((c + 1 : Nat) : Int)), some (.int (r.pts ((c + 1 : Nat) : Int) ((i + 2 - (c + 1) : Nat) : Int))), x7, x8, x9, x10, x11] ∧ But p (upd H7 d1 (.frz od1 (.dK (kvD D1)))) H' ∧ H' p = some (.dK (kvD D')) ∧ OkD D' ∧ q ≤ D1.length ∧ D'.length ≤ (nextS r (i + 2) c).length + q * (sumsW r (i + 2 - (c + 1))).length ∧
        ∀ f : Int → Nat, wD D' f = ((nextS r (i + 2) c).map f).sum + wD (D1.take q) fun a => ((sumsW r (i + 2 - (c + 1))).map fun b => f (a + b + r.pts ((c + 1 : Nat) : Int) ((i + 2 - (c + 1) : Nat) : Int))).sum)
        ⟨D, _, _, _, _, _, rfl, But.refl _, (by rw [upd_ne (Ne.symm n1)]; exact g7), o6, Nat.zero_le _, by omega, fun f => by rw [w6]; rfl⟩ (fun q σ H' _ ⟨_, _, _, _, _, _, _, b, _⟩ => b _ _ n1 upd_same) ?_ ?_
      · rintro q kk u σ H8 T hkv ⟨D', x7', x8', x9', x10', x11', rfl, b8, g8, o8, q8, l8, w8⟩ fT
        obtain ⟨pq, hpq, rfl, rfl⟩ := kvD_get hkv
        have lt : q < D1.length := (List.getElem?_eq_some_iff.mp hpq).1
        have m1 := C1.ps pq (List.mem_of_getElem? hpq)
        have m2 := C1.le (List.mem_of_getElem? hpq)
        have nT : p ≠ T := ne_of_none g8 fT
        have g9 : (upd H8 T (.tup [.int pq.1, .int (pq.2 : Int)])) p = some (.dK (kvD D')) := by rw [upd_ne nT]; exact g8
        have b9 : But p (upd H7 d1 (.frz od1 (.dK (kvD D1)))) (upd H8 T (.tup [.int pq.1, .int (pq.2 : Int)])) := b8.trans (Same.new fT).butD
        have mulb : (q + 1) * (sumsW r (i + 2 - (c + 1))).length ≤ (sumsW r (c + 1)).length * (sumsW r (i + 2 - (c + 1))).length := Nat.mul_le_mul_right _ (by omega)
        rw [Nat.succ_mul] at mulb
        show gTup Γ.K 2 _ (.ref T) _ (upd H8 T (.tup [.int pq.1, .int (pq.2 : Int)])) _
        refine w_gTup (SqT.of upd_same) rfl ?_
        generalize upd H8 T (.tup [.int pq.1, .int (pq.2 : Int)]) = H9 at g9 b9 ⊢
        walk_at "ss"
        have step : ∀ {x9 x10 x11 H' D''}, But p H9 H' → H' p = some (.dK (kvD D'')) → OkD D'' → D''.length ≤ D'.length + D2.length → (∀ f : Int → Nat, wD D'' f = wD D' f + pq.2 * wD D2 fun b => f (pq.1 + b + r.pts ((c + 1 : Nat) : Int) ((i + 2 - (c + 1) : Nat) : Int))) →
            ∃ D' x7 x8 y9 y10 y11, [some v, some (.int n), some (.ref L), some (.int (2 + (i : Int))), some (.ref p), some (.int ((c + 1 : Nat) : Int)), some (.int (r.pts ((c + 1 : Nat) : Int) ((i + 2 - (c + 1) : Nat) : Int))), some (.int pq.1), some (.int (pq.2 : Int)), x9, x10, x11] = [some v, some (.int n), some (.ref L), some (.int (2 + (i : Int))), some (.ref p), some (.int ((c + 1 : Nat) : Int)), some (.int (r.pts ((c + 1 : Nat) : Int) ((i + 2 - (c + 1) : Nat) : Int))), x7, x8, y9, y10, y11] ∧ But p (upd H7 d1 (.frz od1 (.dK (kvD D1)))) H' ∧ H' p = some (.dK (kvD D')) ∧ OkD D' ∧ q + 1 ≤ D1.length ∧ D'.length ≤ (nextS r (i + 2) c).length + (q + 1) * (sumsW r (i + 2 - (c + 1))).length ∧
              ∀ f : Int → Nat, wD D' f = ((nextS r (i + 2) c).map f).sum + wD (D1.take (q + 1)) fun a => ((sumsW r (i + 2 - (c + 1))).map fun b => f (a + b + r.pts ((c + 1 : Nat) : Int) ((i + 2 - (c + 1) : Nat) : Int))).sum := by
          intro x9 x10 x11 H' D'' bb gg oo ll ww
          refine ⟨D'', _, _, _, _, _, rfl, b9.trans bb, gg, oo, lt, by rw [Nat.succ_mul]; omega, fun f => ?_⟩
          rw [ww, w8, wD_take hpq, C2.eq]
          omega
        have zb : D'.length + D2.length ≤ 90000 := by omega
        have cq : ∀ x ∈ D2, x.2 ≤ 5000 := fun x hx => by have := C2.le hx; omega
        have gL9 := bL b9
        by_cases e12 : d1 = d2
        · have gd29 : H9 d2 = some (.frz od1 (.dK (kvD D2))) := by
            rw [← e12]
            have ee : kvD D1 = kvD D2 := by
              rw [e12, gd27] at gd17
              have := Option.some.inj gd17
              injection this with this
              exact this.symm
            rw [← ee]
            exact b9 _ _ n1 upd_same
          refine w_lockN ?_
          refine w_for ?_
          refine w_items ?_
          walk_at "ss"
          refine w_ixL (SqL.of gL9) (atI_of (x := .ref d2) (by omega) (by rw [List.getElem?_map, show (2 + (i : Int) - ((c + 1 : Nat) : Int)).toNat = i + 2 - (c + 1) by omega, rd2]; rfl)) ?_
          refine ⟨d2, od1, kvD D2, rfl, gd29, ?_⟩
          refine sums_inner Γ g9 gd29 o8 C2.toOkD m1 (by omega) cq zb fun y9 y10 y11 H' D'' bb gg oo ll ww => ?_
          exact step bb gg oo ll ww
        · have gd29 : H9 d2 = some (.dK (kvD D2)) := b9 _ _ n2 (by rw [upd_ne (Ne.symm e12)]; exact gd27)
          refine w_lockY d2 _ gd29 True.intro fun od2 => ?_
          refine w_for ?_
          refine w_items ?_
          walk_at "ss"
          refine w_ixL (SqL.of (xs := refs.map V.ref) (by rw [upd_ne (ne_of gL9 gd29 (fun z => nomatch z))]; exact gL9)) (atI_of (x := .ref d2) (by omega) (by rw [List.getElem?_map, show (2 + (i : Int) - ((c + 1 : Nat) : Int)).toNat = i + 2 - (c + 1) by omega, rd2]; rfl)) ?_
          refine ⟨d2, od2, kvD D2, rfl, upd_same, ?_⟩
          refine sums_inner Γ (by rw [upd_ne (Ne.symm n2)]; exact g9) upd_same o8 C2.toOkD m1 (by omega) cq zb fun y9 y10 y11 H' D'' bb gg oo ll ww => ?_
          exact ⟨bb.locked n2, step (bb.unlock gd29 n2) (by rw [upd_ne (Ne.symm n2)]; exact gg) oo ll ww⟩
      · rintro σ H8 ⟨D', x7', x8', x9', x10', x11', rfl, b8, g8, o8, q8, l8, w8⟩
        rw [kvD_len] at l8 w8
        refine ⟨b8.locked n1, ?_⟩
        refine ⟨D', _, _, _, _, _, _, _, rfl, b7.trans (b8.unlock gd17 n1), (by rw [upd_ne (Ne.symm n1)]; exact g8), o8, ?_, fun f => ?_⟩
        · rw [nextS_succ, List.length_append, flat_len]
          have := Nat.mul_le_mul_right (sumsW r (i + 2 - (c + 1))).length L1
          omega
        · rw [w8, wD_all, C1.eq, nextS_succ, List.map_append, List.sum_append, flat_sum]
    · rintro σ H6 ⟨D, x5', x6', x7', x8', x9', x10', x11', rfl, b6, g6, o6, l6, w6⟩
      have ei : (2 + (i : Int) - 1).toNat = i + 1 := by omega
      rw [ei] at l6 w6
      have e46 : Same H4 H6 := But.same f5 e5 b6
      have gL6 := e46 _ _ I.l
      walk_at "ss"
      refine w_tyL gL6 ?_
      walk_at "ss"
      refine w_app gL6 (by rw [List.length_map, I.len]; omega) ?_
      have C : Cnt2 D (sumsW r (i + 2)) := ⟨o6, fun f => by rw [w6, sumsW_step r (by omega)]; rfl⟩
      refine ⟨refs ++ [p], Ds ++ [D], _, _, _, _, _, _, _, _, _, rfl, Same.mut (e4.trans e46) nLH, ⟨?_, ?_, fun a ha => ?_, fun j D' hj => ?_, fun j D' j1 hj => ?_⟩, by rw [List.length_append, hDl]; rfl⟩
      · rw [upd_same, List.map_append]
        rfl
      · rw [List.length_append, List.length_append, I.len]
        rfl
      · rcases List.mem_append.mp ha with ha | ha
        · exact I.ne a ha
        · rw [List.mem_singleton] at ha
          rw [ha]
          exact Ne.symm nLp
      · by_cases hj' : j < Ds.length
        · rw [List.getElem?_append_left hj'] at hj
          obtain ⟨a, h1, h2⟩ := I.at_ j D' hj
          have ha := I.ne a (List.mem_of_getElem? h1)
          refine ⟨a, by rw [List.getElem?_append_left (by rw [I.len]; exact hj')]; exact h1, ?_⟩
          rw [upd_ne ha]
          exact e46 _ _ h2
        · have lt := (List.getElem?_eq_some_iff.mp hj).1
          rw [List.length_append] at lt
          have ej : j = Ds.length := by simp only [List.length_cons, List.length_nil] at lt; omega
          subst ej
          rw [List.getElem?_append_right (Nat.le_refl _), Nat.sub_self] at hj
          cases hj
          refine ⟨p, by rw [List.getElem?_append_right (by rw [I.len]; exact Nat.le_refl _), I.len, Nat.sub_self]; rfl, ?_⟩
          rw [upd_ne (Ne.symm nLp)]
          exact g6
      · by_cases hj' : j < Ds.length
        · rw [List.getElem?_append_left hj'] at hj
          exact I.ok j D' j1 hj
        · have lt := (List.getElem?_eq_some_iff.mp hj).1
          rw [List.length_append] at lt
          have ej : j = Ds.length := by simp only [List.length_cons, List.length_nil] at lt; omega
          subst ej
          rw [List.getElem?_append_right (Nat.le_refl _), Nat.sub_self] at hj
          cases hj
          rw [hDl]
          exact C
  · rintro σ H4 ⟨refs, Ds, x3, x4, x5, x6, x7, x8, x9, x10, x11, rfl, e4, I, hDl⟩
    walk_at "ss"
    exact k L refs Ds H4 e4 I (by omega)

/-! ### all_sums -/
def setOf (L ms : List Int) : Prop := ms.Pairwise (· < ·) ∧ ∀ k, k ∈ ms ↔ k ∈ L
def cntD (L ms : List Int) : List PyData := ms.map fun x => .tuple [.int x, .int (L.count x : Nat)]
def sp_all_sums (Γ : Gm) : Sp := fun vs H Q E => ∃ v r, ∃ n : Nat, vs = [v, .int n] ∧ RuleAt Γ H v r ∧ 1 ≤ n ∧ n ≤ 40 ∧ (n : Int) ≤ r.top ∧ (10 < n → E (.ref Γ.cTooGreat) none H) ∧
  (n ≤ 10 → ∀ l xs ms H', Same H H' → H l = none → H' l = some (.lst xs) → setOf (sumsW r n) ms → TpAll H' xs (cntD (sumsW r n) ms) → Q (.ref l) H')
/-- all_sums: rule, heap, found, told -/
def t_all_sums (Γ : Gm) (E : XK) : TS := (tSeq (tDrop (tCal (sp_check_heap Γ) E (tCons (tVar 0) (tCons (tVar 1) (tCons (tC (.int 40)) tNil)))))
  (tSeq (tIfS (tTest (tOp rGt (tVar 1) (tC (.int 10)))) (tRaise Γ.cTooGreat (fun cls d _ H => E cls d H)) tNext)
  (tSeq (tAsg (tOp (rIx Γ.K) (tCal (sp_sums_by Γ) E0 (tCons (tVar 0) (tCons (tVar 1) tNil))) (tVar 1)) (gName 2))
  (tRet (tLc (iSeq Γ.K (tCB (rSortedI Γ.K) (tCons (tCB rListD (tCons (tVar 2) tNil)) tNil))) (gName 3) tYes (tTup (tCons (tVar 3) (tCons (tDGet (tVar 2) (tVar 3)) tNil))) [3])))))
theorem rd_all_sums (Γ : Gm) (vs : List V) (H : Hp) (Q : VK) (E : XK) (h : sp_all_sums Γ vs H Q E) : t_all_sums Γ E ⟨fun _ H' => Q .non H', Q, fun _ _ => False, fun _ _ => False⟩ (startN 4 vs) H := by
  obtain ⟨v, r, n, rfl, hr, h1, h40, ht, k1, k2⟩ := h
  unfold t_all_sums
  walk_at "ss"
  refine w_heap hr (by omega) (by omega) ht ?_
  walk_at "ss"
  by_cases h10 : 10 < n
  · rw [decide_eq_true (by omega)]
    walk_at "ss"
    exact k1 h10
  · rw [decide_eq_false (by omega)]
    walk_at "ss"
    refine ⟨v, r, n, rfl, hr, h1, by omega, ht, fun L refs Ds H1 e1 I hD => ?_⟩
    obtain ⟨d, rd, gd⟩ := I.at_ n _ (List.getElem?_eq_getElem (by omega))
    have C := I.ok n _ h1 (List.getElem?_eq_getElem (by omega))
    generalize Ds[n] = D at gd C
    walk_at "ss"
    refine w_ixL (SqL.of I.l) (atI_of (x := .ref d) (by omega) (by rw [List.getElem?_map, show ((n : Int)).toNat = n by omega, rd]; rfl)) ?_
    walk_at "ss"
    refine ⟨d, kvD D, rfl, gd, fun q fq => ?_⟩
    have e2 := Same.new (o := .lst ((kvD D).map fun kv => kV kv.1)) fq
    have g2 : (upd H1 q (.lst ((kvD D).map fun kv => kV kv.1))) q = some (.lst ((D.map (·.1)).map V.int)) := by rw [upd_same, keysD]
    generalize upd H1 q (.lst ((kvD D).map fun kv => kV kv.1)) = H2 at e2 g2 ⊢
    walk_at "ss"
    refine ⟨q, D.map (·.1), rfl, SqL.of g2, fun ms p pm srt fp => ?_⟩
    have e3 := Same.new (o := .lst (ms.map V.int)) fp
    have g3 : (upd H2 p (.lst (ms.map V.int))) p = some (.lst (ms.map V.int)) := upd_same
    generalize upd H2 p (.lst (ms.map V.int)) = H3 at e3 g3 ⊢
    have so : setOf (sumsW r n) ms := ⟨L2.lt_of_le_nodup _ srt (pm.nodup_iff.mpr C.nd), fun x => by rw [pm.mem_iff, C.mem]⟩
    have gd3 := (e2.trans e3) _ _ gd
    refine k_seqL (SqL.of g3) ?_
    refine k_lcList (fun i acc H' => TpAll H' acc (cntD (sumsW r n) (ms.take i))) (SqL.of g3) (fun _ _ => .nil) ?_ ?_
    · rintro i x B acc H4 hx hB e4 hacc tacc
      rw [List.getElem?_map] at hx
      obtain ⟨m, hm, rfl⟩ := Option.map_eq_some_iff.mp hx
      have hmem : m ∈ D.map (·.1) := pm.mem_iff.mp (List.mem_of_getElem? hm)
      obtain ⟨pr, hpr, rfl⟩ := List.mem_map.mp hmem
      have al := tacc.length
      have dl := C.len
      rw [sumsW_len r h1] at dl
      have := cat10 n (by omega)
      have ml : ms.length = D.length := by rw [pm.length_eq, List.length_map]
      unfold cntD at al
      rw [List.length_map, List.length_take] at al
      walk_at "ss"
      refine ⟨rfl, ?_⟩
      walk_at "ss"
      refine w_dget ?_
      walk_at "ss"
      refine ⟨d, .int (pr.2 : Nat), rfl, ?_, ?_⟩
      · have gg := DGet.k (k := .inl pr.1) (e4 _ _ gd3)
        rw [valV_mem C.nd hpr] at gg
        exact gg
      walk_at "ss"
      refine n_tup fun u H5 f5 e5 g5 => ?_
      have d5 := e5 _ _ hacc
      have u5 : Tups H5 (upd H5 B (.lst (acc ++ [.ref u]))) := (Same.refl H5).tups.upd (fun xs z => by rw [d5] at z; cases z)
      refine lcTurn.mk hB (e4.trans e5) d5 (by omega) ?_
      rw [take_succ hm]
      unfold cntD
      rw [List.map_append]
      refine (tacc.mono (e5.tups.trans u5)).append (.cons (.tup (u5 _ _ g5) (.cons (.int _) (.cons ?_ .nil))) .nil)
      rw [← C.count hpr]
      exact .int _
    · rintro B acc H4 hB e4 hacc tacc
      rw [List.length_map, List.take_length] at tacc
      have e14 := e1.trans (e2.trans (e3.trans e4))
      refine k2 (by omega) B acc ms H4 e14 ?_ hacc so tacc
      cases hh : H B with
      | none => rfl
      | some o => rw [(e1.trans (e2.trans e3)) _ _ hh] at hB; cases hB

/-! ### the members of a list of numbers, in order: sorted(set(xs)) -/
section
open PySem PySem.Spec L2 PyProof.Rows
abbrev sOb (w : World) : Obj := { cls := .type "set", dict := none, data := .set #[] 0 (.fresh 0 0 (!w.params.followText "set-order")) }
theorem sFill {P : Program} {w : World} {A : Around} {E : Value → Shared → Prop} {s : Shared} {S l : Addr} {items : Array Value} (ns : List Int) {Q₁ : Value → Shared → Prop} (hh : A.handled = none) (hS : s.heap.get? S = some (sOb w)) (hl : s.heap.IsList l items) (hi : IntsAre items.toList ns) (hb : ns.length + 1 < scanBound)
    (h : ∀ h' tk c, L2.SetR w h' S (fun j => decide (j ∈ ns)) c → (∀ b o, b ≠ S → s.heap.get? b = some o → h'.get? b = some o) → Q₁ .none { s with heap := h', toks := tk }) :
    codeAny (model P w) A (.call (.builtin "set.__init__") ⟨[.ref S, .ref l], []⟩) (wants Q₁ E) s := by
  have len : items.size = ns.length := by rw [← Array.length_toList]; exact hi.length
  have neSl : l ≠ S := fun z => by
    obtain ⟨o, ho, hc, _⟩ := hl
    rw [z, hS] at ho
    cases ho
    have e : Value.type "set" = Value.type "list" := hc
    injection e with e
    exact absurd e (by decide)
  refine codeAny_call_builtin PySem.F.called_set.init.plain PySem.F.entry_set_init (check_set_init_1 ⟨_, hS, rfl⟩ ?_)
  have ltS := Heap.lt_size hS
  obtain ⟨⟨oc, od, odt, osl⟩, ho, hc, nl, hd⟩ := id hl
  simp only at hc hd
  rw [hc, hd] at ho
  have ltl := Heap.lt_size ho
  have notSet := PySem.F.sub_list_set
  have notFrozen := PySem.F.sub_list_frozenset
  have notDict : (Value.type "list" == Value.type "dict") = false := by decide
  obtain ⟨hp, g, d, tk, os⟩ := s
  unfold Builtin.«set.__init__» noKeywords Builtin.Frozenset.updateFrom
  generalize hG : pyIter = G
  wp_walk
  subst hG
  refine wpAny_pyIter_list hl (wpAny_bind (wpAny_runValue ?_))
  have neI : l ≠ hp.objs.size := Nat.ne_of_lt ltl
  have notIn : S ∉ [hp.objs.size, l] := by
    simp only [List.mem_cons, List.not_mem_nil, or_false, not_or]
    exact ⟨Nat.ne_of_lt ltS, fun z => neSl z.symm⟩
  have vals : ∀ (i : Nat) (v : Value), items[i]? = some v → ∃ k t, ns[i]? = some k ∧ v = .int k t := fun i v hv => by
    have lt : i < ns.length := by rw [← len]; exact (Array.getElem?_eq_some_iff.mp hv).1
    obtain ⟨t, e⟩ := IntsAre.int_at hi i v (by rw [Array.getElem?_toList, hv])
    rw [List.getD_eq_getElem?_getD, List.getElem?_eq_getElem lt] at e
    exact ⟨ns[i], t, List.getElem?_eq_getElem lt, e⟩
  have calm : A.in1.in1.handled = none := by simp [hh]
  refine L2.set_update_ints ((Walks.list (by first | exact calm | simp [hh]) hp.objs.size l neI items).toS) S notIn ns len hb vals items.size 0 _ (Nat.sub_zero _) (Nat.zero_le _) ⟨⟨_, Heap.get?_push_size _ rfl, rfl, rfl⟩, hl.push _⟩ ⟨0, Nat.le_refl 0, L2.setR_new_at (Heap.get?_push_of_some _ hS)⟩ fun s' c hm _ hS' => ?_
  obtain ⟨h2, g2, d2, tk2, os2⟩ := s'
  have eg : g2 = g := hm.gens
  have ed : d2 = d := hm.drawn
  have eo : os2 = os := hm.os
  rw [eg, ed, eo]
  refine wpAny_pure (wpAny_pure (h h2 tk2 c hS' fun b o nb e => ?_))
  have nI : b ≠ hp.objs.size := Nat.ne_of_lt (Heap.lt_size e)
  refine hm.heap b o ?_ (Heap.get?_push_of_some _ e)
  simp only [List.mem_cons, List.not_mem_nil, or_false, not_or]
  exact ⟨nb, nI⟩
set_option maxHeartbeats 8000000 in
theorem sCall {P : Program} {w : World} {A : Around} {E : Value → Shared → Prop} {s : Shared} {l : Addr} {items : Array Value} (ns : List Int) {Q : Value → Shared → Prop} (hh : A.handled = none) (hl : s.heap.IsList l items) (hi : IntsAre items.toList ns) (hb : ns.length + 1 < scanBound)
    (h : ∀ h' tk c, L2.SetR w h' s.heap.objs.size (fun j => decide (j ∈ ns)) c → (∀ b o, s.heap.get? b = some o → h'.get? b = some o) → Q (.ref s.heap.objs.size) { s with heap := h', toks := tk }) :
    wpAny (model P w) A (call (.type "set") [.ref l]) Q E s := by
  obtain ⟨_, _, mro⟩ := PySem.F.called_set.mro
  have made := PySem.F.called_set.made
  have under := PySem.F.called_set.sub
  have noType := PySem.F.called_set.notType
  have creates := PySem.F.called_set.canCreate
  have told := PySem.F.typeCall_set_1 (.ref l)
  refine wpAny_call (codeAny_of_tree (show wpAny _ _ (callAny (Value.type "set") _) _ _ _ from wpAny_pure ⟨Code.quiet_builtin _ (by decide +kernel), codeAny_builtin PySem.F.entry_type_call ?_⟩))
  rw [Around.under_plain (weight_type_call_type "set" [Value.ref l] []) rfl]
  repeat any_goals first | assumption | wp_step
  refine codeAny_mono (L2.code_set_led1 (P := P) (w := w) (s := s) (.ref l) (E := E) (Q₁ := fun o s₁ => o = .ref s.heap.objs.size ∧ s₁ = { s with heap := s.heap.push (sOb w) }) ⟨rfl, rfl⟩) fun r s₁ hr => ?_
  rcases r with e | fl
  · exact hr
  obtain ⟨o, rfl⟩ : ∃ o, fl = .ret o := by
    cases fl with
    | ret o => exact ⟨o, rfl⟩
    | _ => exact False.elim hr
  obtain ⟨eo, es⟩ := hr
  subst eo es
  have hS : (s.heap.push (sOb w)).get? s.heap.objs.size = some (sOb w) := Heap.get?_push_size _ rfl
  have isSet : Shared.TypeIs { s with heap := s.heap.push (sOb w) } (.ref s.heap.objs.size) "set" := ⟨_, hS, rfl⟩
  have look := PySem.F.called_set.init.lookup
  have bound := PySem.F.called_set.init.bind (.ref s.heap.objs.size)
  repeat any_goals first | assumption | wp_step
  refine codeAny_mono (sFill (s := { s with heap := s.heap.push (sOb w) }) (E := E) (Q₁ := fun r s₂ => r = .none ∧ ∃ h' tk c, s₂ = { s with heap := h', toks := tk } ∧ L2.SetR w h' s.heap.objs.size (fun j => decide (j ∈ ns)) c ∧ (∀ b o, s.heap.get? b = some o → h'.get? b = some o)) ns (by simp [hh]) hS (hl.push _) hi hb fun h' tk c R k => ⟨rfl, h', tk, c, rfl, R, fun b o e => k b o (Nat.ne_of_lt (Heap.lt_size e)) (Heap.get?_push_of_some _ e)⟩) fun r₂ s₂ hr₂ => ?_
  rcases r₂ with e | fl₂
  · exact hr₂
  obtain ⟨r, rfl⟩ : ∃ o, fl₂ = .ret o := by
    cases fl₂ with
    | ret o => exact ⟨o, rfl⟩
    | _ => exact False.elim hr₂
  obtain ⟨er, h', tk, c, es, R, keep⟩ := hr₂
  subst er es
  repeat any_goals first | assumption | wp_step
  exact h _ _ _ R keep
/-! sorted of such a set -/
theorem sSort {P : Program} {w : World} {A : Around} {E : Value → Shared → Prop} {s : Shared} {a : Addr} {S : Int → Bool} {n : Nat} {Q : Value → Shared → Prop} (R : L2.SetR w s.heap a S n) (hh : A.handled = none)
    (hQ : ∀ s' p out c (ms : List Int), (∀ b o, s.heap.get? b = some o → s'.heap.get? b = some o) → s'.gens = s.gens → s'.os = s.os → s.heap.objs.size ≤ p → s'.heap.get? p = some (seqObj "list" out c) → IntsAre out.toList ms → ms.Pairwise (· < ·) → (∀ k, k ∈ ms ↔ S k = true) → ms.length ≤ sizeLine → Q (.ref p) s') :
    wpAny (model P w) A (call (.builtin "sorted") [.ref a]) Q E s := by
  obtain ⟨o, es, ep, t, ho, ex, hd, good, nodup, mem, big, fits, _, rising, led⟩ := R
  refine Calls.call_function_entry kind_sorted plain_sorted entry_sorted (args_sorted1 _) ?_
  unfold Builtin.«sorted»
  refine wpAny_bind (m := checkCount "sorted" 1 1 _) (wpAny_pure (wpAny_bind (L2.collect_set (A := A.in1) hh ⟨o, ho, ex.1, hd⟩ fits big rising led fun s1 vs k1 hz g1 o1 pm => ?_)))
  have small : vs.length ≤ sizeLine := by
    rw [pm.length_eq, List.length_map, Array.length_toList]
    exact fits_of_scanBound big
  have are : IntsAre vs (vs.map Builtin.Re.reRawOf) := L2.ints_of vs fun v hv => by
    obtain ⟨x, hx, q⟩ := List.mem_map.mp (pm.mem_iff.mp hv)
    obtain ⟨k, tk, q2, _⟩ := good x hx
    exact ⟨k, tk, by rw [← q, q2]⟩
  refine wpAny_bind (wpAny_newList ?_ small)
  have there : (s1.heap.push (seqObj "list" vs.toArray 0)).get? s1.heap.objs.size = some (seqObj "list" vs.toArray 0) := Heap.get?_push_size _ rfl
  refine wpAny_bind (wpAny_holding (wpAny_call_entry slot_list_sort ⟨_, there, rfl⟩ entry_list_sort (SrtO.list_sort_ord SrtO.swo_int there small (fun h2 => SrtO.ints_sortable are h2) fun out h1 h2 => ⟨_, rfl, ?_⟩) (args_list_sort _)))
  obtain ⟨q1, q2, q3⟩ := SrtO.ints_out are h1 h2
  obtain ⟨c, hc⟩ := sortedHeap_at (vs := vs) (out := out.toArray) there
  have raw : (vs.map Builtin.Re.reRawOf).Perm (es.toList.map L2.keyOf) := by
    have q := pm.map Builtin.Re.reRawOf
    rw [List.map_map] at q
    exact q
  have all := q2.trans raw
  refine wpAny_pure ⟨_, rfl, hQ _ s1.heap.objs.size out.toArray c (out.map SrtO.iv) (fun b u e => ?_) g1 o1 hz hc (by simpa using q1) (L2.lt_of_le_nodup _ q3 (all.nodup_iff.mpr nodup)) (fun k => by rw [all.mem_iff, ← mem k]) (by rw [q2.length_eq, List.length_map]; exact small)⟩
  have old := k1 b u e
  have lt := Heap.lt_size old
  show (sortedHeap (s1.heap.push (seqObj "list" vs.toArray 0)) s1.heap.objs.size vs out.toArray).get? b = some u
  rw [sortedHeap_old (Nat.ne_of_lt lt) (Heap.lt_size (Heap.get?_push_of_some _ old))]
  exact Heap.get?_push_of_some _ old
/-! the expression -/
def tSrtSet (K : PySem.W.Frag) (ta : TE) : TE := fun σ H Q => ta σ H fun x H1 => ∃ (l : Addr) (ns : List Int), x = V.ref l ∧ SqL K H1 l (ns.map V.int) ∧ ns.length ≤ 4000 ∧ ∀ (ms : List Int) (p : Addr), ms.Pairwise (· < ·) → (∀ k, k ∈ ms ↔ k ∈ ns) → H1 p = none → Q (.ref p) (upd H1 p (.lst (ms.map V.int)))
theorem pe_srtSet {X : Cx} {a : Expr} {ta : TE} {p p2 q pos : Pos} (hc : X.calm = true) (hg : Gl X "sorted") (hm : X.mg "sorted" = none) (hg2 : Gl X "set") (hm2 : X.mg "set" = none) (ha : PE X a ta) (na : starEach [a] X.env = (false, eval a X.env) :: starEach [] X.env := by rfl) :
    PE X (.Call (.Name "sorted" p) [.Call (.Name "set" p2) [a] [] q] [] pos) (tSrtSet X.K ta) := by
  refine ⟨fun pins s σ H Q I h => Call_ (ld_blt (u := .builtin "sorted") I hg hm (by decide +kernel) ?_)⟩
  refine callWith_builtin1 (args_cons (Call_ (ld_blt I hg2 hm2 boot_set ?_)) rfl) rfl rfl
  refine callWith_type1 (args_cons (thn (ha.run pins s σ H _ I h) fun v s1 ⟨x, H1, I1, r1, l, ns, ex, hq, hn, q1⟩ => args_nil ?_) na) na rfl
  subst ex
  cases r1
  obtain ⟨its, r, pl, hz⟩ := I1.list hq
  have bound : ns.length + 1 < scanBound := by unfold scanBound; omega
  refine sCall ns (I1.ok.hd hc) pl.isList (by simpa using r.ints) bound fun h' tk c R keep => args_nil ?_
  have I2 : L2.Inv X pins σ H1 { s1 with heap := h', toks := tk } := I1.kept keep
  refine sSort R (I2.ok.hd hc) fun s' pp out c ms k1 g1 o1 hp at_ are incr mem small => ?_
  have free : H1 pp = none := I2.hok.fresh hp
  have lens : (ms.map V.int).length ≤ sizeLine := by rw [List.length_map]; exact small
  exact ⟨.ref pp, upd H1 pp (.lst (ms.map V.int)), I2.call' (ch := []) o1 (Un.laid k1 hp free) (I2.hok.laid k1 hp ⟨lens, out.toList, c, vals_of_ints are, by simpa using at_⟩) (by rw [g1]; exact I2.bare) (fun _ z => nomatch z), rfl, q1 ms pp incr (fun k => by rw [mem k, decide_eq_true_eq]) free⟩
end

/-! ### k12: all sums, by all ways -/
theorem setOf_uniq : ∀ {ms ns : List Int}, ms.Pairwise (· < ·) → ns.Pairwise (· < ·) → (∀ k, k ∈ ms ↔ k ∈ ns) → ms = ns
  | [], [], _, _, _ => rfl
  | [], y :: ns, _, _, h => by have := (h y).mpr (List.mem_cons_self ..); cases this
  | x :: ms, [], _, _, h => by have := (h x).mp (List.mem_cons_self ..); cases this
  | x :: ms, y :: ns, h1, h2, h => by
    obtain ⟨p1, q1⟩ := List.pairwise_cons.mp h1
    obtain ⟨p2, q2⟩ := List.pairwise_cons.mp h2
    have e : x = y := by
      rcases List.mem_cons.mp ((h x).mp (List.mem_cons_self ..)) with e | e
      · exact e
      · rcases List.mem_cons.mp ((h y).mpr (List.mem_cons_self ..)) with e' | e'
        · exact e'.symm
        · have := p1 y e'
          have := p2 x e
          omega
    subst e
    rw [setOf_uniq q1 q2 fun k => ?_]
    have hk := h k
    rw [List.mem_cons, List.mem_cons] at hk
    constructor
    · intro m
      rcases hk.mp (.inr m) with e | e
      · have := p1 k m; omega
      · exact e
    · intro m
      rcases hk.mpr (.inr m) with e | e
      · have := p2 k m; omega
      · exact e
theorem flat_cnt (L : List Int) : ∀ ms : List Int, flatAll 44 (cntD L ms) = true
  | [] => by unfold cntD flatAll; rfl
  | x :: ms => by
    have ih := flat_cnt L ms
    unfold cntD at ih ⊢
    rw [List.map_cons]
    unfold flatAll
    rw [ih]
    rfl
theorem pure_cnt (L : List Int) : ∀ ms : List Int, pureAll (cntD L ms) = true
  | [] => by unfold cntD pureAll; rfl
  | x :: ms => by
    have ih := pure_cnt L ms
    unfold cntD at ih ⊢
    rw [List.map_cons]
    unfold pureAll
    rw [ih]
    rfl
theorem flat_cntL {L ms : List Int} (h : ms.length ≤ 100000) : flatN 45 (.list (cntD L ms)) = true := by
  unfold flatN
  rw [flat_cnt, decide_eq_true (by unfold cntD; rw [List.length_map]; exact h)]
  rfl
theorem cnt_one {ms : List Int} (nd : ms.Pairwise (· < ·)) {a : Int} (h : a ∈ ms) : (ms.map fun x => if a = x then 1 else 0).sum = 1 := by
  have zero : ∀ l : List Int, a ∉ l → (l.map fun x => if a = x then 1 else 0).sum = 0 := by
    intro l
    induction l with
    | nil => intro _; rfl
    | cons y l ih =>
      intro z
      rw [List.mem_cons, not_or] at z
      rw [List.map_cons, List.sum_cons, if_neg z.1, ih z.2]
  induction ms with
  | nil => cases h
  | cons y l ih =>
    obtain ⟨p, q⟩ := List.pairwise_cons.mp nd
    rw [List.map_cons, List.sum_cons]
    rcases List.mem_cons.mp h with rfl | h
    · rw [if_pos rfl, zero l (fun z => by have := p _ z; omega)]
    · have := p _ h
      rw [if_neg (by omega), ih q h]
theorem cnt_total {ms : List Int} (nd : ms.Pairwise (· < ·)) : ∀ L : List Int, (∀ x ∈ L, x ∈ ms) → (ms.map fun x => L.count x).sum = L.length
  | [], _ => by
    have : ∀ l : List Int, (l.map fun x => ([] : List Int).count x).sum = 0 := fun l => by
      induction l with
      | nil => rfl
      | cons y l ih => rw [List.map_cons, List.sum_cons, ih]; rfl
    exact this ms
  | a :: L, h => by
    have ih := cnt_total nd L fun x hx => h x (List.mem_cons_of_mem _ hx)
    have one := cnt_one nd (h a (List.mem_cons_self ..))
    have split : ∀ l : List Int, (l.map fun x => (a :: L).count x).sum = (l.map fun x => L.count x).sum + (l.map fun x => if a = x then 1 else 0).sum := fun l => by
      induction l with
      | nil => rfl
      | cons y l ihl =>
        rw [List.map_cons, List.sum_cons, ihl, List.map_cons, List.sum_cons, List.map_cons, List.sum_cons, List.count_cons]
        by_cases e : a = y
        · subst e; simp; omega
        · simp [e]; omega
    rw [split, ih, one, List.length_cons]
/-! sorted of what is so -/
theorem sorted_same {α : Type} {lt : α → α → Bool} (as_ : ∀ x y, lt x y = true → lt y x = false) : ∀ {xs ys : List α}, xs.Pairwise (fun x y => lt x y = true) → ys.Pairwise (fun x y => lt y x = false) → ys.Perm xs → ys = xs
  | [], ys, _, _, h => List.perm_nil.mp h
  | x :: xs, [], _, _, h => by have := h.length_eq; simp at this
  | x :: xs, y :: ys, hx, hy, h => by
    obtain ⟨p1, q1⟩ := List.pairwise_cons.mp hx
    obtain ⟨p2, q2⟩ := List.pairwise_cons.mp hy
    by_cases e : y = x
    · subst e
      rw [sorted_same as_ q1 q2 (List.perm_cons y |>.mp h)]
    · exfalso
      have m1 : y ∈ xs := (List.mem_cons.mp (h.mem_iff.mp (List.mem_cons_self ..))).resolve_left e
      have m2 : x ∈ ys := (List.mem_cons.mp (h.mem_iff.mpr (List.mem_cons_self ..))).resolve_left fun z => e z.symm
      have a := p1 y m1
      have b := p2 x m2
      rw [a] at b
      cases b
/-- the key of a pair -/
def pairK (H : Hp) (x : V) : Int × Int := match x with
  | .ref t => (match H t with
    | some (.tup [.int i, .int j]) => (i, j)
    | _ => (0, 0))
  | _ => (0, 0)
theorem pairK_at {H : Hp} {t : Addr} {i j : Int} (h : H t = some (.tup [.int i, .int j])) : pairK H (.ref t) = (i, j) := by
  show (match H t with
    | some (.tup [.int i, .int j]) => (i, j)
    | _ => (0, 0)) = _
  rw [h]
theorem cnt_at {H : Hp} {xs : List V} {L ms : List Int} (t : TpAll H xs (cntD L ms)) {i : Nat} {x : V} (h : xs[i]? = some x) : ∃ p m, x = .ref p ∧ ms[i]? = some m ∧ H p = some (.tup [.int m, .int (L.count m : Nat)]) := by
  obtain ⟨d, hd, tx⟩ := t.get' h
  unfold cntD at hd
  rw [List.getElem?_map] at hd
  obtain ⟨m, hm, rfl⟩ := Option.map_eq_some_iff.mp hd
  obtain ⟨p, ys, rfl, hp, ty⟩ := tx.inv
  have e := TpAll.ints (ns := [m, (L.count m : Nat)]) ty
  subst e
  exact ⟨p, m, rfl, hm, hp⟩
theorem cnt_strict {H : Hp} {xs : List V} {L ms : List Int} (t : TpAll H xs (cntD L ms)) (nd : ms.Pairwise (· < ·)) : xs.Pairwise fun x y => SrtO.lexB (pairK H x) (pairK H y) = true := by
  rw [List.pairwise_iff_getElem]
  intro i j hi hj lt
  obtain ⟨p, m, e1, hm, hp⟩ := cnt_at t (List.getElem?_eq_getElem hi)
  obtain ⟨p', m', e2, hm', hp'⟩ := cnt_at t (List.getElem?_eq_getElem hj)
  rw [e1, e2, pairK_at hp, pairK_at hp']
  obtain ⟨l1, g1⟩ := List.getElem?_eq_some_iff.mp hm
  obtain ⟨l2, g2⟩ := List.getElem?_eq_some_iff.mp hm'
  have := List.pairwise_iff_getElem.mp nd i j l1 l2 lt
  rw [g1, g2] at this
  exact SrtO.lexB_iff.mpr (.inl this)
theorem lexB_as (x y : Int × Int) (h : SrtO.lexB x y = true) : SrtO.lexB y x = false := by
  cases e : SrtO.lexB y x with
  | false => rfl
  | true =>
    have h1 := SrtO.lexB_iff.mp h
    have h2 := SrtO.lexB_iff.mp e
    omega
/-! ### what is refused -/
structure ExK12 (Γ : Gm) : Prop where
  tt : PySem.W.exmOne Γ.K (.ref Γ.cTooGreat) (.ref Γ.cTooGreat) = some true
def sp__law_told (Γ : Gm) : Sp := fun vs H Q _ => ∃ v r, ∃ n : Nat, vs = [v, .int n] ∧ RuleAt Γ H v r ∧ 1 ≤ n ∧ n ≤ 40 ∧ (n : Int) ≤ r.top ∧ ∀ H', Same H H' → Q (.bl (decide (10 < n))) H'
/-- law_told: _law_rule_here, _law_heap, _law_found -/
def t__law_told_k12 (Γ : Gm) : TS := (tSeq (tAsg (tC (.bl false)) (gName 2))
  (tSeq (tTry1 Γ.K (.ref Γ.cTooGreat) (fun W => (tDrop (tCalS (sp_all_sums Γ) (WE' W) (tCons (tVar 0) (tCons (tVar 1) tNil))))) (fun _ _ _ => (tAsg (tC (.bl true)) (gName 2))))
  (tRet (tVar 2))))
theorem rd__law_told_k12 (Γ : Gm) (X : ExK12 Γ) (vs : List V) (H : Hp) (Q : VK) (E : XK) (h : sp__law_told Γ vs H Q E) : t__law_told_k12 Γ ⟨fun _ H' => Q .non H', Q, fun _ _ => False, fun _ _ => False⟩ (startN 3 vs) H := by
  obtain ⟨v, r, n, rfl, hr, h1, h40, ht, k⟩ := h
  unfold t__law_told_k12
  walk_at "ss"
  refine ⟨v, r, n, rfl, hr, h1, h40, ht, fun hg => ?_, fun hg l xs ms H' e _ _ _ _ => ?_⟩
  · rw [decide_eq_true hg] at k
    refine ⟨true, X.tt, fun _ a ha => ?_, fun z => nomatch z⟩
    walk_at "ss"
    exact k H (Same.refl H)
  · rw [decide_eq_false (by omega)] at k
    walk_at "ss"
    exact k H' e
def kSrt (K : PySem.W.Frag) (x : V) (H1 : Hp) (Q : VK) : Prop := ∃ (l : Addr) (ns : List Int), x = V.ref l ∧ SqL K H1 l (ns.map V.int) ∧ ns.length ≤ 4000 ∧ ∀ (ms : List Int) (p : Addr), ms.Pairwise (· < ·) → (∀ k, k ∈ ms ↔ k ∈ ns) → H1 p = none → Q (.ref p) (upd H1 p (.lst (ms.map V.int)))
theorem w_srtSet {K : PySem.W.Frag} {ta : TE} {σ : St} {H : Hp} {Q : VK} (h : ta σ H fun x H1 => kSrt K x H1 Q) : tSrtSet K ta σ H Q := h
theorem w_cntI {K : PySem.W.Frag} {H : Hp} {Q : VK} {p : Addr} {ns : List Int} {k : Int} (h : H p = some (.lst (ns.map V.int))) (q : Q (.int (ns.count k : Nat)) H) : rCntI K (.ref p) [.int k] H Q := ⟨p, ns, k, rfl, rfl, SqL.of h, q⟩
/-- law: _law_script, _law_d, _law_turn, _law_rule_here, _law_heap, _law_sums, _law_told_here, _law_way_here, _law_points_so, _law_many -/
def t_law_k12 (Γ : Gm) : TS := (tSeq (tAsg (tCal (sp__law_random Γ) E0 (tCons (tVar 0) (tCons (tC (.int 2812)) tNil))) (gName 1))
  (tSeq (tFor (iRng1 (tCons (tC (.int 2)) tNil)) (gName 2) (tSeq (tAsg (tCal (sp__law_rule Γ) E0 (tCons (tVar 1) (tCons (tC (.int 8)) tNil))) (gName 3))
  (tSeq (tAsg (tOp (rAddU Γ.K) (tC (.int 1)) (tCal (sp__law_below Γ) E0 (tCons (tVar 1) (tCons (tCal (sp__law_top Γ) E0 (tCons (tVar 3) (tCons (tC (.int 8)) tNil))) tNil)))) (gName 4))
  (tSeq (tAsg (tLc (iSeq Γ.K (tCal (sp__law_ways Γ) E0 (tCons (tVar 4) tNil))) (gName 7) tYes (tCB (rSum Γ.K) (tCons (tCal (sp__law_row Γ) E0 (tCons (tVar 3) (tCons (tVar 7) tNil))) tNil)) [7]) (gName 5))
  (tIfS (tNot (tB (tCal (sp__law_equal Γ) E0 (tCons (tCal (sp_all_sums Γ) E0 (tCons (tVar 3) (tCons (tVar 4) tNil))) (tCons (tLc (iSeq Γ.K (tSrtSet Γ.K (tVar 5))) (gName 6) tYes (tTup (tCons (tVar 6) (tCons (tBM Γ.K "list" (rCntI Γ.K) (tVar 5) (tCons (tVar 6) tNil)) tNil))) [6]) tNil))))) (tRet (tC (.bl false))) tNext)))))
  (tSeq (tAsg (tMak Γ.cRule (sp_RuleU_initU Γ) E0 (tCons (tC (.str "terms")) (tCons (tCal (sp__law_terms Γ) E0 (tCons (tVar 1) tNil)) tNil))) (gName 3))
  (tSeq (tAsg (tCal (sp_all_sums Γ) E0 (tCons (tVar 3) (tCons (tC (.int 10)) tNil))) (gName 6))
  (tSeq (tIfS (tOr (tTest (tOp (rNeU Γ.K) (tCB (rSum Γ.K) (tCons (tLc (iSeq Γ.K (tVar 6)) (gTup Γ.K 2 (gCons (gName 8) (gCons (gName 9) gNil))) tYes (tVar 9) [8, 9]) tNil)) (tC (.int 4862)))) (tTest (tOp (rNeU Γ.K) (tVar 6) (tCB (rSortedPO Γ.K) (tCons (tVar 6) tNil))))) (tRet (tC (.bl false))) tNext)
  (tRet (tAndV (tCal (sp__law_told Γ) E0 (tCons (tVar 3) (tCons (tC (.int 11)) tNil))) (tAndV (tCal (sp__law_told Γ) E0 (tCons (tVar 3) (tCons (tC (.int 40)) tNil))) (tNotV (tCal (sp__law_told Γ) E0 (tCons (tVar 3) (tCons (tC (.int 10)) tNil))))))))))))
theorem rd_law_k12 (Γ : Gm) (vs : List V) (H : Hp) (Q : VK) (E : XK) (h : spLaw Γ.K vs H Q E) : t_law_k12 Γ ⟨fun _ H' => Q .non H', Q, fun _ _ => False, fun _ _ => False⟩ (startN 10 vs) H := by
  obtain ⟨a, ns, rfl, hS, hl, k⟩ := h
  unfold t_law_k12
  walk_at "ss"
  refine ⟨a, ns, 2812, rfl, hS, hl, by decide, by decide, fun d H1 hd0 e1 hd => ?_⟩
  walk_at "ss"
  refine k_rng1 (by decide) ?_
  refine k_range (fun i σ H' => ∃ x2 x3 x4 x5 x6 x7 x8 x9, σ = [some (.ref a), some (.ref d), x2, x3, x4, x5, x6, x7, x8, x9] ∧ Same H1 H') ⟨none, none, none, none, none, none, none, none, rfl, Same.refl H1⟩ ?_ ?_
  · rintro i σ H2 hi ⟨x2, x3, x4, x5, x6, x7, x8, x9, rfl, e2⟩
    have d2 := e2 _ _ hd
    walk_at "ss"
    refine ⟨d, 8, rfl, d2, by decide, by decide, fun v r H3 e3 hr hfit => ?_⟩
    have hok := hr.ok
    walk_at "ss"
    refine ⟨v, r, 8, rfl, hr, fun H4 e4 => ?_⟩
    obtain ⟨t1, t2, t3⟩ := R.tle hok (m := 8) (by decide) (by decide)
    walk_at "ss"
    refine ⟨d, _, rfl, (e3.trans e4) _ _ d2, by omega, by omega, fun q q1 q2 => ?_⟩
    obtain ⟨n, hn⟩ : ∃ n : Nat, (n : Int) = 1 + q := ⟨(1 + q).toNat, by omega⟩
    have n1 : 1 ≤ n := by omega
    have n8 : n ≤ 8 := by omega
    have ntop : (n : Int) ≤ r.top := by omega
    walk_at "ss"
    rw [← hn]
    have r4 := hr.mono e4
    refine ⟨n, rfl, n1, n8, fun l xs H5 e5 g5 t5 => ?_⟩
    have r5 := r4.mono e5
    have wt := ways_things n n1
    have lx := t5.length
    rw [List.length_map] at lx
    have wl : (waysN n).length ≤ 1430 := by
      have := wTab_szs (n - 1) (by omega)
      refine this _ ?_
      unfold waysN
      rw [List.getD_eq_getElem?_getD, List.getElem?_eq_getElem (by rw [wTab_len]; omega)]
      exact List.getElem_mem _
    refine k_seqL (SqL.of g5) ?_
    refine k_lcList (fun j acc H' => acc = (((waysN n).take j).map r.sum).map V.int) (SqL.of g5) (fun _ _ => rfl) ?_ ?_
    · rintro j x D acc H6 hj' hD e6' hacc rfl
      obtain ⟨dd, hdd, tx'⟩ := t5.get' hj'
      rw [List.getElem?_map] at hdd
      obtain ⟨w, hw, rfl⟩ := Option.map_eq_some_iff.mp hdd
      have hwt := wt w (List.mem_of_getElem? hw)
      walk_at "ss"
      refine ⟨rfl, ?_⟩
      walk_at "ss"
      refine ⟨v, r, x, w, rfl, r5.mono e6', tx'.mono e6'.tups, by omega, by omega, by omega, fun lr H7 e7 f7 g7 => ?_⟩
      walk_at "ss"
      refine w_sum (SqL.of g7) ?_
      refine lcTurn.mk hD (e6'.trans e7) (e7 _ _ hacc) (by rw [List.length_map, List.length_map, List.length_take]; omega) ?_
      rw [take_succ hw, List.map_append, List.map_append]
      rfl
    · rintro D acc H6 hD e6 hacc rfl
      rw [lx, List.take_length] at hacc
      replace hacc : H6 D = some (.lst ((sumsW r n).map V.int)) := hacc
      have r6 := r5.mono e6
      have sl : (sumsW r n).length ≤ 1430 := by unfold sumsW; rw [List.length_map]; exact wl
      walk_at "ss"
      refine ⟨v, r, n, rfl, r6, n1, by omega, ntop, fun z => by omega, fun _ lA xA mA HA eA fA gA sA tA => ?_⟩
      walk_at "ss"
      refine w_srtSet ?_
      walk_at "ss"
      refine ⟨D, sumsW r n, rfl, SqL.of (eA _ _ hacc), by omega, fun mB p pB sB fp => ?_⟩
      have em : mB = mA := setOf_uniq pB sA.1 fun k => by rw [sB, sA.2]
      subst em
      have eB := Same.new (o := .lst (mB.map V.int)) fp
      have gB : (upd HA p (.lst (mB.map V.int))) p = some (.lst (mB.map V.int)) := upd_same
      generalize upd HA p (.lst (mB.map V.int)) = HB at eB gB ⊢
      have ml : mB.length ≤ 1430 := by
        have := cnt_total pB (sumsW r n) fun x hx => (sB x).mpr hx
        have le : ∀ l : List Int, (∀ x ∈ l, x ∈ sumsW r n) → l.length ≤ (l.map fun x => (sumsW r n).count x).sum := fun l => by
          induction l with
          | nil => intro _; exact Nat.zero_le _
          | cons y l ih =>
            intro h
            have h1 := List.count_pos_iff.mpr (h y (List.mem_cons_self ..))
            have h2 := ih fun z hz => h z (List.mem_cons_of_mem _ hz)
            rw [List.map_cons, List.sum_cons, List.length_cons]
            omega
        have := le mB fun x hx => (sB x).mp hx
        omega
      refine k_seqL (SqL.of gB) ?_
      refine k_lcList (fun j acc H' => TpAll H' acc (cntD (sumsW r n) (mB.take j))) (SqL.of gB) (fun _ _ => .nil) ?_ ?_
      · rintro j x B acc HC hx hB eC hacc' tacc
        rw [List.getElem?_map] at hx
        obtain ⟨m, hm, rfl⟩ := Option.map_eq_some_iff.mp hx
        have al := tacc.length
        unfold cntD at al
        rw [List.length_map, List.length_take] at al
        walk_at "ss"
        refine ⟨rfl, ?_⟩
        walk_at "ss"
        have gl := (eA.trans (eB.trans eC)) _ _ hacc
        refine w_tyL gl ?_
        walk_at "ss"
        refine w_cntI gl ?_
        walk_at "ss"
        refine n_tup fun u HD fD eD gD => ?_
        have d5 := eD _ _ hacc'
        have u5 : Tups HD (upd HD B (.lst (acc ++ [.ref u]))) := (Same.refl HD).tups.upd (fun xs z => by rw [d5] at z; cases z)
        refine lcTurn.mk hB (eC.trans eD) d5 (by omega) ?_
        rw [take_succ hm]
        unfold cntD
        rw [List.map_append]
        exact (tacc.mono (eD.tups.trans u5)).append (.cons (.tup (u5 _ _ gD) (.cons (.int _) (.cons (.int _) .nil))) .nil)
      · rintro B acc HC hB eC hacc' tacc
        rw [List.length_map, List.take_length] at tacc
        walk_at "ss"
        have eAC := eB.trans eC
        refine w_equal (d := .list (cntD (sumsW r n) mB)) (.lst (eAC _ _ gA) (tA.mono eAC.tups).dv) (.lst hacc' tacc.dv) (flat_cntL (by omega)) fun HD eD => ?_
        walk_at "ss"
        exact ⟨_, _, _, _, _, _, _, _, rfl, e2.trans (e3.trans (e4.trans (e5.trans (e6.trans (eA.trans (eAC.trans eD))))))⟩
  · rintro σ H2 ⟨x2, x3, x4, x5, x6, x7, x8, x9, rfl, e2⟩
    walk_at "ss"
    refine ⟨d, rfl, e2 _ _ hd, fun v ts H3 e3 tv ok => ?_⟩
    walk_at "ss"
    refine w_mkRule (R.trm ts) tv ok (ruleOf_body ok) fun p H4 e4 hr => ?_
    walk_at "ss"
    refine ⟨.ref p, R.trm ts, 10, rfl, hr, by decide, by decide, (show ((10 : Nat) : Int) ≤ 1000000000000000000000000000000 from by decide), fun z => absurd z (by decide), fun _ lA xA mA HA eA fA gA sA tA => ?_⟩
    have rA := hr.mono eA
    have sl : (sumsW (R.trm ts) 10).length = 4862 := by
      rw [sumsW_len _ (by decide)]
      decide +kernel
    have tot := cnt_total sA.1 (sumsW (R.trm ts) 10) fun x hx => (sA.2 x).mpr hx
    have ml : mA.length ≤ 4862 := by
      have le : ∀ l : List Int, (∀ x ∈ l, x ∈ sumsW (R.trm ts) 10) → l.length ≤ (l.map fun x => (sumsW (R.trm ts) 10).count x).sum := fun l => by
        induction l with
        | nil => intro _; exact Nat.zero_le _
        | cons y l ih =>
          intro h
          have h1 := List.count_pos_iff.mpr (h y (List.mem_cons_self ..))
          have h2 := ih fun z hz => h z (List.mem_cons_of_mem _ hz)
          rw [List.map_cons, List.sum_cons, List.length_cons]
          omega
      have := le mA fun x hx => (sA.2 x).mp hx
      omega
    have lx := tA.length
    unfold cntD at lx
    rw [List.length_map] at lx
    walk_at "ss"
    refine k_seqL (SqL.of gA) ?_
    refine k_lcList (fun j acc H' => acc = ((mA.take j).map fun m => V.int ((sumsW (R.trm ts) 10).count m : Nat))) (SqL.of gA) (fun _ _ => rfl) ?_ ?_
    · rintro j x D acc H6 hj' hD e6' hacc rfl
      obtain ⟨pp, m, rfl, hm, hp⟩ := cnt_at tA hj'
      refine w_gTup (SqT.of (e6' _ _ hp)) rfl ?_
      walk_at "ss"
      refine ⟨rfl, ?_⟩
      walk_at "ss"
      refine lcTurn.mk hD e6' hacc (by rw [List.length_map, List.length_take]; omega) ?_
      rw [take_succ hm, List.map_append]
      rfl
    · rintro D acc H6 hD e6 hacc rfl
      rw [lx, List.take_length] at hacc
      have ei : (mA.map fun m => V.int ((sumsW (R.trm ts) 10).count m : Nat)) = (mA.map fun m => ((sumsW (R.trm ts) 10).count m : Int)).map V.int := by
        rw [List.map_map]
        rfl
      rw [ei] at hacc
      walk_at "ss"
      refine w_sum (SqL.of hacc) ?_
      have es : (mA.map fun m => ((sumsW (R.trm ts) 10).count m : Int)).sum = 4862 := by
        have : ∀ l : List Int, (l.map fun m => ((sumsW (R.trm ts) 10).count m : Int)).sum = (((l.map fun m => (sumsW (R.trm ts) 10).count m).sum : Nat) : Int) := fun l => by
          induction l with
          | nil => rfl
          | cons y l ih => rw [List.map_cons, List.sum_cons, ih, List.map_cons, List.sum_cons]; omega
        rw [this, tot, sl]
        rfl
      rw [es]
      walk_at "ss"
      rw [decide_eq_true rfl]
      walk_at "ss"
      have gA6 := e6 _ _ gA
      have tA6 := tA.mono e6.tups
      refine ⟨lA, xA, pairK H6, rfl, SqL.of gA6, fun x hx => ?_, fun ys q srt stb fq => ?_⟩
      · obtain ⟨j, hj⟩ := List.mem_iff_getElem?.mp hx
        obtain ⟨pp, m, rfl, hm, hp⟩ := cnt_at tA6 hj
        exact ⟨pp, rfl, by rw [pairK_at hp]; exact hp⟩
      have ey : ys = xA := sorted_same (lt := fun x y => SrtO.lexB (pairK H6 x) (pairK H6 y)) (fun x y h => lexB_as _ _ h) (cnt_strict tA6 sA.1) srt stb.perm
      subst ey
      have e7 := Same.new (o := .lst ys) fq
      have g7 : (upd H6 q (.lst ys)) q = some (.lst ys) := upd_same
      generalize upd H6 q (.lst ys) = H7 at e7 g7 ⊢
      have tA7 := tA6.mono e7.tups
      have dec : Decidable (PyData.list (cntD (sumsW (R.trm ts) 10) mA) = .list (cntD (sumsW (R.trm ts) 10) mA)) := Classical.propDecidable _
      refine w_neD (dec := dec) (d := .list (cntD (sumsW (R.trm ts) 10) mA)) (e := .list (cntD (sumsW (R.trm ts) 10) mA)) (.lst (e7 _ _ gA6) tA7.dv) (.lst g7 tA7.dv) (flat_cntL (by omega)) (flat_cntL (by omega)) (by unfold pureD; exact pure_cnt _ _) (by unfold pureD; exact pure_cnt _ _) ?_
      rw [@decide_eq_true _ dec rfl]
      walk_at "ss"
      have r7 := rA.mono (e6.trans e7)
      refine ⟨.ref p, R.trm ts, 11, rfl, r7, by decide, by decide, (show ((11 : Nat) : Int) ≤ 1000000000000000000000000000000 from by decide), fun H8 e8 => ?_⟩
      rw [decide_eq_true (by decide)]
      walk_at "ss"
      refine ⟨.ref p, R.trm ts, 40, rfl, r7.mono e8, by decide, by decide, (show ((40 : Nat) : Int) ≤ 1000000000000000000000000000000 from by decide), fun H9 e9 => ?_⟩
      rw [decide_eq_true (by decide)]
      walk_at "ss"
      refine ⟨.ref p, R.trm ts, 10, rfl, r7.mono (e8.trans e9), by decide, by decide, (show ((10 : Nat) : Int) ≤ 1000000000000000000000000000000 from by decide), fun HX eX => ?_⟩
      rw [decide_eq_false (by decide)]
      walk_at "ss"
      exact k HX


/-- a def of the top -/
def DefAt (K : PySem.W.Frag) (mg : Str → Option Value) (x qual : Str) (st : Stmt) : Prop := ∃ (f : Addr) (fd : FuncData), mg x = some (.ref f) ∧ Fun K x qual st f fd
def FunAt (K : PySem.W.Frag) (x qual : Str) (st : Stmt) (f : Addr) : Prop := ∃ fd : FuncData, Fun K x qual st f fd
theorem def_mk {K : PySem.W.Frag} {h : Heap} {mg : Str → Option Value} {x qual : Str} {st : Stmt} {f : Addr} {oc : Value} {od an : Option Addr} {osl : Array (Option Value)} {kV doc pm cdv ct : Value} (X : K.In h) (G : h.Ns mainGlobals mg)
    (a : PySem.W.nsIn K mainGlobals x = some (some (.ref f))) (l : K.lookup f = some ⟨oc, od, .func (PySem.W.fnOf x qual (defArgs st) (defBody st) (defScope st) .none kV doc pm an cdv ct), osl⟩)
    (c : PySem.W.codeIn K cdv qual = true) (k : PySem.W.keepIn K (.ref f) = true) : DefAt K mg x qual st := ⟨f, _, PySem.W.mg_of X G a, fun_mk l c k⟩
/-- is an error of the class at C one that «except S» names -/
theorem exm_of {K : PySem.W.Frag} {C S : Addr} {b : Bool} (h1 : PySem.W.subIn K (.ref S) (.type "BaseException") = some true) (h2 : PySem.W.isClsIn K S = true) (h3 : PySem.W.typeIn K (.ref S) = some (.type "type")) (h4 : PySem.W.subIn K (.ref C) (.ref S) = some b) :
    PySem.W.exmOne K (.ref C) (.ref S) = some b := by
  have e1 : (PySem.W.subIn K (.ref S) (.type "BaseException") == some true) = true := by rw [h1] <;> rfl
  have e2 : ((PySem.W.clsIn K S).isSome && PySem.W.typeIn K (.ref S) == some (.type "type")) = true := by
    have h2' : (PySem.W.clsIn K S).isSome = true := h2
    rw [h2', h3] <;> rfl
  show (if (PySem.W.subIn K (.ref S) (.type "BaseException") == some true) = true then (if ((PySem.W.clsIn K S).isSome && PySem.W.typeIn K (.ref S) == some (.type "type")) = true then PySem.W.subIn K (.ref C) (.ref S) else none) else none) = some b
  rw [if_pos e1, if_pos e2]
  exact h4
theorem funat_mk {K : PySem.W.Frag} {x qual : Str} {st : Stmt} {f : Addr} {oc : Value} {od an : Option Addr} {osl : Array (Option Value)} {kV doc pm cdv ct : Value}
    (l : K.lookup f = some ⟨oc, od, .func (PySem.W.fnOf x qual (defArgs st) (defBody st) (defScope st) .none kV doc pm an cdv ct), osl⟩)
    (c : PySem.W.codeIn K cdv qual = true) (k : PySem.W.keepIn K (.ref f) = true) : FunAt K x qual st f := ⟨_, fun_mk l c k⟩
/-! ### the text by places -/
def top (i : Nat) : Stmt := PySem.Challenge.pw_splitpoints_k12_whole_sums.main.body.getD i (.Pass ⟨0, 0, 0, 0⟩)
abbrev s_is_integer : Stmt := top 11
abbrev N_is_integer : List Str := ["value"]
theorem sc_is_integer : FnScope N_is_integer ["value"] (defScope s_is_integer) := ⟨rfl, rfl, rfl, by decide +kernel, rfl, by decide +kernel, by decide +kernel⟩
theorem b_is_integer {K : PySem.W.Frag} {f : Addr} {fd : FuncData} (F : Fun K "is_integer" "is_integer" s_is_integer f fd) : Binds K fd ["value"] [] := F.binds (ps := ["value"]) fun _ _ _ _ _ _ us hl => match us, hl with | [_], _ => rfl
abbrev s_is_from : Stmt := top 12
abbrev N_is_from : List Str := ["value", "low", "high"]
theorem sc_is_from : FnScope N_is_from ["value", "low", "high"] (defScope s_is_from) := ⟨rfl, rfl, rfl, by decide +kernel, rfl, by decide +kernel, by decide +kernel⟩
theorem b_is_from {K : PySem.W.Frag} {f : Addr} {fd : FuncData} (F : Fun K "is_from" "is_from" s_is_from f fd) : Binds K fd ["value", "low", "high"] [] := F.binds (ps := ["value", "low", "high"]) fun _ _ _ _ _ _ us hl => match us, hl with | [_, _, _], _ => rfl
abbrev s_are_rows : Stmt := top 13
abbrev N_are_rows : List Str := ["value", "index", "row", "number"]
theorem sc_are_rows : FnScope N_are_rows ["value"] (defScope s_are_rows) := ⟨rfl, rfl, rfl, by decide +kernel, rfl, by decide +kernel, by decide +kernel⟩
theorem b_are_rows {K : PySem.W.Frag} {f : Addr} {fd : FuncData} (F : Fun K "are_rows" "are_rows" s_are_rows f fd) : Binds K fd ["value"] [] := F.binds (ps := ["value"]) fun _ _ _ _ _ _ us hl => match us, hl with | [_], _ => rfl
abbrev s_is_term : Stmt := top 14
abbrev N_is_term : List Str := ["value"]
theorem sc_is_term : FnScope N_is_term ["value"] (defScope s_is_term) := ⟨rfl, rfl, rfl, by decide +kernel, rfl, by decide +kernel, by decide +kernel⟩
theorem b_is_term {K : PySem.W.Frag} {f : Addr} {fd : FuncData} (F : Fun K "is_term" "is_term" s_is_term f fd) : Binds K fd ["value"] [] := F.binds (ps := ["value"]) fun _ _ _ _ _ _ us hl => match us, hl with | [_], _ => rfl
abbrev s_are_terms : Stmt := top 15
abbrev N_are_terms : List Str := ["value", "term"]
theorem sc_are_terms : FnScope N_are_terms ["value"] (defScope s_are_terms) := ⟨rfl, rfl, rfl, by decide +kernel, rfl, by decide +kernel, by decide +kernel⟩
theorem b_are_terms {K : PySem.W.Frag} {f : Addr} {fd : FuncData} (F : Fun K "are_terms" "are_terms" s_are_terms f fd) : Binds K fd ["value"] [] := F.binds (ps := ["value"]) fun _ _ _ _ _ _ us hl => match us, hl with | [_], _ => rfl
abbrev s_RuleU_initU : Stmt := inClass (top 16) 0
abbrev N_RuleU_initU : List Str := ["self", "kind", "parts"]
theorem sc_RuleU_initU : FnScope N_RuleU_initU ["self", "kind", "parts"] (defScope s_RuleU_initU) := ⟨rfl, rfl, rfl, by decide +kernel, rfl, by decide +kernel, by decide +kernel⟩
theorem b_RuleU_initU {K : PySem.W.Frag} {f : Addr} {fd : FuncData} (F : Fun K "__init__" "Rule.__init__" s_RuleU_initU f fd) : Binds K fd ["self", "kind", "parts"] [] := F.binds (ps := ["self", "kind", "parts"]) fun _ _ _ _ _ _ us hl => match us, hl with | [_, _, _], _ => rfl
abbrev s_most_of : Stmt := top 17
abbrev N_most_of : List Str := ["rule"]
theorem sc_most_of : FnScope N_most_of ["rule"] (defScope s_most_of) := ⟨rfl, rfl, rfl, by decide +kernel, rfl, by decide +kernel, by decide +kernel⟩
theorem b_most_of {K : PySem.W.Frag} {f : Addr} {fd : FuncData} (F : Fun K "most_of" "most_of" s_most_of f fd) : Binds K fd ["rule"] [] := F.binds (ps := ["rule"]) fun _ _ _ _ _ _ us hl => match us, hl with | [_], _ => rfl
abbrev s_raised : Stmt := top 18
abbrev N_raised : List Str := ["base", "exponent", "found", "lap"]
theorem sc_raised : FnScope N_raised ["base", "exponent"] (defScope s_raised) := ⟨rfl, rfl, rfl, by decide +kernel, rfl, by decide +kernel, by decide +kernel⟩
theorem b_raised {K : PySem.W.Frag} {f : Addr} {fd : FuncData} (F : Fun K "raised" "raised" s_raised f fd) : Binds K fd ["base", "exponent"] [] := F.binds (ps := ["base", "exponent"]) fun _ _ _ _ _ _ us hl => match us, hl with | [_, _], _ => rfl
abbrev s_points_by : Stmt := top 19
abbrev N_points_by : List Str := ["rule", "first", "second", "number", "one", "other"]
theorem sc_points_by : FnScope N_points_by ["rule", "first", "second"] (defScope s_points_by) := ⟨rfl, rfl, rfl, by decide +kernel, rfl, by decide +kernel, by decide +kernel⟩
theorem b_points_by {K : PySem.W.Frag} {f : Addr} {fd : FuncData} (F : Fun K "points_by" "points_by" s_points_by f fd) : Binds K fd ["rule", "first", "second"] [] := F.binds (ps := ["rule", "first", "second"]) fun _ _ _ _ _ _ us hl => match us, hl with | [_, _, _], _ => rfl
abbrev s_check_heap : Stmt := top 20
abbrev N_check_heap : List Str := ["rule", "heap", "most"]
theorem sc_check_heap : FnScope N_check_heap ["rule", "heap", "most"] (defScope s_check_heap) := ⟨rfl, rfl, rfl, by decide +kernel, rfl, by decide +kernel, by decide +kernel⟩
theorem b_check_heap {K : PySem.W.Frag} {f : Addr} {fd : FuncData} (F : Fun K "check_heap" "check_heap" s_check_heap f fd) : Binds K fd ["rule", "heap", "most"] [] := F.binds (ps := ["rule", "heap", "most"]) fun _ _ _ _ _ _ us hl => match us, hl with | [_, _, _], _ => rfl
abbrev s_sums_by : Stmt := top 24
abbrev N_sums_by : List Str := ["rule", "heap", "found", "size", "own", "first", "more", "one", "many", "other", "times", "told"]
theorem sc_sums_by : FnScope N_sums_by ["rule", "heap"] (defScope s_sums_by) := ⟨rfl, rfl, rfl, by decide +kernel, rfl, by decide +kernel, by decide +kernel⟩
theorem b_sums_by {K : PySem.W.Frag} {f : Addr} {fd : FuncData} (F : Fun K "sums_by" "sums_by" s_sums_by f fd) : Binds K fd ["rule", "heap"] [] := F.binds (ps := ["rule", "heap"]) fun _ _ _ _ _ _ us hl => match us, hl with | [_, _], _ => rfl
abbrev s_all_sums : Stmt := top 25
abbrev N_all_sums : List Str := ["rule", "heap", "found", "told"]
theorem sc_all_sums : FnScope N_all_sums ["rule", "heap"] (defScope s_all_sums) := ⟨rfl, rfl, rfl, by decide +kernel, rfl, by decide +kernel, by decide +kernel⟩
theorem b_all_sums {K : PySem.W.Frag} {f : Addr} {fd : FuncData} (F : Fun K "all_sums" "all_sums" s_all_sums f fd) : Binds K fd ["rule", "heap"] [] := F.binds (ps := ["rule", "heap"]) fun _ _ _ _ _ _ us hl => match us, hl with | [_, _], _ => rfl
abbrev s__law_random : Stmt := top 27
abbrev N__law_random : List Str := ["_law_script", "_law_salt", "_law_seed", "_law_cell"]
theorem sc__law_random : FnScope N__law_random ["_law_script", "_law_salt"] (defScope s__law_random) := ⟨rfl, rfl, rfl, by decide +kernel, rfl, by decide +kernel, by decide +kernel⟩
theorem b__law_random {K : PySem.W.Frag} {f : Addr} {fd : FuncData} (F : Fun K "_law_random" "_law_random" s__law_random f fd) : Binds K fd ["_law_script", "_law_salt"] [] := F.binds (ps := ["_law_script", "_law_salt"]) fun _ _ _ _ _ _ us hl => match us, hl with | [_, _], _ => rfl
abbrev s__law_below : Stmt := top 28
abbrev N__law_below : List Str := ["_law_d", "_law_size", "_law_result"]
theorem sc__law_below : FnScope N__law_below ["_law_d", "_law_size"] (defScope s__law_below) := ⟨rfl, rfl, rfl, by decide +kernel, rfl, by decide +kernel, by decide +kernel⟩
theorem b__law_below {K : PySem.W.Frag} {f : Addr} {fd : FuncData} (F : Fun K "_law_below" "_law_below" s__law_below f fd) : Binds K fd ["_law_d", "_law_size"] [] := F.binds (ps := ["_law_d", "_law_size"]) fun _ _ _ _ _ _ us hl => match us, hl with | [_, _], _ => rfl
abbrev s__law_pick : Stmt := top 29
abbrev N__law_pick : List Str := ["_law_d", "_law_items"]
theorem sc__law_pick : FnScope N__law_pick ["_law_d", "_law_items"] (defScope s__law_pick) := ⟨rfl, rfl, rfl, by decide +kernel, rfl, by decide +kernel, by decide +kernel⟩
theorem b__law_pick {K : PySem.W.Frag} {f : Addr} {fd : FuncData} (F : Fun K "_law_pick" "_law_pick" s__law_pick f fd) : Binds K fd ["_law_d", "_law_items"] [] := F.binds (ps := ["_law_d", "_law_items"]) fun _ _ _ _ _ _ us hl => match us, hl with | [_, _], _ => rfl
abbrev s__law_table : Stmt := top 31
abbrev N__law_table : List Str := ["_law_d", "_law_most", "_law_kind", "_law_due", "_law_rows", "_law_one", "_law_row_here", "_law_other", "_law_k"]
theorem sc__law_table : FnScope N__law_table ["_law_d", "_law_most"] (defScope s__law_table) := ⟨rfl, rfl, rfl, by decide +kernel, rfl, by decide +kernel, by decide +kernel⟩
theorem b__law_table {K : PySem.W.Frag} {f : Addr} {fd : FuncData} (F : Fun K "_law_table" "_law_table" s__law_table f fd) : Binds K fd ["_law_d", "_law_most"] [] := F.binds (ps := ["_law_d", "_law_most"]) fun _ _ _ _ _ _ us hl => match us, hl with | [_, _], _ => rfl
abbrev s__law_terms : Stmt := top 32
abbrev N__law_terms : List Str := ["_law_d", "_law_number", "_law_kind", "_law_found"]
theorem sc__law_terms : FnScope N__law_terms ["_law_d"] (defScope s__law_terms) := ⟨rfl, rfl, rfl, by decide +kernel, rfl, by decide +kernel, by decide +kernel⟩
theorem b__law_terms {K : PySem.W.Frag} {f : Addr} {fd : FuncData} (F : Fun K "_law_terms" "_law_terms" s__law_terms f fd) : Binds K fd ["_law_d"] [] := F.binds (ps := ["_law_d"]) fun _ _ _ _ _ _ us hl => match us, hl with | [_], _ => rfl
abbrev s__law_rule : Stmt := top 33
abbrev N__law_rule : List Str := ["_law_d", "_law_most"]
theorem sc__law_rule : FnScope N__law_rule ["_law_d", "_law_most"] (defScope s__law_rule) := ⟨rfl, rfl, rfl, by decide +kernel, rfl, by decide +kernel, by decide +kernel⟩
theorem b__law_rule {K : PySem.W.Frag} {f : Addr} {fd : FuncData} (F : Fun K "_law_rule" "_law_rule" s__law_rule f fd) : Binds K fd ["_law_d", "_law_most"] [] := F.binds (ps := ["_law_d", "_law_most"]) fun _ _ _ _ _ _ us hl => match us, hl with | [_, _], _ => rfl
abbrev s__law_top : Stmt := top 34
abbrev N__law_top : List Str := ["_law_rule_here", "_law_most"]
theorem sc__law_top : FnScope N__law_top ["_law_rule_here", "_law_most"] (defScope s__law_top) := ⟨rfl, rfl, rfl, by decide +kernel, rfl, by decide +kernel, by decide +kernel⟩
theorem b__law_top {K : PySem.W.Frag} {f : Addr} {fd : FuncData} (F : Fun K "_law_top" "_law_top" s__law_top f fd) : Binds K fd ["_law_rule_here", "_law_most"] [] := F.binds (ps := ["_law_rule_here", "_law_most"]) fun _ _ _ _ _ _ us hl => match us, hl with | [_, _], _ => rfl
abbrev s__law_equal : Stmt := top 30
abbrev N__law_equal : List Str := ["_law_actual", "_law_expected", "_law_key", "_law_k"]
theorem sc__law_equal : FnScope N__law_equal ["_law_actual", "_law_expected"] (defScope s__law_equal) := ⟨rfl, rfl, rfl, by decide +kernel, rfl, by decide +kernel, by decide +kernel⟩
theorem b__law_equal {K : PySem.W.Frag} {f : Addr} {fd : FuncData} (F : Fun K "_law_equal" "_law_equal" s__law_equal f fd) : Binds K fd ["_law_actual", "_law_expected"] [] := F.binds (ps := ["_law_actual", "_law_expected"]) fun _ _ _ _ _ _ us hl => match us, hl with | [_, _], _ => rfl
abbrev s__law_points : Stmt := top 35
abbrev N__law_points : List Str := ["_law_rule_here", "_law_one", "_law_other", "_law_found", "_law_number", "_law_i", "_law_j", "_law_k"]
theorem sc__law_points : FnScope N__law_points ["_law_rule_here", "_law_one", "_law_other"] (defScope s__law_points) := ⟨rfl, rfl, rfl, by decide +kernel, rfl, by decide +kernel, by decide +kernel⟩
theorem b__law_points {K : PySem.W.Frag} {f : Addr} {fd : FuncData} (F : Fun K "_law_points" "_law_points" s__law_points f fd) : Binds K fd ["_law_rule_here", "_law_one", "_law_other"] [] := F.binds (ps := ["_law_rule_here", "_law_one", "_law_other"]) fun _ _ _ _ _ _ us hl => match us, hl with | [_, _, _], _ => rfl
abbrev s__law_ways : Stmt := top 36
abbrev N__law_ways : List Str := ["_law_heap", "_law_found", "_law_size", "_law_own", "_law_one", "_law_left", "_law_right"]
theorem sc__law_ways : FnScope N__law_ways ["_law_heap"] (defScope s__law_ways) := ⟨rfl, rfl, rfl, by decide +kernel, rfl, by decide +kernel, by decide +kernel⟩
theorem b__law_ways {K : PySem.W.Frag} {f : Addr} {fd : FuncData} (F : Fun K "_law_ways" "_law_ways" s__law_ways f fd) : Binds K fd ["_law_heap"] [] := F.binds (ps := ["_law_heap"]) fun _ _ _ _ _ _ us hl => match us, hl with | [_], _ => rfl
abbrev s__law_things : Stmt := top 38
abbrev N__law_things : List Str := ["_law_way_here"]
theorem sc__law_things : FnScope N__law_things ["_law_way_here"] (defScope s__law_things) := ⟨rfl, rfl, rfl, by decide +kernel, rfl, by decide +kernel, by decide +kernel⟩
theorem b__law_things {K : PySem.W.Frag} {f : Addr} {fd : FuncData} (F : Fun K "_law_things" "_law_things" s__law_things f fd) : Binds K fd ["_law_way_here"] [] := F.binds (ps := ["_law_way_here"]) fun _ _ _ _ _ _ us hl => match us, hl with | [_], _ => rfl
abbrev s__law_row : Stmt := top 39
abbrev N__law_row : List Str := ["_law_rule_here", "_law_way_here", "_law_own"]
theorem sc__law_row : FnScope N__law_row ["_law_rule_here", "_law_way_here"] (defScope s__law_row) := ⟨rfl, rfl, rfl, by decide +kernel, rfl, by decide +kernel, by decide +kernel⟩
theorem b__law_row {K : PySem.W.Frag} {f : Addr} {fd : FuncData} (F : Fun K "_law_row" "_law_row" s__law_row f fd) : Binds K fd ["_law_rule_here", "_law_way_here"] [] := F.binds (ps := ["_law_rule_here", "_law_way_here"]) fun _ _ _ _ _ _ us hl => match us, hl with | [_, _], _ => rfl
abbrev s__law_told : Stmt := top 40
abbrev N__law_told : List Str := ["_law_rule_here", "_law_heap", "_law_found"]
theorem sc__law_told : FnScope N__law_told ["_law_rule_here", "_law_heap"] (defScope s__law_told) := ⟨rfl, rfl, rfl, by decide +kernel, rfl, by decide +kernel, by decide +kernel⟩
theorem b__law_told {K : PySem.W.Frag} {f : Addr} {fd : FuncData} (F : Fun K "_law_told" "_law_told" s__law_told f fd) : Binds K fd ["_law_rule_here", "_law_heap"] [] := F.binds (ps := ["_law_rule_here", "_law_heap"]) fun _ _ _ _ _ _ us hl => match us, hl with | [_, _], _ => rfl
abbrev s_law : Stmt := top 41
abbrev N_law : List Str := ["_law_script", "_law_d", "_law_turn", "_law_rule_here", "_law_heap", "_law_sums", "_law_told_here", "_law_way_here", "_law_points_so", "_law_many"]
theorem sc_law : FnScope N_law ["_law_script"] (defScope s_law) := ⟨rfl, rfl, rfl, by decide +kernel, rfl, by decide +kernel, by decide +kernel⟩
theorem b_law {K : PySem.W.Frag} {f : Addr} {fd : FuncData} (F : Fun K "law" "law" s_law f fd) : Binds K fd ["_law_script"] [] := F.binds (ps := ["_law_script"]) fun _ _ _ _ _ _ us hl => match us, hl with | [_], _ => rfl
/-! ### what the top has written -/
structure TX (Γ : Gm) (mg : Str → Option Value) : Prop where
  b_abs : mg "abs" = none
  b_all : mg "all" = none
  b_bool : mg "bool" = none
  b_dict : mg "dict" = none
  b_enumerate : mg "enumerate" = none
  b_int : mg "int" = none
  b_isinstance : mg "isinstance" = none
  b_len : mg "len" = none
  b_list : mg "list" = none
  b_min : mg "min" = none
  b_range : mg "range" = none
  b_set : mg "set" = none
  b_sorted : mg "sorted" = none
  b_str : mg "str" = none
  b_sum : mg "sum" = none
  b_tuple : mg "tuple" = none
  c_MOST_TABLE : ∃ t, mg "MOST_TABLE" = some (.int 40 t)
  c_MOST_HEAP : ∃ t, mg "MOST_HEAP" = some (.int 1000000000000000000000000000000 t)
  c_MOST_POINTS : ∃ t, mg "MOST_POINTS" = some (.int 1000000 t)
  c_MOST_TERMS : ∃ t, mg "MOST_TERMS" = some (.int 6 t)
  c_MOST_EXPONENT : ∃ t, mg "MOST_EXPONENT" = some (.int 4 t)
  c_MOST_THINGS : ∃ t, mg "MOST_THINGS" = some (.int 40 t)
  c_MOST_SUMS : ∃ t, mg "MOST_SUMS" = some (.int 10 t)
  x_BadHeap : ExcF Γ.K mg "BadHeap" Γ.cBadHeap
  x_BadRule : ExcF Γ.K mg "BadRule" Γ.cBadRule
  x_TooGreat : ExcF Γ.K mg "TooGreat" Γ.cTooGreat
  e_TooGreat_TooGreat : PySem.W.exmOne Γ.K (.ref Γ.cTooGreat) (.ref Γ.cTooGreat) = some true
  rule : RuleF Γ
section
variable {P : Program} {w : World} {mg : Str → Option Value} {base : Heap} {Γ : Gm}
theorem ok_is_integer {f : Addr} {fd : FuncData} (F : Fun Γ.K "is_integer" "is_integer" s_is_integer f fd) (T : TX Γ mg) : FnOk P w Γ.K mg base CX0 1 f fd ["value"] (sp_is_integer Γ) := by
  have nd := sc_is_integer.nd
  refine F.ok sc_is_integer (fun vs H Q E h => ?_) (fun cdv A outer s H vs Q E hr h => ⟨t_is_integer Γ, ?_, rd_is_integer Γ  vs H Q E h⟩)
  · repeat (first | (obtain ⟨rfl, _⟩ := h; rfl) | (obtain ⟨_, h⟩ := h))
  · have hu := hr.units
    exact (pss_one (ps_ret (pe_and (pe_callB call_isi (by rfl) T.b_isinstance (by decide +kernel) (pa_cons (pv 0) (pa_cons (pe_bltn (by rfl) T.b_int (by decide +kernel) (v := .ty "int") rfl) pa_nil))) (pe_one (pe_not (pe_callB call_isi (by rfl) T.b_isinstance (by decide +kernel) (pa_cons (pv 0) (pa_cons (pe_bltn (by rfl) T.b_bool (by decide +kernel) (v := .ty "bool") rfl) pa_nil))))))))
theorem ok_is_from {f : Addr} {fd : FuncData} (F : Fun Γ.K "is_from" "is_from" s_is_from f fd) (T : TX Γ mg) (c_is_integer : Cal P w Γ.K mg base CX0 "is_integer" 1 ["value"] (sp_is_integer Γ)) : FnOk P w Γ.K mg base CX0 2 f fd ["value", "low", "high"] (sp_is_from Γ) := by
  have nd := sc_is_from.nd
  refine F.ok sc_is_from (fun vs H Q E h => ?_) (fun cdv A outer s H vs Q E hr h => ⟨t_is_from Γ, ?_, rd_is_from Γ  vs H Q E h⟩)
  · repeat (first | (obtain ⟨rfl, _⟩ := h; rfl) | (obtain ⟨_, h⟩ := h))
  · have hu := hr.units
    exact (pss_one (ps_ret (pe_and (pe_cal c_is_integer (hr.mono (by omega)) (by rfl) pass0 (pa_cons (pv 0) pa_nil)) (pe_one (pe_chain op_leU op_leU (pv 1) (pv 0) (pv 2))))))
theorem ok_are_rows {f : Addr} {fd : FuncData} (F : Fun Γ.K "are_rows" "are_rows" s_are_rows f fd) (T : TX Γ mg) (c_is_from : Cal P w Γ.K mg base CX0 "is_from" 2 ["value", "low", "high"] (sp_is_from Γ)) : FnOk P w Γ.K mg base CX0 3 f fd ["value"] (sp_are_rows Γ) := by
  have nd := sc_are_rows.nd
  refine F.ok sc_are_rows (fun vs H Q E h => ?_) (fun cdv A outer s H vs Q E hr h => ⟨t_are_rows Γ, ?_, rd_are_rows Γ  vs H Q E h⟩)
  · repeat (first | (obtain ⟨rfl, _⟩ := h; rfl) | (obtain ⟨_, h⟩ := h))
  · have hu := hr.units
    exact (pss_cons (ps_if (PW.pt (pw_or (pt_not (pt_val (pe_callB call_isi (by rfl) T.b_isinstance (by decide +kernel) (pa_cons (pv 0) (pa_cons (pe_bltn (by rfl) T.b_tuple (by decide +kernel) (v := .ty "tuple") rfl) pa_nil))))) (pw_or1 (pt_not (pt_chain op_leU op_ltU pe_int (pe_callB call_len (by rfl) T.b_len (by decide +kernel) (pa_cons (pv 0) pa_nil)) (pe_gint T.c_MOST_TABLE (by rfl))))))) (pss_one (ps_ret pe_bl)) pss_nil)
  (pss_cons (ps_for PassesOwn.never rfl (pi_enumS (by rfl) T.b_enumerate (pa_cons (pv 0) pa_nil)) (pg_tup rfl (pgs_cons (pg_name (i := 1) nd rfl (Or.inl rfl)) (pgs_cons (pg_name (i := 2) nd rfl (Or.inl rfl)) pgs_nil))) (pss_cons (ps_if (PW.pt (pw_or (pt_not (pt_val (pe_callB call_isi (by rfl) T.b_isinstance (by decide +kernel) (pa_cons (pv 2) (pa_cons (pe_bltn (by rfl) T.b_tuple (by decide +kernel) (v := .ty "tuple") rfl) pa_nil))))) (pw_or1 (pt_cmpR (op_neU hu) (pe_callB call_len (by rfl) T.b_len (by decide +kernel) (pa_cons (pv 2) pa_nil)) (pe_op op_subU (pe_callB call_len (by rfl) T.b_len (by decide +kernel) (pa_cons (pv 0) pa_nil)) (pv 1)) (nomark _))))) (pss_one (ps_ret pe_bl)) pss_nil)
  (pss_one (ps_if (pt_not (pt_val (pe_callB (cr_all rfl) (by rfl) T.b_all (by decide +kernel) (pa_cons (pe_lc (own := [("number", 3)]) (g := (gName 3)) (tt := tYes) rfl nd (pi_seq (pv 2)) (blkOk_by (N := N_are_rows) (sc := (defScope s_are_rows)) (own := [("number", 3)]) (by decide +kernel)) (fun _ _ _ _ _ => (pg_name (i := 3) nd rfl (Or.inl rfl))) (fun _ _ _ _ _ => pts_nil) (fun _ _ _ _ _ => (pe_cal c_is_from (hr.mono (by omega)) (by rfl) pass0 (pa_cons (pv 3) (pa_cons (pe_op op_subU pe_int (pe_gint T.c_MOST_POINTS (by rfl))) (pa_cons (pe_gint T.c_MOST_POINTS (by rfl)) pa_nil)))))) pa_nil)))) (pss_one (ps_ret pe_bl)) pss_nil))))
  (pss_one (ps_ret pe_bl))))
theorem ok_is_term {f : Addr} {fd : FuncData} (F : Fun Γ.K "is_term" "is_term" s_is_term f fd) (T : TX Γ mg) (c_is_from : Cal P w Γ.K mg base CX0 "is_from" 2 ["value", "low", "high"] (sp_is_from Γ)) : FnOk P w Γ.K mg base CX0 3 f fd ["value"] (sp_is_term Γ) := by
  have nd := sc_is_term.nd
  refine F.ok sc_is_term (fun vs H Q E h => ?_) (fun cdv A outer s H vs Q E hr h => ⟨t_is_term Γ, ?_, rd_is_term Γ  vs H Q E h⟩)
  · repeat (first | (obtain ⟨rfl, _⟩ := h; rfl) | (obtain ⟨_, h⟩ := h))
  · have hu := hr.units
    exact (pss_cons (ps_if (PW.pt (pw_or (pt_not (pt_val (pe_callB call_isi (by rfl) T.b_isinstance (by decide +kernel) (pa_cons (pv 0) (pa_cons (pe_bltn (by rfl) T.b_tuple (by decide +kernel) (v := .ty "tuple") rfl) pa_nil))))) (pw_or (pt_cmpR (op_neU hu) (pe_callB call_len (by rfl) T.b_len (by decide +kernel) (pa_cons (pv 0) pa_nil)) pe_int (nomark _)) (pw_or1 (pt_not (pt_val (pe_cal c_is_from (hr.mono (by omega)) (by rfl) pass0 (pa_cons (pe_ix ix_seq (pv 0) pe_int (fun _ _ => rfl)) (pa_cons (pe_op op_subU pe_int (pe_gint T.c_MOST_POINTS (by rfl))) (pa_cons (pe_gint T.c_MOST_POINTS (by rfl)) pa_nil)))))))))) (pss_one (ps_ret pe_bl)) pss_nil)
  (pss_one (ps_ret (pe_and (pe_cal c_is_from (hr.mono (by omega)) (by rfl) pass0 (pa_cons (pe_ix ix_seq (pv 0) pe_int (fun _ _ => rfl)) (pa_cons pe_int (pa_cons (pe_gint T.c_MOST_EXPONENT (by rfl)) pa_nil)))) (pe_one (pe_cal c_is_from (hr.mono (by omega)) (by rfl) pass0 (pa_cons (pe_ix ix_seq (pv 0) pe_int (fun _ _ => rfl)) (pa_cons pe_int (pa_cons (pe_gint T.c_MOST_EXPONENT (by rfl)) pa_nil)))))))))
theorem ok_are_terms {f : Addr} {fd : FuncData} (F : Fun Γ.K "are_terms" "are_terms" s_are_terms f fd) (T : TX Γ mg) (c_is_term : Cal P w Γ.K mg base CX0 "is_term" 3 ["value"] (sp_is_term Γ)) : FnOk P w Γ.K mg base CX0 4 f fd ["value"] (sp_are_terms Γ) := by
  have nd := sc_are_terms.nd
  refine F.ok sc_are_terms (fun vs H Q E h => ?_) (fun cdv A outer s H vs Q E hr h => ⟨t_are_terms Γ, ?_, rd_are_terms Γ  vs H Q E h⟩)
  · repeat (first | (obtain ⟨rfl, _⟩ := h; rfl) | (obtain ⟨_, h⟩ := h))
  · have hu := hr.units
    exact (pss_one (ps_ret (pe_and (pe_callB call_isi (by rfl) T.b_isinstance (by decide +kernel) (pa_cons (pv 0) (pa_cons (pe_bltn (by rfl) T.b_tuple (by decide +kernel) (v := .ty "tuple") rfl) pa_nil))) (pe_and (pe_cmpR op_leU (pe_callB call_len (by rfl) T.b_len (by decide +kernel) (pa_cons (pv 0) pa_nil)) (pe_gint T.c_MOST_TERMS (by rfl)) (nomark _)) (pe_one (pe_callB (cr_all rfl) (by rfl) T.b_all (by decide +kernel) (pa_cons (pe_lc (own := [("term", 1)]) (g := (gName 1)) (tt := tYes) rfl nd (pi_seq (pv 0)) (blkOk_by (N := N_are_terms) (sc := (defScope s_are_terms)) (own := [("term", 1)]) (by decide +kernel)) (fun _ _ _ _ _ => (pg_name (i := 1) nd rfl (Or.inl rfl))) (fun _ _ _ _ _ => pts_nil) (fun _ _ _ _ _ => (pe_cal c_is_term (hr.mono (by omega)) (by rfl) pass0 (pa_cons (pv 1) pa_nil)))) pa_nil)))))))
theorem ok_RuleU_initU {f : Addr} {fd : FuncData} (F : Fun Γ.K "__init__" "Rule.__init__" s_RuleU_initU f fd) (T : TX Γ mg) (c_are_rows : Cal P w Γ.K mg base CX0 "are_rows" 3 ["value"] (sp_are_rows Γ)) (c_are_terms : Cal P w Γ.K mg base CX0 "are_terms" 4 ["value"] (sp_are_terms Γ)) : FnOk P w Γ.K mg base (L2.CX P w) 5 f fd ["self", "kind", "parts"] (sp_RuleU_initU Γ) := by
  have nd := sc_RuleU_initU.nd
  refine F.okX sc_RuleU_initU (fun vs H Q E h => ?_) (fun cdv A outer s H vs Q E hr h => ⟨t_RuleU_initU Γ E, ?_, rd_RuleU_initU Γ T.rule vs H Q E h⟩)
  · repeat (first | (obtain ⟨rfl, _⟩ := h; rfl) | (obtain ⟨_, h⟩ := h))
  · have hu := hr.units
    exact (pss_cons (ps_if (PW.pt (pw_or (pt_not (pt_val (pe_callB call_isi (by rfl) T.b_isinstance (by decide +kernel) (pa_cons (pv 1) (pa_cons (pe_bltn (by rfl) T.b_str (by decide +kernel) (v := .ty "str") rfl) pa_nil))))) (pw_or1 (pt_cmpR op_notInU (pv 1) (pe_tup (pa_cons pe_str (pa_cons pe_str pa_nil))) (by rfl))))) (pss_one (ps_raise0 rfl (takes_of rfl rfl rfl rfl) T.x_BadRule rfl)) pss_nil)
  (pss_cons (ps_if (pt_not (pt_ifExp (pt_cmpR (op_eqU hu) (pv 1) pe_str (nomark _)) (pt_val (pe_cal c_are_rows (hr.mono (by omega)) (by rfl) pass0 (pa_cons (pv 2) pa_nil))) (pt_val (pe_cal c_are_terms (hr.mono (by omega)) (by rfl) pass0 (pa_cons (pv 2) pa_nil))))) (pss_one (ps_raise0 rfl (takes_of rfl rfl rfl rfl) T.x_BadRule rfl)) pss_nil)
  (pss_cons (ps_fld (pv 0) (pv 1) rfl)
  (pss_one (ps_fld (pv 0) (pv 2) rfl)))))
theorem ok_most_of {f : Addr} {fd : FuncData} (F : Fun Γ.K "most_of" "most_of" s_most_of f fd) (T : TX Γ mg) : FnOk P w Γ.K mg base CX0 1 f fd ["rule"] (sp_most_of Γ) := by
  have nd := sc_most_of.nd
  refine F.ok sc_most_of (fun vs H Q E h => ?_) (fun cdv A outer s H vs Q E hr h => ⟨t_most_of Γ, ?_, rd_most_of Γ T.rule vs H Q E h⟩)
  · repeat (first | (obtain ⟨rfl, _⟩ := h; rfl) | (obtain ⟨_, h⟩ := h))
  · have hu := hr.units
    exact (pss_one (ps_ret (pe_ifExp (pt_cmpR (op_eqU hu) (pe_fld (pv 0) rfl) pe_str (nomark _)) (pe_op op_addU (pe_callB call_len (by rfl) T.b_len (by decide +kernel) (pa_cons (pe_fld (pv 0) rfl) pa_nil)) pe_int) (pe_gint T.c_MOST_HEAP (by rfl)))))
theorem ok_raised {f : Addr} {fd : FuncData} (F : Fun Γ.K "raised" "raised" s_raised f fd) (T : TX Γ mg) : FnOk P w Γ.K mg base CX0 1 f fd ["base", "exponent"] (sp_raised Γ) := by
  have nd := sc_raised.nd
  refine F.ok sc_raised (fun vs H Q E h => ?_) (fun cdv A outer s H vs Q E hr h => ⟨t_raised Γ, ?_, rd_raised Γ  vs H Q E h⟩)
  · repeat (first | (obtain ⟨rfl, _⟩ := h; rfl) | (obtain ⟨_, h⟩ := h))
  · have hu := hr.units
    exact (pss_cons (ps_set (i := 2) nd rfl (Or.inl rfl) pe_int)
  (pss_cons (ps_for PassesOwn.never rfl (pi_range1 rfl T.b_range (pa_cons (pv 1) pa_nil)) (pg_name (i := 3) nd rfl (Or.inl rfl)) (pss_one (ps_set (i := 2) nd rfl (Or.inl rfl) (pe_op op_mulU (pv 2) (pv 0)))))
  (pss_one (ps_ret (pv 2)))))
theorem ok_points_by {f : Addr} {fd : FuncData} (F : Fun Γ.K "points_by" "points_by" s_points_by f fd) (T : TX Γ mg) (c_raised : Cal P w Γ.K mg base CX0 "raised" 1 ["base", "exponent"] (sp_raised Γ)) : FnOk P w Γ.K mg base CX0 2 f fd ["rule", "first", "second"] (sp_points_by Γ) := by
  have nd := sc_points_by.nd
  refine F.ok sc_points_by (fun vs H Q E h => ?_) (fun cdv A outer s H vs Q E hr h => ⟨t_points_by Γ, ?_, rd_points_by Γ T.rule vs H Q E h⟩)
  · repeat (first | (obtain ⟨rfl, _⟩ := h; rfl) | (obtain ⟨_, h⟩ := h))
  · have hu := hr.units
    exact (pss_cons (ps_if (pt_cmpR (op_eqU hu) (pe_fld (pv 0) rfl) pe_str (nomark _)) (pss_one (ps_ret (pe_ix ix_seq (pe_ix ix_seq (pe_fld (pv 0) rfl) (pe_op op_subU (pv 1) pe_int) (fun _ _ => rfl)) (pe_op op_subU (pv 2) pe_int) (fun _ _ => rfl)))) pss_nil)
  (pss_one (ps_ret (pe_callB (cr_sum rfl) (by rfl) T.b_sum (by decide +kernel) (pa_cons (pe_lc (own := [("number", 3), ("one", 4), ("other", 5)]) (g := (gTup Γ.K 3 (gCons (gName 3) (gCons (gName 4) (gCons (gName 5) gNil))))) (tt := tYes) rfl nd (pi_seq (pe_fld (pv 0) rfl)) (blkOk_by (N := N_points_by) (sc := (defScope s_points_by)) (own := [("number", 3), ("one", 4), ("other", 5)]) (by decide +kernel)) (fun _ _ _ _ _ => (pg_tup rfl (pgs_cons (pg_name (i := 3) nd rfl (Or.inl rfl)) (pgs_cons (pg_name (i := 4) nd rfl (Or.inl rfl)) (pgs_cons (pg_name (i := 5) nd rfl (Or.inl rfl)) pgs_nil))))) (fun _ _ _ _ _ => pts_nil) (fun _ _ _ _ _ => (pe_op op_mulU (pe_op op_mulU (pv 3) (pe_cal c_raised (hr.mono (by omega)) (by rfl) pass0 (pa_cons (pv 1) (pa_cons (pv 4) pa_nil)))) (pe_cal c_raised (hr.mono (by omega)) (by rfl) pass0 (pa_cons (pv 2) (pa_cons (pv 5) pa_nil)))))) pa_nil)))))
theorem ok_check_heap {f : Addr} {fd : FuncData} (F : Fun Γ.K "check_heap" "check_heap" s_check_heap f fd) (T : TX Γ mg) (c_is_from : Cal P w Γ.K mg base CX0 "is_from" 2 ["value", "low", "high"] (sp_is_from Γ)) (c_most_of : Cal P w Γ.K mg base CX0 "most_of" 1 ["rule"] (sp_most_of Γ)) : FnOk P w Γ.K mg base (L2.CX P w) 3 f fd ["rule", "heap", "most"] (sp_check_heap Γ) := by
  have nd := sc_check_heap.nd
  refine F.okX sc_check_heap (fun vs H Q E h => ?_) (fun cdv A outer s H vs Q E hr h => ⟨t_check_heap Γ E, ?_, rd_check_heap Γ  vs H Q E h⟩)
  · repeat (first | (obtain ⟨rfl, _⟩ := h; rfl) | (obtain ⟨_, h⟩ := h))
  · have hu := hr.units
    exact (pss_one (ps_if (pt_not (pt_val (pe_cal c_is_from (hr.mono (by omega)) (by rfl) pass0 (pa_cons (pv 1) (pa_cons pe_int (pa_cons (pe_callB (call_min2 rfl) (by rfl) T.b_min (by decide +kernel) (pa_cons (pv 2) (pa_cons (pe_cal c_most_of (hr.mono (by omega)) (by rfl) pass0 (pa_cons (pv 0) pa_nil)) pa_nil))) pa_nil)))))) (pss_one (ps_raise0 rfl (takes_of rfl rfl rfl rfl) T.x_BadHeap rfl)) pss_nil))
theorem ok_sums_by {f : Addr} {fd : FuncData} (F : Fun Γ.K "sums_by" "sums_by" s_sums_by f fd) (T : TX Γ mg) (c_points_by : Cal P w Γ.K mg base CX0 "points_by" 2 ["rule", "first", "second"] (sp_points_by Γ)) : FnOk P w Γ.K mg base CX0 3 f fd ["rule", "heap"] (sp_sums_by Γ) := by
  have nd := sc_sums_by.nd
  refine F.ok sc_sums_by (fun vs H Q E h => ?_) (fun cdv A outer s H vs Q E hr h => ⟨t_sums_by Γ, ?_, rd_sums_by Γ  vs H Q E h⟩)
  · repeat (first | (obtain ⟨rfl, _⟩ := h; rfl) | (obtain ⟨_, h⟩ := h))
  · have hu := hr.units
    exact (pss_cons (ps_set (i := 2) nd rfl (Or.inl rfl) (pe_lst (pa_cons pe_dnewK (pa_cons (pe_disp (pps_cons pe_int pe_int pps_nil) rfl rfl (by simp) (by decide)) pa_nil))))
  (pss_cons (ps_for PassesOwn.never rfl (pi_range2 rfl T.b_range (pa_cons pe_int (pa_cons (pe_op op_addU (pv 1) pe_int) pa_nil))) (pg_name (i := 3) nd rfl (Or.inl rfl)) (pss_cons (ps_set (i := 4) nd rfl (Or.inl rfl) pe_dnewK)
  (pss_cons (ps_for PassesOwn.never rfl (pi_range2 rfl T.b_range (pa_cons pe_int (pa_cons (pv 3) pa_nil))) (pg_name (i := 5) nd rfl (Or.inl rfl)) (pss_cons (ps_set (i := 6) nd rfl (Or.inl rfl) (pe_cal c_points_by (hr.mono (by omega)) (by rfl) pass0 (pa_cons (pv 0) (pa_cons (pv 5) (pa_cons (pe_op op_subU (pv 3) (pv 5)) pa_nil)))))
  (pss_one (ps_lockM (ps_for PassesOwn.never rfl (pi_items (pe_ix ix_seq (pv 2) (pv 5) (fun _ _ => rfl))) (pg_tup rfl (pgs_cons (pg_name (i := 7) nd rfl (Or.inl rfl)) (pgs_cons (pg_name (i := 8) nd rfl (Or.inl rfl)) pgs_nil))) (pss_one (ps_lockM (ps_for PassesOwn.never rfl (pi_items (pe_ix ix_seq (pv 2) (pe_op op_subU (pv 3) (pv 5)) (fun _ _ => rfl))) (pg_tup rfl (pgs_cons (pg_name (i := 9) nd rfl (Or.inl rfl)) (pgs_cons (pg_name (i := 10) nd rfl (Or.inl rfl)) pgs_nil))) (pss_cons (ps_set (i := 11) nd rfl (Or.inl rfl) (pe_op op_addU (pe_op op_addU (pv 7) (pv 9)) (pv 6)))
  (pss_one (ps_asg (pe_op op_addU (pe_dget2 (un1 hu) (pv 4) (pv 11) pe_int ⟨rfl, rfl, rfl, rfl⟩) (pe_op op_mulU (pv 8) (pv 10))) (pg_sub (pv 4) (pv 11) (set_dict (un1 hu))))))))))))))
  (pss_one (ps_expr (pe_bm PySem.F.plainAttrs_list PySem.F.slot_list_append PySem.F.type_list_append mt_append (pv 2) (pa_cons (pv 4) pa_nil)))))))
  (pss_one (ps_ret (pv 2)))))
theorem ok_all_sums {f : Addr} {fd : FuncData} (F : Fun Γ.K "all_sums" "all_sums" s_all_sums f fd) (T : TX Γ mg) (c_check_heap : Cal P w Γ.K mg base (L2.CX P w) "check_heap" 3 ["rule", "heap", "most"] (sp_check_heap Γ)) (c_sums_by : Cal P w Γ.K mg base CX0 "sums_by" 3 ["rule", "heap"] (sp_sums_by Γ)) : FnOk P w Γ.K mg base (L2.CX P w) 4 f fd ["rule", "heap"] (sp_all_sums Γ) := by
  have nd := sc_all_sums.nd
  refine F.okX sc_all_sums (fun vs H Q E h => ?_) (fun cdv A outer s H vs Q E hr h => ⟨t_all_sums Γ E, ?_, rd_all_sums Γ  vs H Q E h⟩)
  · repeat (first | (obtain ⟨rfl, _⟩ := h; rfl) | (obtain ⟨_, h⟩ := h))
  · have hu := hr.units
    exact (pss_cons (ps_expr (pe_cal c_check_heap (hr.mono (by omega)) (by rfl) (passes_call (takes_of rfl rfl rfl rfl) (fun _ _ _ _ z => z)) (pa_cons (pv 0) (pa_cons (pv 1) (pa_cons (pe_gint T.c_MOST_THINGS (by rfl)) pa_nil)))))
  (pss_cons (ps_if (pt_cmpR op_gtU (pv 1) (pe_gint T.c_MOST_SUMS (by rfl)) (nomark _)) (pss_one (ps_raise0 rfl (takes_of rfl rfl rfl rfl) T.x_TooGreat rfl)) pss_nil)
  (pss_cons (ps_set (i := 2) nd rfl (Or.inr rfl) (pe_ix ix_seq (pe_cal c_sums_by (hr.mono (by omega)) (by rfl) pass0 (pa_cons (pv 0) (pa_cons (pv 1) pa_nil))) (pv 1) (fun _ _ => rfl)))
  (pss_one (ps_ret (pe_lc (own := [("told", 3)]) (g := (gName 3)) (tt := tYes) rfl nd (pi_seq (pe_callB cr_sortedI (by rfl) T.b_sorted (by decide +kernel) (pa_cons (pe_callTy (call_list_dK rfl) (by rfl) T.b_list (by decide +kernel) (pa_cons (pv 2) pa_nil)) pa_nil))) (blkOk_by (N := N_all_sums) (sc := (defScope s_all_sums)) (own := [("told", 3)]) (by decide +kernel)) (fun _ _ _ _ _ => (pg_name (i := 3) nd rfl (Or.inl rfl))) (fun _ _ _ _ _ => pts_nil) (fun _ _ _ _ _ => (pe_tup (pa_cons (pv 3) (pa_cons (pe_dget (un1 hu) (pv 2) (pv 3) (fun _ _ => rfl)) pa_nil))))))))))
theorem ok__law_random {f : Addr} {fd : FuncData} (F : Fun Γ.K "_law_random" "_law_random" s__law_random f fd) (T : TX Γ mg) : FnOk P w Γ.K mg base CX0 1 f fd ["_law_script", "_law_salt"] (sp__law_random Γ) := by
  have nd := sc__law_random.nd
  refine F.ok sc__law_random (fun vs H Q E h => ?_) (fun cdv A outer s H vs Q E hr h => ⟨t__law_random Γ, ?_, rd__law_random Γ  vs H Q E h⟩)
  · repeat (first | (obtain ⟨rfl, _⟩ := h; rfl) | (obtain ⟨_, h⟩ := h))
  · have hu := hr.units
    exact (pss_shut DS (pss_cons (ps_set (i := 2) nd rfl (Or.inl rfl) (pv 1))
  (pss_cons (ps_for PassesOwn.never rfl (pi_seq (pv 0)) (pg_name (i := 3) nd rfl (Or.inl rfl)) (pss_one (ps_set (i := 2) nd rfl (Or.inl rfl) (pe_op op_modU (pe_callTy call_int1 (by rfl) T.b_int (by decide +kernel) (pa_cons (pe_op op_addU (pe_op op_mulU (pv 2) pe_int) (pe_callB call_abs (by rfl) T.b_abs (by decide +kernel) (pa_cons (pv 3) pa_nil))) pa_nil)) pe_int))))
  (pss_one (ps_ret (pe_op op_addU (pe_lst (pa_cons (pv 2) (pa_cons pe_int pa_nil))) (pe_lc (own := [("_law_cell", 3)]) (g := (gName 3)) (tt := (tTest (tOp rGe (tVar 3) (tOp rPowI (tC (.int 10)) (tC (.int 18)))))) rfl nd (pi_seq (pv 0)) (blkOk_by (N := N__law_random) (sc := (defScope s__law_random)) (own := [("_law_cell", 3)]) (by decide +kernel)) (fun _ _ _ _ _ => (pg_name (i := 3) nd rfl (Or.inl rfl))) (fun _ _ _ _ _ => pts_one (pt_cmpR op_geU (pv 3) (pe_op op_powU pe_int pe_int) (nomark _))) (fun _ _ _ _ _ => (pv 3)))))))))
theorem ok__law_below {f : Addr} {fd : FuncData} (F : Fun Γ.K "_law_below" "_law_below" s__law_below f fd) (T : TX Γ mg) : FnOk P w Γ.K mg base CX0 1 f fd ["_law_d", "_law_size"] (sp__law_below Γ) := by
  have nd := sc__law_below.nd
  refine F.ok sc__law_below (fun vs H Q E h => ?_) (fun cdv A outer s H vs Q E hr h => ⟨t__law_below Γ, ?_, rd__law_below Γ  vs H Q E h⟩)
  · repeat (first | (obtain ⟨rfl, _⟩ := h; rfl) | (obtain ⟨_, h⟩ := h))
  · have hu := hr.units
    exact (pss_open DS (pss_cut (ps_if (PW.pt (pw_and (pt_cmpR (op_eqU hu) (pe_ix ix_seq (pv 0) pe_int (fun _ _ => rfl)) pe_int (nomark _)) (pw_and1 (pt_cmpR op_gtU (pe_callB call_len (by rfl) T.b_len (by decide +kernel) (pa_cons (pv 0) pa_nil)) pe_int (nomark _))))) (pss_one (ps_asg (pe_bm PySem.F.plainAttrs_list PySem.F.slot_list_pop PySem.F.type_list_pop mt_popAt (pv 0) (pa_cons pe_int pa_nil)) (pg_sub (pv 0) pe_int set_list))) pss_nil)
  (pss_cons (ps_if (pt_cmpR op_gtU (pe_ix ix_seq (pv 0) pe_int (fun _ _ => rfl)) pe_int (nomark _)) (pss_cons (ps_set (i := 2) nd rfl (Or.inl rfl) (pe_op op_modU (pe_callTy call_int1 (by rfl) T.b_int (by decide +kernel) (pa_cons (pe_ix ix_seq (pv 0) pe_int (fun _ _ => rfl)) pa_nil)) (pv 1)))
  (pss_cons (ps_asg (pe_op op_divU (pe_ix ix_seq (pv 0) pe_int (fun _ _ => rfl)) (pv 1)) (pg_sub (pv 0) pe_int set_list))
  (pss_one (ps_ret (pv 2))))) pss_nil)
  (pss_cons (ps_asg (pe_op op_modU (pe_callTy call_int1 (by rfl) T.b_int (by decide +kernel) (pa_cons (pe_op op_addU (pe_op op_mulU (pe_ix ix_seq (pv 0) pe_int (fun _ _ => rfl)) pe_int) pe_int) pa_nil)) pe_int) (pg_sub (pv 0) pe_int set_list))
  (pss_one (ps_ret (pe_op op_modU (pe_callTy call_int1 (by rfl) T.b_int (by decide +kernel) (pa_cons (pe_op op_divU (pe_ix ix_seq (pv 0) pe_int (fun _ _ => rfl)) pe_int) pa_nil)) (pv 1))))))))
theorem ok__law_pick {f : Addr} {fd : FuncData} (F : Fun Γ.K "_law_pick" "_law_pick" s__law_pick f fd) (T : TX Γ mg) (c__law_below : Cal P w Γ.K mg base CX0 "_law_below" 1 ["_law_d", "_law_size"] (sp__law_below Γ)) : FnOk P w Γ.K mg base CX0 2 f fd ["_law_d", "_law_items"] (sp__law_pick Γ) := by
  have nd := sc__law_pick.nd
  refine F.ok sc__law_pick (fun vs H Q E h => ?_) (fun cdv A outer s H vs Q E hr h => ⟨t__law_pick Γ, ?_, rd__law_pick Γ  vs H Q E h⟩)
  · repeat (first | (obtain ⟨rfl, _⟩ := h; rfl) | (obtain ⟨_, h⟩ := h))
  · have hu := hr.units
    exact (pss_one (ps_ret (pe_ix ix_seq (pv 1) (pe_cal c__law_below (hr.mono (by omega)) (by rfl) pass0 (pa_cons (pv 0) (pa_cons (pe_callB call_len (by rfl) T.b_len (by decide +kernel) (pa_cons (pv 1) pa_nil)) pa_nil))) (fun _ _ => rfl))))
theorem ok__law_table {f : Addr} {fd : FuncData} (F : Fun Γ.K "_law_table" "_law_table" s__law_table f fd) (T : TX Γ mg) (c__law_below : Cal P w Γ.K mg base CX0 "_law_below" 1 ["_law_d", "_law_size"] (sp__law_below Γ)) : FnOk P w Γ.K mg base CX0 2 f fd ["_law_d", "_law_most"] (sp__law_table Γ) := by
  have nd := sc__law_table.nd
  refine F.ok sc__law_table (fun vs H Q E h => ?_) (fun cdv A outer s H vs Q E hr h => ⟨t__law_table Γ, ?_, rd__law_table Γ  vs H Q E h⟩)
  · repeat (first | (obtain ⟨rfl, _⟩ := h; rfl) | (obtain ⟨_, h⟩ := h))
  · have hu := hr.units
    exact (pss_cons (ps_par (i := 1) (j := 2) rfl nd rfl rfl (by decide) rfl rfl (pa_cons (pe_op op_addU pe_int (pe_cal c__law_below (hr.mono (by omega)) (by rfl) pass0 (pa_cons (pv 0) (pa_cons (pe_op op_subU (pv 1) pe_int) pa_nil)))) (pa_cons (pe_cal c__law_below (hr.mono (by omega)) (by rfl) pass0 (pa_cons (pv 0) (pa_cons pe_int pa_nil))) pa_nil)) (by rfl))
  (pss_cons (ps_set (i := 3) nd rfl (Or.inl rfl) (pe_op op_addU (pe_lst (pa_cons pe_int (pa_cons pe_int pa_nil))) (pe_lc (own := [("_law_k", 8)]) (g := (gName 8)) (tt := tYes) rfl nd (pi_range1 rfl T.b_range (pa_cons (pe_op op_subU (pv 1) pe_int) pa_nil)) (blkOk_by (N := N__law_table) (sc := (defScope s__law_table)) (own := [("_law_k", 8)]) (by decide +kernel)) (fun _ _ _ _ _ => (pg_name (i := 8) nd rfl (Or.inl rfl))) (fun _ _ _ _ _ => pts_nil) (fun _ _ _ _ _ => (pe_op op_subU (pe_cal c__law_below (hr.mono (by omega)) (by rfl) pass0 (pa_cons (pv 0) (pa_cons pe_int pa_nil))) pe_int)))))
  (pss_cons (ps_set (i := 4) nd rfl (Or.inl rfl) (pe_lst pa_nil))
  (pss_cons (ps_for PassesOwn.never rfl (pi_range2 rfl T.b_range (pa_cons pe_int (pa_cons (pv 1) pa_nil))) (pg_name (i := 5) nd rfl (Or.inl rfl)) (pss_cons (ps_set (i := 6) nd rfl (Or.inl rfl) (pe_lst pa_nil))
  (pss_cons (ps_for PassesOwn.never rfl (pi_range2 rfl T.b_range (pa_cons pe_int (pa_cons (pe_op op_addU (pe_op op_subU (pv 1) (pv 5)) pe_int) pa_nil))) (pg_name (i := 7) nd rfl (Or.inl rfl)) (pss_one (ps_expr (pe_bm PySem.F.plainAttrs_list PySem.F.slot_list_append PySem.F.type_list_append mt_append (pv 6) (pa_cons (pe_ifExp (pt_cmpR (op_eqU hu) (pv 2) pe_int (nomark _)) (pe_cal c__law_below (hr.mono (by omega)) (by rfl) pass0 (pa_cons (pv 0) (pa_cons pe_int pa_nil))) (pe_op op_subU (pe_op op_subU (pe_ix ix_seq (pv 3) (pe_op op_addU (pv 5) (pv 7)) (fun _ _ => rfl)) (pe_ix ix_seq (pv 3) (pv 5) (fun _ _ => rfl))) (pe_ix ix_seq (pv 3) (pv 7) (fun _ _ => rfl)))) pa_nil)))))
  (pss_one (ps_expr (pe_bm PySem.F.plainAttrs_list PySem.F.slot_list_append PySem.F.type_list_append mt_append (pv 4) (pa_cons (pv 6) pa_nil)))))))
  (pss_cut (ps_if (pt_cmpR (op_eqU hu) (pv 2) pe_int (nomark _)) (pss_cons (ps_set (i := 5) nd rfl (Or.inl rfl) (pe_cal c__law_below (hr.mono (by omega)) (by rfl) pass0 (pa_cons (pv 0) (pa_cons (pe_op op_subU (pv 1) pe_int) pa_nil))))
  (pss_one (ps_asg (pe_cal c__law_below (hr.mono (by omega)) (by rfl) pass0 (pa_cons (pv 0) (pa_cons pe_int pa_nil))) (pg_sub (pe_ix ix_seq (pv 4) (pv 5) (fun _ _ => rfl)) (pe_cal c__law_below (hr.mono (by omega)) (by rfl) pass0 (pa_cons (pv 0) (pa_cons (pe_callB call_len (by rfl) T.b_len (by decide +kernel) (pa_cons (pe_ix ix_seq (pv 4) (pv 5) (fun _ _ => rfl)) pa_nil)) pa_nil))) set_list)))) pss_nil)
  (pss_one (ps_ret (pe_callTy call_tuple_of (by rfl) T.b_tuple (by decide +kernel) (pa_cons (pe_lc (own := [("_law_row_here", 6)]) (g := (gName 6)) (tt := tYes) rfl nd (pi_seq (pv 4)) (blkOk_by (N := N__law_table) (sc := (defScope s__law_table)) (own := [("_law_row_here", 6)]) (by decide +kernel)) (fun _ _ _ _ _ => (pg_name (i := 6) nd rfl (Or.inl rfl))) (fun _ _ _ _ _ => pts_nil) (fun _ _ _ _ _ => (pe_callTy call_tuple_of (by rfl) T.b_tuple (by decide +kernel) (pa_cons (pv 6) pa_nil)))) pa_nil)))))))))
theorem ok__law_terms {f : Addr} {fd : FuncData} (F : Fun Γ.K "_law_terms" "_law_terms" s__law_terms f fd) (T : TX Γ mg) (c__law_below : Cal P w Γ.K mg base CX0 "_law_below" 1 ["_law_d", "_law_size"] (sp__law_below Γ)) (c__law_pick : Cal P w Γ.K mg base CX0 "_law_pick" 2 ["_law_d", "_law_items"] (sp__law_pick Γ)) : FnOk P w Γ.K mg base CX0 3 f fd ["_law_d"] (sp__law_terms Γ) := by
  have nd := sc__law_terms.nd
  refine F.ok sc__law_terms (fun vs H Q E h => ?_) (fun cdv A outer s H vs Q E hr h => ⟨t__law_terms Γ, ?_, rd__law_terms Γ  vs H Q E h⟩)
  · repeat (first | (obtain ⟨rfl, _⟩ := h; rfl) | (obtain ⟨_, h⟩ := h))
  · have hu := hr.units
    exact (pss_cons (ps_par (i := 1) (j := 2) rfl nd rfl rfl (by decide) rfl rfl (pa_cons (pe_cal c__law_pick (hr.mono (by omega)) (by rfl) pass0 (pa_cons (pv 0) (pa_cons (pe_lst (pa_cons pe_int (pa_cons (pe_un un_neg pe_int) (pa_cons pe_int (pa_cons pe_int (pa_cons pe_int pa_nil)))))) pa_nil))) (pa_cons (pe_cal c__law_below (hr.mono (by omega)) (by rfl) pass0 (pa_cons (pv 0) (pa_cons pe_int pa_nil))) pa_nil)) (by rfl))
  (pss_cons (ps_set (i := 3) nd rfl (Or.inl rfl) (pe_ix ix_seq (pe_lst (pa_cons (pe_tup pa_nil) (pa_cons (pe_tup (pa_cons (pe_tup (pa_cons (pv 1) (pa_cons pe_int (pa_cons pe_int pa_nil)))) pa_nil)) (pa_cons (pe_tup (pa_cons (pe_tup (pa_cons (pv 1) (pa_cons pe_int (pa_cons pe_int pa_nil)))) pa_nil)) (pa_cons (pe_tup (pa_cons (pe_tup (pa_cons (pe_op op_mulU pe_int (pv 1)) (pa_cons pe_int (pa_cons pe_int pa_nil)))) (pa_cons (pe_tup (pa_cons (pe_op op_mulU pe_int (pv 1)) (pa_cons pe_int (pa_cons pe_int pa_nil)))) pa_nil))) pa_nil))))) (pe_callB (call_min2 rfl) (by rfl) T.b_min (by decide +kernel) (pa_cons (pv 2) (pa_cons pe_int pa_nil))) (fun _ _ => rfl)))
  (pss_cut (ps_if (pt_cmpR (op_eqU hu) (pv 2) pe_int (nomark _)) (pss_one (ps_set (i := 3) nd rfl (Or.inl rfl) (pe_tup (pa_cons (pe_tup (pa_cons (pe_op op_mulU pe_int (pv 1)) (pa_cons pe_int (pa_cons pe_int pa_nil)))) (pa_cons (pe_tup (pa_cons (pe_op op_mulU pe_int (pv 1)) (pa_cons pe_int (pa_cons pe_int pa_nil)))) (pa_cons (pe_tup (pa_cons (pe_op op_mulU pe_int (pv 1)) (pa_cons pe_int (pa_cons pe_int pa_nil)))) pa_nil)))))) pss_nil)
  (pss_cut (ps_if (pt_cmpR (op_eqU hu) (pv 2) pe_int (nomark _)) (pss_one (ps_set (i := 3) nd rfl (Or.inl rfl) (pe_tup (pa_cons (pe_tup (pa_cons (pe_op op_mulU pe_int (pv 1)) (pa_cons pe_int (pa_cons pe_int pa_nil)))) (pa_cons (pe_tup (pa_cons (pe_op op_mulU pe_int (pv 1)) (pa_cons pe_int (pa_cons pe_int pa_nil)))) (pa_cons (pe_tup (pa_cons (pe_op op_mulU pe_int (pv 1)) (pa_cons pe_int (pa_cons pe_int pa_nil)))) (pa_cons (pe_tup (pa_cons (pe_op op_mulU pe_int (pv 1)) (pa_cons pe_int (pa_cons pe_int pa_nil)))) pa_nil))))))) pss_nil)
  (pss_cut (ps_if (PW.pt (pw_or (pt_cmpR (op_eqU hu) (pe_cal c__law_below (hr.mono (by omega)) (by rfl) pass0 (pa_cons (pv 0) (pa_cons pe_int pa_nil))) pe_int (nomark _)) (pw_or1 (pt_cmpR (op_eqU hu) (pv 2) pe_int (nomark _))))) (pss_one (ps_set (i := 3) nd rfl (Or.inl rfl) (pe_op op_addU (pv 3) (pe_tup (pa_cons (pe_tup (pa_cons (pe_op op_subU (pe_cal c__law_below (hr.mono (by omega)) (by rfl) pass0 (pa_cons (pv 0) (pa_cons pe_int pa_nil))) pe_int) (pa_cons (pe_cal c__law_below (hr.mono (by omega)) (by rfl) pass0 (pa_cons (pv 0) (pa_cons pe_int pa_nil))) (pa_cons (pe_cal c__law_below (hr.mono (by omega)) (by rfl) pass0 (pa_cons (pv 0) (pa_cons pe_int pa_nil))) pa_nil)))) pa_nil))))) pss_nil)
  (pss_cut (ps_if (pt_cmpR (op_eqU hu) (pe_cal c__law_below (hr.mono (by omega)) (by rfl) pass0 (pa_cons (pv 0) (pa_cons pe_int pa_nil))) pe_int (nomark _)) (pss_one (ps_set (i := 3) nd rfl (Or.inl rfl) (pe_op op_addU (pe_cal c__law_pick (hr.mono (by omega)) (by rfl) pass0 (pa_cons (pv 0) (pa_cons (pe_lst (pa_cons (pv 3) (pa_cons (pe_tup pa_nil) pa_nil))) pa_nil))) (pe_tup (pa_cons (pe_tup (pa_cons (pe_op op_mulU pe_int (pv 1)) (pa_cons pe_int (pa_cons pe_int pa_nil)))) (pa_cons (pe_tup (pa_cons (pe_op op_mulU (pe_un un_neg pe_int) (pv 1)) (pa_cons pe_int (pa_cons pe_int pa_nil)))) pa_nil)))))) pss_nil)
  (pss_one (ps_ret (pe_slice sl_U (pv 3) po_none (po_some pe_int))))))))))
theorem ok__law_rule {f : Addr} {fd : FuncData} (F : Fun Γ.K "_law_rule" "_law_rule" s__law_rule f fd) (T : TX Γ mg) (c_RuleU_initU : CalC P w Γ.K mg base (L2.CX P w) Γ.cRule "Rule" 5 ["self", "kind", "parts"] (sp_RuleU_initU Γ)) (c__law_below : Cal P w Γ.K mg base CX0 "_law_below" 1 ["_law_d", "_law_size"] (sp__law_below Γ)) (c__law_table : Cal P w Γ.K mg base CX0 "_law_table" 2 ["_law_d", "_law_most"] (sp__law_table Γ)) (c__law_terms : Cal P w Γ.K mg base CX0 "_law_terms" 3 ["_law_d"] (sp__law_terms Γ)) : FnOk P w Γ.K mg base CX0 7 f fd ["_law_d", "_law_most"] (sp__law_rule Γ) := by
  have nd := sc__law_rule.nd
  refine F.ok sc__law_rule (fun vs H Q E h => ?_) (fun cdv A outer s H vs Q E hr h => ⟨t__law_rule Γ, ?_, rd__law_rule Γ  vs H Q E h⟩)
  · repeat (first | (obtain ⟨rfl, _⟩ := h; rfl) | (obtain ⟨_, h⟩ := h))
  · have hu := hr.units
    exact (pss_cons (ps_if (pt_cmpR (op_eqU hu) (pe_cal c__law_below (hr.mono (by omega)) (by rfl) pass0 (pa_cons (pv 0) (pa_cons pe_int pa_nil))) pe_int (nomark _)) (pss_one (ps_ret (pe_mak c_RuleU_initU (hr.mono (by omega)) (by rfl) passL (pa_cons pe_str (pa_cons (pe_cal c__law_table (hr.mono (by omega)) (by rfl) pass0 (pa_cons (pv 0) (pa_cons (pv 1) pa_nil))) pa_nil))))) pss_nil)
  (pss_one (ps_ret (pe_mak c_RuleU_initU (hr.mono (by omega)) (by rfl) passL (pa_cons pe_str (pa_cons (pe_cal c__law_terms (hr.mono (by omega)) (by rfl) pass0 (pa_cons (pv 0) pa_nil)) pa_nil))))))
theorem ok__law_top {f : Addr} {fd : FuncData} (F : Fun Γ.K "_law_top" "_law_top" s__law_top f fd) (T : TX Γ mg) (p_Rule_kind : CalP P w Γ.K mg base Γ.cRule "kind" "form" 1) (p_Rule_parts : CalP P w Γ.K mg base Γ.cRule "parts" "body" 1) : FnOk P w Γ.K mg base CX0 3 f fd ["_law_rule_here", "_law_most"] (sp__law_top Γ) := by
  have nd := sc__law_top.nd
  refine F.ok sc__law_top (fun vs H Q E h => ?_) (fun cdv A outer s H vs Q E hr h => ⟨t__law_top Γ, ?_, rd__law_top Γ  vs H Q E h⟩)
  · repeat (first | (obtain ⟨rfl, _⟩ := h; rfl) | (obtain ⟨_, h⟩ := h))
  · have hu := hr.units
    exact (pss_one (ps_ret (pe_ifExp (pt_cmpR (op_eqU hu) (pe_prp p_Rule_kind (hr.mono (by omega)) (pv 0) rfl) pe_str (nomark _)) (pe_callB (cr_min rfl) (by rfl) T.b_min (by decide +kernel) (pa_cons (pe_lst (pa_cons (pv 1) (pa_cons (pe_op op_addU (pe_callB call_len (by rfl) T.b_len (by decide +kernel) (pa_cons (pe_prp p_Rule_parts (hr.mono (by omega)) (pv 0) rfl) pa_nil)) pe_int) pa_nil))) pa_nil)) (pv 1))))
theorem ok__law_equal {f : Addr} {fd : FuncData} (F : Fun Γ.K "_law_equal" "_law_equal" s__law_equal f fd) (T : TX Γ mg) (hm : mg "_law_equal" = some (.ref f)) : ∀ n : Nat, FnOk P w Γ.K mg base CX0 (1 + n) f fd ["_law_actual", "_law_expected"] (spn__law_equal Γ n)
  | 0 => by
    have nd := sc__law_equal.nd
    refine F.ok (k := 0) sc__law_equal (fun vs H Q E h => ?_) (fun cdv A outer s H vs Q E hr h => (rd0__law_equal Γ  vs H Q E h).elim)
    repeat (first | (obtain ⟨rfl, _⟩ := h; rfl) | (obtain ⟨_, h⟩ := h))
  | n + 1 => by
    have nd := sc__law_equal.nd
    have c__law_equal : Cal P w Γ.K mg base CX0 "_law_equal" (1 + n) ["_law_actual", "_law_expected"] (spn__law_equal Γ n) := ⟨f, fd, ok__law_equal F T hm  n, hm, F.kp, b__law_equal F⟩
    refine F.ok (k := 1 + n) sc__law_equal (fun vs H Q E h => ?_) (fun cdv A outer s H vs Q E hr h => ⟨t__law_equal Γ n, ?_, rd__law_equal Γ  n vs H Q E h⟩)
    · repeat (first | (obtain ⟨rfl, _⟩ := h; rfl) | (obtain ⟨_, h⟩ := h))
    · have hu := hr.units
      exact (pss_cons (ps_if (pt_cmpR op_isU (pv 1) pe_non (nomark _)) (pss_one (ps_ret (pe_cmpR op_isU (pv 0) pe_non (nomark _)))) pss_nil)
  (pss_cons (ps_if (pt_val (pe_callB call_isi (by rfl) T.b_isinstance (by decide +kernel) (pa_cons (pv 1) (pa_cons (pe_bltn (by rfl) T.b_bool (by decide +kernel) (v := .ty "bool") rfl) pa_nil)))) (pss_one (ps_ret (pe_and (pe_callB call_isi (by rfl) T.b_isinstance (by decide +kernel) (pa_cons (pv 0) (pa_cons (pe_bltn (by rfl) T.b_bool (by decide +kernel) (v := .ty "bool") rfl) pa_nil))) (pe_one (pe_cmpR (op_eqU hu) (pv 0) (pv 1) (nomark _)))))) pss_nil)
  (pss_cons (ps_if (pt_val (pe_callB call_isi (by rfl) T.b_isinstance (by decide +kernel) (pa_cons (pv 1) (pa_cons (pe_bltn (by rfl) T.b_int (by decide +kernel) (v := .ty "int") rfl) pa_nil)))) (pss_one (ps_ret (pe_and (pe_callB call_isi (by rfl) T.b_isinstance (by decide +kernel) (pa_cons (pv 0) (pa_cons (pe_bltn (by rfl) T.b_int (by decide +kernel) (v := .ty "int") rfl) pa_nil))) (pe_and (pe_not (pe_callB call_isi (by rfl) T.b_isinstance (by decide +kernel) (pa_cons (pv 0) (pa_cons (pe_bltn (by rfl) T.b_bool (by decide +kernel) (v := .ty "bool") rfl) pa_nil)))) (pe_one (pe_cmpR (op_eqU hu) (pv 0) (pv 1) (nomark _))))))) pss_nil)
  (pss_cons (ps_if (pt_val (pe_callB call_isi (by rfl) T.b_isinstance (by decide +kernel) (pa_cons (pv 1) (pa_cons (pe_bltn (by rfl) T.b_str (by decide +kernel) (v := .ty "str") rfl) pa_nil)))) (pss_one (ps_ret (pe_and (pe_callB call_isi (by rfl) T.b_isinstance (by decide +kernel) (pa_cons (pv 0) (pa_cons (pe_bltn (by rfl) T.b_str (by decide +kernel) (v := .ty "str") rfl) pa_nil))) (pe_one (pe_cmpR (op_eqU hu) (pv 0) (pv 1) (nomark _)))))) pss_nil)
  (pss_cons (ps_if (pt_val (pe_callB call_isi (by rfl) T.b_isinstance (by decide +kernel) (pa_cons (pv 1) (pa_cons (pe_bltn (by rfl) T.b_dict (by decide +kernel) (v := .ty "dict") rfl) pa_nil)))) pss_never pss_nil)
  (pss_cons (ps_if (pt_cmpR (op_neU hu) (pe_callB call_isi (by rfl) T.b_isinstance (by decide +kernel) (pa_cons (pv 1) (pa_cons (pe_bltn (by rfl) T.b_tuple (by decide +kernel) (v := .ty "tuple") rfl) pa_nil))) (pe_callB call_isi (by rfl) T.b_isinstance (by decide +kernel) (pa_cons (pv 0) (pa_cons (pe_bltn (by rfl) T.b_tuple (by decide +kernel) (v := .ty "tuple") rfl) pa_nil))) (nomark _)) (pss_one (ps_ret pe_bl)) pss_nil)
  (pss_cons (ps_if (pt_cmpR (op_neU hu) (pe_callB call_isi (by rfl) T.b_isinstance (by decide +kernel) (pa_cons (pv 1) (pa_cons (pe_bltn (by rfl) T.b_list (by decide +kernel) (v := .ty "list") rfl) pa_nil))) (pe_callB call_isi (by rfl) T.b_isinstance (by decide +kernel) (pa_cons (pv 0) (pa_cons (pe_bltn (by rfl) T.b_list (by decide +kernel) (v := .ty "list") rfl) pa_nil))) (nomark _)) (pss_one (ps_ret pe_bl)) pss_nil)
  (pss_cons (ps_if (pt_cmpR (op_neU hu) (pe_callB call_len (by rfl) T.b_len (by decide +kernel) (pa_cons (pv 0) pa_nil)) (pe_callB call_len (by rfl) T.b_len (by decide +kernel) (pa_cons (pv 1) pa_nil)) (nomark _)) (pss_one (ps_ret pe_bl)) pss_nil)
  (pss_one (ps_ret (pe_callB (cr_all rfl) (by rfl) T.b_all (by decide +kernel) (pa_cons (pe_lc (own := [("_law_k", 3)]) (g := (gName 3)) (tt := tYes) rfl nd (pi_range1 rfl T.b_range (pa_cons (pe_callB call_len (by rfl) T.b_len (by decide +kernel) (pa_cons (pv 1) pa_nil)) pa_nil)) (blkOk_by (N := N__law_equal) (sc := (defScope s__law_equal)) (own := [("_law_k", 3)]) (by decide +kernel)) (fun _ _ _ _ _ => (pg_name (i := 3) nd rfl (Or.inl rfl))) (fun _ _ _ _ _ => pts_nil) (fun _ _ _ _ _ => (pe_cal c__law_equal (hr.mono (by omega)) (by rfl) pass0 (pa_cons (pe_ix ix_seq (pv 0) (pv 3) (fun _ _ => rfl)) (pa_cons (pe_ix ix_seq (pv 1) (pv 3) (fun _ _ => rfl)) pa_nil))))) pa_nil))))))))))))
theorem ok__law_points {f : Addr} {fd : FuncData} (F : Fun Γ.K "_law_points" "_law_points" s__law_points f fd) (T : TX Γ mg) (p_Rule_kind : CalP P w Γ.K mg base Γ.cRule "kind" "form" 1) (p_Rule_parts : CalP P w Γ.K mg base Γ.cRule "parts" "body" 1) : FnOk P w Γ.K mg base CX0 3 f fd ["_law_rule_here", "_law_one", "_law_other"] (sp__law_points Γ) := by
  have nd := sc__law_points.nd
  refine F.ok sc__law_points (fun vs H Q E h => ?_) (fun cdv A outer s H vs Q E hr h => ⟨t__law_points Γ, ?_, rd__law_points Γ  vs H Q E h⟩)
  · repeat (first | (obtain ⟨rfl, _⟩ := h; rfl) | (obtain ⟨_, h⟩ := h))
  · have hu := hr.units
    exact (pss_cons (ps_if (pt_cmpR (op_eqU hu) (pe_prp p_Rule_kind (hr.mono (by omega)) (pv 0) rfl) pe_str (nomark _)) (pss_one (ps_ret (pe_ix ix_seq (pe_ix ix_seq (pe_prp p_Rule_parts (hr.mono (by omega)) (pv 0) rfl) (pe_op op_subU (pv 1) pe_int) (fun _ _ => rfl)) (pe_op op_subU (pv 2) pe_int) (fun _ _ => rfl)))) pss_nil)
  (pss_cons (ps_set (i := 3) nd rfl (Or.inl rfl) pe_int)
  (pss_cons (ps_for PassesOwn.never rfl (pi_seq (pe_prp p_Rule_parts (hr.mono (by omega)) (pv 0) rfl)) (pg_tup rfl (pgs_cons (pg_name (i := 4) nd rfl (Or.inl rfl)) (pgs_cons (pg_name (i := 5) nd rfl (Or.inl rfl)) (pgs_cons (pg_name (i := 6) nd rfl (Or.inl rfl)) pgs_nil)))) (pss_cons (ps_for PassesOwn.never rfl (pi_range1 rfl T.b_range (pa_cons (pv 5) pa_nil)) (pg_name (i := 7) nd rfl (Or.inl rfl)) (pss_one (ps_set (i := 4) nd rfl (Or.inl rfl) (pe_op op_mulU (pv 4) (pv 1)))))
  (pss_cons (ps_for PassesOwn.never rfl (pi_range1 rfl T.b_range (pa_cons (pv 6) pa_nil)) (pg_name (i := 7) nd rfl (Or.inl rfl)) (pss_one (ps_set (i := 4) nd rfl (Or.inl rfl) (pe_op op_mulU (pv 4) (pv 2)))))
  (pss_one (ps_set (i := 3) nd rfl (Or.inl rfl) (pe_op op_addU (pv 3) (pv 4)))))))
  (pss_one (ps_ret (pv 3))))))
theorem ok__law_ways {f : Addr} {fd : FuncData} (F : Fun Γ.K "_law_ways" "_law_ways" s__law_ways f fd) (T : TX Γ mg) : FnOk P w Γ.K mg base CX0 1 f fd ["_law_heap"] (sp__law_ways Γ) := by
  have nd := sc__law_ways.nd
  refine F.ok sc__law_ways (fun vs H Q E h => ?_) (fun cdv A outer s H vs Q E hr h => ⟨t__law_ways Γ, ?_, rd__law_ways Γ  vs H Q E h⟩)
  · repeat (first | (obtain ⟨rfl, _⟩ := h; rfl) | (obtain ⟨_, h⟩ := h))
  · have hu := hr.units
    exact (pss_cons (ps_set (i := 1) nd rfl (Or.inl rfl) (pe_lst (pa_cons (pe_lst pa_nil) (pa_cons (pe_lst (pa_cons pe_int pa_nil)) pa_nil))))
  (pss_cons (ps_for PassesOwn.never rfl (pi_range2 rfl T.b_range (pa_cons pe_int (pa_cons (pe_op op_addU (pv 0) pe_int) pa_nil))) (pg_name (i := 2) nd rfl (Or.inl rfl)) (pss_cons (ps_set (i := 3) nd rfl (Or.inl rfl) (pe_lst pa_nil))
  (pss_cons (ps_for PassesOwn.never rfl (pi_range2 rfl T.b_range (pa_cons pe_int (pa_cons (pv 2) pa_nil))) (pg_name (i := 4) nd rfl (Or.inl rfl)) (pss_one (ps_for PassesOwn.never rfl (pi_seq (pe_ix ix_seq (pv 1) (pv 4) (fun _ _ => rfl))) (pg_name (i := 5) nd rfl (Or.inr rfl)) (pss_one (ps_set (i := 3) nd rfl (Or.inl rfl) (pe_op op_addU (pv 3) (pe_lc (own := [("_law_right", 6)]) (g := (gName 6)) (tt := tYes) rfl nd (pi_seq (pe_ix ix_seq (pv 1) (pe_op op_subU (pv 2) (pv 4)) (fun _ _ => rfl))) (blkOk_by (N := N__law_ways) (sc := (defScope s__law_ways)) (own := [("_law_right", 6)]) (by decide +kernel)) (fun _ _ _ _ _ => (pg_name (i := 6) nd rfl (Or.inl rfl))) (fun _ _ _ _ _ => pts_nil) (fun _ _ _ _ _ => (pe_tup (pa_cons (pv 5) (pa_cons (pv 6) pa_nil)))))))))))
  (pss_one (ps_expr (pe_bm PySem.F.plainAttrs_list PySem.F.slot_list_append PySem.F.type_list_append mt_append (pv 1) (pa_cons (pv 3) pa_nil)))))))
  (pss_one (ps_ret (pe_ix ix_seq (pv 1) (pv 0) (fun _ _ => rfl))))))
theorem ok__law_things {f : Addr} {fd : FuncData} (F : Fun Γ.K "_law_things" "_law_things" s__law_things f fd) (T : TX Γ mg) (hm : mg "_law_things" = some (.ref f)) : ∀ n : Nat, FnOk P w Γ.K mg base CX0 (1 + n) f fd ["_law_way_here"] (spn__law_things Γ n)
  | 0 => by
    have nd := sc__law_things.nd
    refine F.ok (k := 0) sc__law_things (fun vs H Q E h => ?_) (fun cdv A outer s H vs Q E hr h => (rd0__law_things Γ  vs H Q E h).elim)
    repeat (first | (obtain ⟨rfl, _⟩ := h; rfl) | (obtain ⟨_, h⟩ := h))
  | n + 1 => by
    have nd := sc__law_things.nd
    have c__law_things : Cal P w Γ.K mg base CX0 "_law_things" (1 + n) ["_law_way_here"] (spn__law_things Γ n) := ⟨f, fd, ok__law_things F T hm  n, hm, F.kp, b__law_things F⟩
    refine F.ok (k := 1 + n) sc__law_things (fun vs H Q E h => ?_) (fun cdv A outer s H vs Q E hr h => ⟨t__law_things Γ n, ?_, rd__law_things Γ  n vs H Q E h⟩)
    · repeat (first | (obtain ⟨rfl, _⟩ := h; rfl) | (obtain ⟨_, h⟩ := h))
    · have hu := hr.units
      exact (pss_one (ps_ret (pe_ifExp (pt_val (pe_callB call_isi (by rfl) T.b_isinstance (by decide +kernel) (pa_cons (pv 0) (pa_cons (pe_bltn (by rfl) T.b_tuple (by decide +kernel) (v := .ty "tuple") rfl) pa_nil)))) (pe_op op_addU (pe_cal c__law_things (hr.mono (by omega)) (by rfl) pass0 (pa_cons (pe_ix ix_seq (pv 0) pe_int (fun _ _ => rfl)) pa_nil)) (pe_cal c__law_things (hr.mono (by omega)) (by rfl) pass0 (pa_cons (pe_ix ix_seq (pv 0) pe_int (fun _ _ => rfl)) pa_nil))) pe_int)))
theorem ok__law_row {f : Addr} {fd : FuncData} (F : Fun Γ.K "_law_row" "_law_row" s__law_row f fd) (T : TX Γ mg) (hm : mg "_law_row" = some (.ref f)) (c__law_points : Cal P w Γ.K mg base CX0 "_law_points" 3 ["_law_rule_here", "_law_one", "_law_other"] (sp__law_points Γ)) (c__law_things : Cal P w Γ.K mg base CX0 "_law_things" 46 ["_law_way_here"] (sp__law_things Γ)) : ∀ n : Nat, FnOk P w Γ.K mg base CX0 (47 + n) f fd ["_law_rule_here", "_law_way_here"] (spn__law_row Γ n)
  | 0 => by
    have nd := sc__law_row.nd
    refine F.ok (k := 46) sc__law_row (fun vs H Q E h => ?_) (fun cdv A outer s H vs Q E hr h => (rd0__law_row Γ  vs H Q E h).elim)
    repeat (first | (obtain ⟨rfl, _⟩ := h; rfl) | (obtain ⟨_, h⟩ := h))
  | n + 1 => by
    have nd := sc__law_row.nd
    have c__law_row : Cal P w Γ.K mg base CX0 "_law_row" (47 + n) ["_law_rule_here", "_law_way_here"] (spn__law_row Γ n) := ⟨f, fd, ok__law_row F T hm c__law_points c__law_things n, hm, F.kp, b__law_row F⟩
    refine F.ok (k := 47 + n) sc__law_row (fun vs H Q E h => ?_) (fun cdv A outer s H vs Q E hr h => ⟨t__law_row Γ n, ?_, rd__law_row Γ  n vs H Q E h⟩)
    · repeat (first | (obtain ⟨rfl, _⟩ := h; rfl) | (obtain ⟨_, h⟩ := h))
    · have hu := hr.units
      exact (pss_cons (ps_if (pt_not (pt_val (pe_callB call_isi (by rfl) T.b_isinstance (by decide +kernel) (pa_cons (pv 1) (pa_cons (pe_bltn (by rfl) T.b_tuple (by decide +kernel) (v := .ty "tuple") rfl) pa_nil))))) (pss_one (ps_ret (pe_lst pa_nil))) pss_nil)
  (pss_cons (ps_set (i := 2) nd rfl (Or.inl rfl) (pe_lst (pa_cons (pe_cal c__law_points (hr.mono (by omega)) (by rfl) pass0 (pa_cons (pv 0) (pa_cons (pe_cal c__law_things (hr.mono (by omega)) (by rfl) pass0 (pa_cons (pe_ix ix_seq (pv 1) pe_int (fun _ _ => rfl)) pa_nil)) (pa_cons (pe_cal c__law_things (hr.mono (by omega)) (by rfl) pass0 (pa_cons (pe_ix ix_seq (pv 1) pe_int (fun _ _ => rfl)) pa_nil)) pa_nil)))) pa_nil)))
  (pss_one (ps_ret (pe_op op_addU (pe_op op_addU (pv 2) (pe_cal c__law_row (hr.mono (by omega)) (by rfl) pass0 (pa_cons (pv 0) (pa_cons (pe_ix ix_seq (pv 1) pe_int (fun _ _ => rfl)) pa_nil)))) (pe_cal c__law_row (hr.mono (by omega)) (by rfl) pass0 (pa_cons (pv 0) (pa_cons (pe_ix ix_seq (pv 1) pe_int (fun _ _ => rfl)) pa_nil))))))))
theorem ok__law_told {f : Addr} {fd : FuncData} (F : Fun Γ.K "_law_told" "_law_told" s__law_told f fd) (T : TX Γ mg) (c_all_sums : Cal P w Γ.K mg base (L2.CX P w) "all_sums" 4 ["rule", "heap"] (sp_all_sums Γ)) : FnOk P w Γ.K mg base CX0 5 f fd ["_law_rule_here", "_law_heap"] (sp__law_told Γ) := by
  have nd := sc__law_told.nd
  refine F.ok sc__law_told (fun vs H Q E h => ?_) (fun cdv A outer s H vs Q E hr h => ⟨t__law_told_k12 Γ, ?_, rd__law_told_k12 Γ ⟨T.e_TooGreat_TooGreat⟩ vs H Q E h⟩)
  · repeat (first | (obtain ⟨rfl, _⟩ := h; rfl) | (obtain ⟨_, h⟩ := h))
  · have hu := hr.units
    exact (pss_cons (ps_set (i := 2) nd rfl (Or.inl rfl) pe_bl)
  (pss_cons (ps_try_only (tb := fun W => (tDrop (tCalS (sp_all_sums Γ) (WE' W) (tCons (tVar 0) (tCons (tVar 1) tNil))))) (ts := fun _ _ _ => (tAsg (tC (.bl true)) (gName 2))) (Wout := fun _ _ _ _ => False) rfl rfl ⟨rfl, by decide, .inl T.x_TooGreat.g⟩ takes0 (fun W pn xe tk px => (pss_one (ps_expr (pe_calS c_all_sums (hr.mono (by omega)) (by rfl) (fun σ => passAt' tk σ) (pa_cons (pv 0) (pa_cons (pv 1) pa_nil)))))) (fun a oe cls d pn _ _ => (pss_one (ps_set (i := 2) nd rfl (Or.inl rfl) pe_bl))))
  (pss_one (ps_ret (pv 2)))))
theorem ok_law {f : Addr} {fd : FuncData} (F : Fun Γ.K "law" "law" s_law f fd) (T : TX Γ mg) (c_RuleU_initU : CalC P w Γ.K mg base (L2.CX P w) Γ.cRule "Rule" 5 ["self", "kind", "parts"] (sp_RuleU_initU Γ)) (c__law_below : Cal P w Γ.K mg base CX0 "_law_below" 1 ["_law_d", "_law_size"] (sp__law_below Γ)) (c__law_equal : Cal P w Γ.K mg base CX0 "_law_equal" 46 ["_law_actual", "_law_expected"] (sp__law_equal Γ)) (c__law_random : Cal P w Γ.K mg base CX0 "_law_random" 1 ["_law_script", "_law_salt"] (sp__law_random Γ)) (c__law_row : Cal P w Γ.K mg base CX0 "_law_row" 92 ["_law_rule_here", "_law_way_here"] (sp__law_row Γ)) (c__law_rule : Cal P w Γ.K mg base CX0 "_law_rule" 7 ["_law_d", "_law_most"] (sp__law_rule Γ)) (c__law_terms : Cal P w Γ.K mg base CX0 "_law_terms" 3 ["_law_d"] (sp__law_terms Γ)) (c__law_told : Cal P w Γ.K mg base CX0 "_law_told" 5 ["_law_rule_here", "_law_heap"] (sp__law_told Γ)) (c__law_top : Cal P w Γ.K mg base CX0 "_law_top" 3 ["_law_rule_here", "_law_most"] (sp__law_top Γ)) (c__law_ways : Cal P w Γ.K mg base CX0 "_law_ways" 1 ["_law_heap"] (sp__law_ways Γ)) (c_all_sums : Cal P w Γ.K mg base (L2.CX P w) "all_sums" 4 ["rule", "heap"] (sp_all_sums Γ)) : FnOk P w Γ.K mg base CX0 93 f fd ["_law_script"] (spLaw Γ.K) := by
  have nd := sc_law.nd
  refine F.ok sc_law (fun vs H Q E h => ?_) (fun cdv A outer s H vs Q E hr h => ⟨t_law_k12 Γ, ?_, rd_law_k12 Γ  vs H Q E h⟩)
  · repeat (first | (obtain ⟨rfl, _⟩ := h; rfl) | (obtain ⟨_, h⟩ := h))
  · have hu := hr.units
    exact (pss_cons (ps_set (i := 1) nd rfl (Or.inl rfl) (pe_cal c__law_random (hr.mono (by omega)) (by rfl) pass0 (pa_cons (pv 0) (pa_cons pe_int pa_nil))))
  (pss_cons (ps_for PassesOwn.never rfl (pi_range1 rfl T.b_range (pa_cons pe_int pa_nil)) (pg_name (i := 2) nd rfl (Or.inl rfl)) (pss_cons (ps_set (i := 3) nd rfl (Or.inr rfl) (pe_cal c__law_rule (hr.mono (by omega)) (by rfl) pass0 (pa_cons (pv 1) (pa_cons pe_int pa_nil))))
  (pss_cons (ps_set (i := 4) nd rfl (Or.inl rfl) (pe_op op_addU pe_int (pe_cal c__law_below (hr.mono (by omega)) (by rfl) pass0 (pa_cons (pv 1) (pa_cons (pe_cal c__law_top (hr.mono (by omega)) (by rfl) pass0 (pa_cons (pv 3) (pa_cons pe_int pa_nil))) pa_nil)))))
  (pss_cons (ps_set (i := 5) nd rfl (Or.inr rfl) (pe_lc (own := [("_law_way_here", 7)]) (g := (gName 7)) (tt := tYes) rfl nd (pi_seq (pe_cal c__law_ways (hr.mono (by omega)) (by rfl) pass0 (pa_cons (pv 4) pa_nil))) (blkOk_by (N := N_law) (sc := (defScope s_law)) (own := [("_law_way_here", 7)]) (by decide +kernel)) (fun _ _ _ _ _ => (pg_name (i := 7) nd rfl (Or.inl rfl))) (fun _ _ _ _ _ => pts_nil) (fun _ _ _ _ _ => (pe_callB (cr_sum rfl) (by rfl) T.b_sum (by decide +kernel) (pa_cons (pe_cal c__law_row (hr.mono (by omega)) (by rfl) pass0 (pa_cons (pv 3) (pa_cons (pv 7) pa_nil))) pa_nil)))))
  (pss_one (ps_if (pt_not (pt_val (pe_cal c__law_equal (hr.mono (by omega)) (by rfl) pass0 (pa_cons (pe_cal c_all_sums (hr.mono (by omega)) (by rfl) passL (pa_cons (pv 3) (pa_cons (pv 4) pa_nil))) (pa_cons (pe_lc (own := [("_law_told_here", 6)]) (g := (gName 6)) (tt := tYes) rfl nd (pi_seq (pe_srtSet rfl (by rfl) T.b_sorted (by rfl) T.b_set (pv 5))) (blkOk_by (N := N_law) (sc := (defScope s_law)) (own := [("_law_told_here", 6)]) (by decide +kernel)) (fun _ _ _ _ _ => (pg_name (i := 6) nd rfl (Or.inl rfl))) (fun _ _ _ _ _ => pts_nil) (fun _ _ _ _ _ => (pe_tup (pa_cons (pv 6) (pa_cons (pe_bm PySem.F.plainAttrs_list PySem.F.slot_list_count PySem.F.type_list_count mt_lcount (pv 5) (pa_cons (pv 6) pa_nil)) pa_nil))))) pa_nil))))) (pss_one (ps_ret pe_bl)) pss_nil))))))
  (pss_cons (ps_set (i := 3) nd rfl (Or.inr rfl) (pe_mak c_RuleU_initU (hr.mono (by omega)) (by rfl) passL (pa_cons pe_str (pa_cons (pe_cal c__law_terms (hr.mono (by omega)) (by rfl) pass0 (pa_cons (pv 1) pa_nil)) pa_nil))))
  (pss_cons (ps_set (i := 6) nd rfl (Or.inl rfl) (pe_cal c_all_sums (hr.mono (by omega)) (by rfl) passL (pa_cons (pv 3) (pa_cons pe_int pa_nil))))
  (pss_cons (ps_if (PW.pt (pw_or (pt_cmpR (op_neU hu) (pe_callB (cr_sum rfl) (by rfl) T.b_sum (by decide +kernel) (pa_cons (pe_lc (own := [("_law_points_so", 8), ("_law_many", 9)]) (g := (gTup Γ.K 2 (gCons (gName 8) (gCons (gName 9) gNil)))) (tt := tYes) rfl nd (pi_seq (pv 6)) (blkOk_by (N := N_law) (sc := (defScope s_law)) (own := [("_law_points_so", 8), ("_law_many", 9)]) (by decide +kernel)) (fun _ _ _ _ _ => (pg_tup rfl (pgs_cons (pg_name (i := 8) nd rfl (Or.inl rfl)) (pgs_cons (pg_name (i := 9) nd rfl (Or.inl rfl)) pgs_nil)))) (fun _ _ _ _ _ => pts_nil) (fun _ _ _ _ _ => (pv 9))) pa_nil)) pe_int (nomark _)) (pw_or1 (pt_cmpR (op_neU hu) (pv 6) (pe_callB cr_sortedPO (by rfl) T.b_sorted (by decide +kernel) (pa_cons (pv 6) pa_nil)) (nomark _))))) (pss_one (ps_ret pe_bl)) pss_nil)
  (pss_one (ps_ret (pe_and (pe_cal c__law_told (hr.mono (by omega)) (by rfl) pass0 (pa_cons (pv 3) (pa_cons pe_int pa_nil))) (pe_and (pe_cal c__law_told (hr.mono (by omega)) (by rfl) pass0 (pa_cons (pv 3) (pa_cons pe_int pa_nil))) (pe_one (pe_not (pe_cal c__law_told (hr.mono (by omega)) (by rfl) pass0 (pa_cons (pv 3) (pa_cons pe_int pa_nil))))))))))))))
end
abbrev s_Rule_kind : Stmt := inClass (top 16) 1
abbrev s_Rule_parts : Stmt := inClass (top 16) 2
theorem all {l : PySem.W.OpenLaw} {w : World} {K : PySem.W.Frag} {h : Heap} {mg : Str → Option Value} {fa : Addr} (X : K.In h) (G : h.Ns mainGlobals mg) (hfa : mg "law" = some (.ref fa))
    {cBadHeap cBadRule cRule cTooGreat f_RuleU_initU pp_Rule_kind pg__Rule_kind pp_Rule_parts pg__Rule_parts : Addr}
    {t_MOST_TABLE t_MOST_HEAP t_MOST_POINTS t_MOST_TERMS t_MOST_EXPONENT t_MOST_THINGS t_MOST_SUMS : Tok}
    {rest_Rule_kind : List Value}
    {rest_Rule_parts : List Value}
    (D_is_integer : DefAt K mg "is_integer" "is_integer" s_is_integer)
    (D_is_from : DefAt K mg "is_from" "is_from" s_is_from)
    (D_are_rows : DefAt K mg "are_rows" "are_rows" s_are_rows)
    (D_is_term : DefAt K mg "is_term" "is_term" s_is_term)
    (D_are_terms : DefAt K mg "are_terms" "are_terms" s_are_terms)
    (D_most_of : DefAt K mg "most_of" "most_of" s_most_of)
    (D_raised : DefAt K mg "raised" "raised" s_raised)
    (D_points_by : DefAt K mg "points_by" "points_by" s_points_by)
    (D_check_heap : DefAt K mg "check_heap" "check_heap" s_check_heap)
    (D_sums_by : DefAt K mg "sums_by" "sums_by" s_sums_by)
    (D_all_sums : DefAt K mg "all_sums" "all_sums" s_all_sums)
    (D__law_random : DefAt K mg "_law_random" "_law_random" s__law_random)
    (D__law_below : DefAt K mg "_law_below" "_law_below" s__law_below)
    (D__law_pick : DefAt K mg "_law_pick" "_law_pick" s__law_pick)
    (D__law_table : DefAt K mg "_law_table" "_law_table" s__law_table)
    (D__law_terms : DefAt K mg "_law_terms" "_law_terms" s__law_terms)
    (D__law_rule : DefAt K mg "_law_rule" "_law_rule" s__law_rule)
    (D__law_top : DefAt K mg "_law_top" "_law_top" s__law_top)
    (D__law_equal : DefAt K mg "_law_equal" "_law_equal" s__law_equal)
    (D__law_points : DefAt K mg "_law_points" "_law_points" s__law_points)
    (D__law_ways : DefAt K mg "_law_ways" "_law_ways" s__law_ways)
    (D__law_things : DefAt K mg "_law_things" "_law_things" s__law_things)
    (D__law_row : DefAt K mg "_law_row" "_law_row" s__law_row)
    (D__law_told : DefAt K mg "_law_told" "_law_told" s__law_told)
    (D_law : DefAt K mg "law" "law" s_law)
    (b_abs : PySem.W.nsIn K mainGlobals "abs" = some none)
    (b_all : PySem.W.nsIn K mainGlobals "all" = some none)
    (b_bool : PySem.W.nsIn K mainGlobals "bool" = some none)
    (b_dict : PySem.W.nsIn K mainGlobals "dict" = some none)
    (b_enumerate : PySem.W.nsIn K mainGlobals "enumerate" = some none)
    (b_int : PySem.W.nsIn K mainGlobals "int" = some none)
    (b_isinstance : PySem.W.nsIn K mainGlobals "isinstance" = some none)
    (b_len : PySem.W.nsIn K mainGlobals "len" = some none)
    (b_list : PySem.W.nsIn K mainGlobals "list" = some none)
    (b_min : PySem.W.nsIn K mainGlobals "min" = some none)
    (b_range : PySem.W.nsIn K mainGlobals "range" = some none)
    (b_set : PySem.W.nsIn K mainGlobals "set" = some none)
    (b_sorted : PySem.W.nsIn K mainGlobals "sorted" = some none)
    (b_str : PySem.W.nsIn K mainGlobals "str" = some none)
    (b_sum : PySem.W.nsIn K mainGlobals "sum" = some none)
    (b_tuple : PySem.W.nsIn K mainGlobals "tuple" = some none)
    (g_MOST_TABLE : PySem.W.nsIn K mainGlobals "MOST_TABLE" = some (some (.int 40 t_MOST_TABLE)))
    (g_MOST_HEAP : PySem.W.nsIn K mainGlobals "MOST_HEAP" = some (some (.int 1000000000000000000000000000000 t_MOST_HEAP)))
    (g_MOST_POINTS : PySem.W.nsIn K mainGlobals "MOST_POINTS" = some (some (.int 1000000 t_MOST_POINTS)))
    (g_MOST_TERMS : PySem.W.nsIn K mainGlobals "MOST_TERMS" = some (some (.int 6 t_MOST_TERMS)))
    (g_MOST_EXPONENT : PySem.W.nsIn K mainGlobals "MOST_EXPONENT" = some (some (.int 4 t_MOST_EXPONENT)))
    (g_MOST_THINGS : PySem.W.nsIn K mainGlobals "MOST_THINGS" = some (some (.int 40 t_MOST_THINGS)))
    (g_MOST_SUMS : PySem.W.nsIn K mainGlobals "MOST_SUMS" = some (some (.int 10 t_MOST_SUMS)))
    (a_BadHeap : PySem.W.nsIn K mainGlobals "BadHeap" = some (some (.ref cBadHeap)))
    (a_BadRule : PySem.W.nsIn K mainGlobals "BadRule" = some (some (.ref cBadRule)))
    (a_Rule : PySem.W.nsIn K mainGlobals "Rule" = some (some (.ref cRule)))
    (a_TooGreat : PySem.W.nsIn K mainGlobals "TooGreat" = some (some (.ref cTooGreat)))
    (pg_Rule : PySem.W.plainGet K cRule Str.empty = true)
    (hd_Rule : PySem.W.hasDictIn K cRule = true)
    (po_Rule : PySem.W.plainOver K cRule = true)
    (sa_Rule : PySem.W.findIn K (.ref cRule) "__setattr__" = some (some (.builtin "object.__setattr__")))
    (nF_Rule : PySem.W.findIn K (.ref cRule) "form" = some none)
    (nB_Rule : PySem.W.findIn K (.ref cRule) "body" = some none)
    (f_RuleU_initU_at : PySem.W.findIn K (.ref cRule) "__init__" = some (some (.ref f_RuleU_initU)))
    (i_RuleU_initU : PySem.W.isFn K (.ref f_RuleU_initU) = true)
    (F_RuleU_initU : FunAt K "__init__" "Rule.__init__" s_RuleU_initU f_RuleU_initU)
    (mk_RuleU_initU : PySem.W.makesIn K cRule = true)
    (kc_RuleU_initU : PySem.W.keepIn K (.ref cRule) = true)
    (pf_Rule_kind : PySem.W.findIn K (.ref cRule) "kind" = some (some (.ref pp_Rule_kind)))
    (ps_Rule_kind : PySem.W.specialIn K (.ref pp_Rule_kind) "__get__" = some (some (.builtin "property.__get__")))
    (pt_Rule_kind : PySem.W.takesIn K (.ref pp_Rule_kind) = some true)
    (pr_Rule_kind : PySem.W.recIn K pp_Rule_kind "property" = some (.ref pg__Rule_kind :: rest_Rule_kind))
    (pF_Rule_kind : FunAt K "kind" "Rule.kind" s_Rule_kind pg__Rule_kind)
    (pf_Rule_parts : PySem.W.findIn K (.ref cRule) "parts" = some (some (.ref pp_Rule_parts)))
    (ps_Rule_parts : PySem.W.specialIn K (.ref pp_Rule_parts) "__get__" = some (some (.builtin "property.__get__")))
    (pt_Rule_parts : PySem.W.takesIn K (.ref pp_Rule_parts) = some true)
    (pr_Rule_parts : PySem.W.recIn K pp_Rule_parts "property" = some (.ref pg__Rule_parts :: rest_Rule_parts))
    (pF_Rule_parts : FunAt K "parts" "Rule.parts" s_Rule_parts pg__Rule_parts)
    (xx_BadHeap : PySem.W.excIn K cBadHeap [.type "ValueError", .type "Exception", .type "BaseException", .type "object"] "ValueError.__new__" = true)
    (xk_BadHeap : PySem.W.keepIn K (.ref cBadHeap) = true)
    (xb_BadHeap : PySem.W.subIn K (.ref cBadHeap) (.type "BaseException") = some true)
    (xt_BadHeap : PySem.W.typeIn K (.ref cBadHeap) = some (.type "type"))
    (xx_BadRule : PySem.W.excIn K cBadRule [.type "ValueError", .type "Exception", .type "BaseException", .type "object"] "ValueError.__new__" = true)
    (xk_BadRule : PySem.W.keepIn K (.ref cBadRule) = true)
    (xb_BadRule : PySem.W.subIn K (.ref cBadRule) (.type "BaseException") = some true)
    (xt_BadRule : PySem.W.typeIn K (.ref cBadRule) = some (.type "type"))
    (xx_TooGreat : PySem.W.excIn K cTooGreat [.type "ValueError", .type "Exception", .type "BaseException", .type "object"] "ValueError.__new__" = true)
    (xk_TooGreat : PySem.W.keepIn K (.ref cTooGreat) = true)
    (xb_TooGreat : PySem.W.subIn K (.ref cTooGreat) (.type "BaseException") = some true)
    (xt_TooGreat : PySem.W.typeIn K (.ref cTooGreat) = some (.type "type"))
    (xi_TooGreat : PySem.W.isClsIn K cTooGreat = true)
    (es_TooGreat_TooGreat : PySem.W.subIn K (.ref cTooGreat) (.ref cTooGreat) = some true)
    : ∃ fd : FuncData, (∀ (s : Shared) (v : Value), BindsTo s fd ⟨[v], []⟩ [("_law_script", v)]) ∧ ∀ base : Heap, K.In base → base.Ns mainGlobals mg → FnOk l.prog w K mg base CX0 93 fa fd ["_law_script"] (spLaw K) := by
  obtain ⟨Γ, hΓ⟩ : ∃ Γ : Gm, Γ = { K := K, cRule := cRule, cGame := fa, cSplitError := fa, cBadRule := cBadRule, cBadHeap := cBadHeap, cBadSplit := fa, cNoTerms := fa, cNoTable := fa, cNotSure := fa, cBadWay := fa, cBadStyle := fa, cBadSums := fa, cBadNumber := fa, cTooGreat := cTooGreat, cBadRow := fa, cBadPlace := fa, cBadText := fa, aSTYLES := fa } := ⟨_, rfl⟩
  have hK : K = Γ.K := by rw [hΓ]
  have h_cBadHeap : cBadHeap = Γ.cBadHeap := by rw [hΓ]
  have h_cBadRule : cBadRule = Γ.cBadRule := by rw [hΓ]
  have h_cRule : cRule = Γ.cRule := by rw [hΓ]
  have h_cTooGreat : cTooGreat = Γ.cTooGreat := by rw [hΓ]
  clear hΓ
  subst h_cBadHeap h_cBadRule h_cRule h_cTooGreat hK
  have cls_Rule : Cls Γ.K Γ.cRule := ⟨pg_Rule, hd_Rule, po_Rule, sa_Rule⟩
  have T : TX Γ mg := {
    b_abs := PySem.W.mg_none_of X G b_abs
    b_all := PySem.W.mg_none_of X G b_all
    b_bool := PySem.W.mg_none_of X G b_bool
    b_dict := PySem.W.mg_none_of X G b_dict
    b_enumerate := PySem.W.mg_none_of X G b_enumerate
    b_int := PySem.W.mg_none_of X G b_int
    b_isinstance := PySem.W.mg_none_of X G b_isinstance
    b_len := PySem.W.mg_none_of X G b_len
    b_list := PySem.W.mg_none_of X G b_list
    b_min := PySem.W.mg_none_of X G b_min
    b_range := PySem.W.mg_none_of X G b_range
    b_set := PySem.W.mg_none_of X G b_set
    b_sorted := PySem.W.mg_none_of X G b_sorted
    b_str := PySem.W.mg_none_of X G b_str
    b_sum := PySem.W.mg_none_of X G b_sum
    b_tuple := PySem.W.mg_none_of X G b_tuple
    c_MOST_TABLE := ⟨_, PySem.W.mg_of X G g_MOST_TABLE⟩
    c_MOST_HEAP := ⟨_, PySem.W.mg_of X G g_MOST_HEAP⟩
    c_MOST_POINTS := ⟨_, PySem.W.mg_of X G g_MOST_POINTS⟩
    c_MOST_TERMS := ⟨_, PySem.W.mg_of X G g_MOST_TERMS⟩
    c_MOST_EXPONENT := ⟨_, PySem.W.mg_of X G g_MOST_EXPONENT⟩
    c_MOST_THINGS := ⟨_, PySem.W.mg_of X G g_MOST_THINGS⟩
    c_MOST_SUMS := ⟨_, PySem.W.mg_of X G g_MOST_SUMS⟩
    x_BadHeap := ⟨⟨_, xx_BadHeap, _, _, PySem.F.excBase_ValueError⟩, PySem.W.mg_of X G a_BadHeap, xk_BadHeap, xb_BadHeap, xt_BadHeap⟩
    x_BadRule := ⟨⟨_, xx_BadRule, _, _, PySem.F.excBase_ValueError⟩, PySem.W.mg_of X G a_BadRule, xk_BadRule, xb_BadRule, xt_BadRule⟩
    x_TooGreat := ⟨⟨_, xx_TooGreat, _, _, PySem.F.excBase_ValueError⟩, PySem.W.mg_of X G a_TooGreat, xk_TooGreat, xb_TooGreat, xt_TooGreat⟩
    e_TooGreat_TooGreat := exm_of xb_TooGreat xi_TooGreat xt_TooGreat es_TooGreat_TooGreat
    rule := ⟨cls_Rule, nF_Rule, nB_Rule⟩
  }
  obtain ⟨fl, fdl, ml, Fl⟩ := D_law
  cases hfa.symm.trans ml
  obtain ⟨f_is_integer, fd_is_integer, m_is_integer, F_is_integer⟩ := D_is_integer
  obtain ⟨f_is_from, fd_is_from, m_is_from, F_is_from⟩ := D_is_from
  obtain ⟨f_are_rows, fd_are_rows, m_are_rows, F_are_rows⟩ := D_are_rows
  obtain ⟨f_is_term, fd_is_term, m_is_term, F_is_term⟩ := D_is_term
  obtain ⟨f_are_terms, fd_are_terms, m_are_terms, F_are_terms⟩ := D_are_terms
  obtain ⟨f_most_of, fd_most_of, m_most_of, F_most_of⟩ := D_most_of
  obtain ⟨f_raised, fd_raised, m_raised, F_raised⟩ := D_raised
  obtain ⟨f_points_by, fd_points_by, m_points_by, F_points_by⟩ := D_points_by
  obtain ⟨f_check_heap, fd_check_heap, m_check_heap, F_check_heap⟩ := D_check_heap
  obtain ⟨f_sums_by, fd_sums_by, m_sums_by, F_sums_by⟩ := D_sums_by
  obtain ⟨f_all_sums, fd_all_sums, m_all_sums, F_all_sums⟩ := D_all_sums
  obtain ⟨f__law_random, fd__law_random, m__law_random, F__law_random⟩ := D__law_random
  obtain ⟨f__law_below, fd__law_below, m__law_below, F__law_below⟩ := D__law_below
  obtain ⟨f__law_pick, fd__law_pick, m__law_pick, F__law_pick⟩ := D__law_pick
  obtain ⟨f__law_table, fd__law_table, m__law_table, F__law_table⟩ := D__law_table
  obtain ⟨f__law_terms, fd__law_terms, m__law_terms, F__law_terms⟩ := D__law_terms
  obtain ⟨f__law_rule, fd__law_rule, m__law_rule, F__law_rule⟩ := D__law_rule
  obtain ⟨f__law_top, fd__law_top, m__law_top, F__law_top⟩ := D__law_top
  obtain ⟨f__law_equal, fd__law_equal, m__law_equal, F__law_equal⟩ := D__law_equal
  obtain ⟨f__law_points, fd__law_points, m__law_points, F__law_points⟩ := D__law_points
  obtain ⟨f__law_ways, fd__law_ways, m__law_ways, F__law_ways⟩ := D__law_ways
  obtain ⟨f__law_things, fd__law_things, m__law_things, F__law_things⟩ := D__law_things
  obtain ⟨f__law_row, fd__law_row, m__law_row, F__law_row⟩ := D__law_row
  obtain ⟨f__law_told, fd__law_told, m__law_told, F__law_told⟩ := D__law_told
  obtain ⟨fd_RuleU_initU, F_RuleU_initU⟩ := F_RuleU_initU
  obtain ⟨pd_Rule_kind, pF_Rule_kind⟩ := pF_Rule_kind
  obtain ⟨pd_Rule_parts, pF_Rule_parts⟩ := pF_Rule_parts
  refine ⟨fdl, fun s v => ?_, fun base kin kns => ?_⟩
  · obtain ⟨_, _, _, _, _, _, _, _, _, rfl, _, _⟩ := Fl.ex
    exact .of_eq rfl
  have p_Rule_kind : CalP l.prog w Γ.K mg base Γ.cRule "kind" "form" 1 := by
    obtain ⟨_, _, _, _, _, _, _, _, _, rfl, lk, hcd⟩ := pF_Rule_kind.ex
    exact ⟨cls_Rule, pp_Rule_kind, pg__Rule_kind, _, ⟨pf_Rule_kind, ps_Rule_kind, pt_Rule_kind, ⟨_, pr_Rule_kind⟩⟩, fn_getter (k := 0) (N := ["self"]) lk hcd ⟨rfl, rfl, rfl, by decide +kernel, rfl, by decide +kernel, by decide +kernel⟩ rfl rfl cls_Rule T.rule.nF, pF_Rule_kind.binds (ps := ["self"]) fun _ _ _ _ _ _ us hl => match us, hl with | [_], _ => rfl⟩
  have p_Rule_parts : CalP l.prog w Γ.K mg base Γ.cRule "parts" "body" 1 := by
    obtain ⟨_, _, _, _, _, _, _, _, _, rfl, lk, hcd⟩ := pF_Rule_parts.ex
    exact ⟨cls_Rule, pp_Rule_parts, pg__Rule_parts, _, ⟨pf_Rule_parts, ps_Rule_parts, pt_Rule_parts, ⟨_, pr_Rule_parts⟩⟩, fn_getter (k := 0) (N := ["self"]) lk hcd ⟨rfl, rfl, rfl, by decide +kernel, rfl, by decide +kernel, by decide +kernel⟩ rfl rfl cls_Rule T.rule.nB, pF_Rule_parts.binds (ps := ["self"]) fun _ _ _ _ _ _ us hl => match us, hl with | [_], _ => rfl⟩
  have c_is_integer : Cal l.prog w Γ.K mg base CX0 "is_integer" 1 ["value"] (sp_is_integer Γ) := ⟨f_is_integer, fd_is_integer, ok_is_integer F_is_integer T , m_is_integer, F_is_integer.kp, b_is_integer F_is_integer⟩
  have c_is_from : Cal l.prog w Γ.K mg base CX0 "is_from" 2 ["value", "low", "high"] (sp_is_from Γ) := ⟨f_is_from, fd_is_from, ok_is_from F_is_from T c_is_integer, m_is_from, F_is_from.kp, b_is_from F_is_from⟩
  have c_are_rows : Cal l.prog w Γ.K mg base CX0 "are_rows" 3 ["value"] (sp_are_rows Γ) := ⟨f_are_rows, fd_are_rows, ok_are_rows F_are_rows T c_is_from, m_are_rows, F_are_rows.kp, b_are_rows F_are_rows⟩
  have c_is_term : Cal l.prog w Γ.K mg base CX0 "is_term" 3 ["value"] (sp_is_term Γ) := ⟨f_is_term, fd_is_term, ok_is_term F_is_term T c_is_from, m_is_term, F_is_term.kp, b_is_term F_is_term⟩
  have c_are_terms : Cal l.prog w Γ.K mg base CX0 "are_terms" 4 ["value"] (sp_are_terms Γ) := ⟨f_are_terms, fd_are_terms, ok_are_terms F_are_terms T c_is_term, m_are_terms, F_are_terms.kp, b_are_terms F_are_terms⟩
  have c_RuleU_initU : CalC l.prog w Γ.K mg base (L2.CX l.prog w) Γ.cRule "Rule" 5 ["self", "kind", "parts"] (sp_RuleU_initU Γ) := ⟨PySem.W.mg_of X G a_Rule, f_RuleU_initU, fd_RuleU_initU, ok_RuleU_initU F_RuleU_initU T c_are_rows c_are_terms, ⟨mk_RuleU_initU, f_RuleU_initU_at, i_RuleU_initU, kc_RuleU_initU⟩, b_RuleU_initU F_RuleU_initU⟩
  have c_most_of : Cal l.prog w Γ.K mg base CX0 "most_of" 1 ["rule"] (sp_most_of Γ) := ⟨f_most_of, fd_most_of, ok_most_of F_most_of T , m_most_of, F_most_of.kp, b_most_of F_most_of⟩
  have c_raised : Cal l.prog w Γ.K mg base CX0 "raised" 1 ["base", "exponent"] (sp_raised Γ) := ⟨f_raised, fd_raised, ok_raised F_raised T , m_raised, F_raised.kp, b_raised F_raised⟩
  have c_points_by : Cal l.prog w Γ.K mg base CX0 "points_by" 2 ["rule", "first", "second"] (sp_points_by Γ) := ⟨f_points_by, fd_points_by, ok_points_by F_points_by T c_raised, m_points_by, F_points_by.kp, b_points_by F_points_by⟩
  have c_check_heap : Cal l.prog w Γ.K mg base (L2.CX l.prog w) "check_heap" 3 ["rule", "heap", "most"] (sp_check_heap Γ) := ⟨f_check_heap, fd_check_heap, ok_check_heap F_check_heap T c_is_from c_most_of, m_check_heap, F_check_heap.kp, b_check_heap F_check_heap⟩
  have c_sums_by : Cal l.prog w Γ.K mg base CX0 "sums_by" 3 ["rule", "heap"] (sp_sums_by Γ) := ⟨f_sums_by, fd_sums_by, ok_sums_by F_sums_by T c_points_by, m_sums_by, F_sums_by.kp, b_sums_by F_sums_by⟩
  have c_all_sums : Cal l.prog w Γ.K mg base (L2.CX l.prog w) "all_sums" 4 ["rule", "heap"] (sp_all_sums Γ) := ⟨f_all_sums, fd_all_sums, ok_all_sums F_all_sums T c_check_heap c_sums_by, m_all_sums, F_all_sums.kp, b_all_sums F_all_sums⟩
  have c__law_random : Cal l.prog w Γ.K mg base CX0 "_law_random" 1 ["_law_script", "_law_salt"] (sp__law_random Γ) := ⟨f__law_random, fd__law_random, ok__law_random F__law_random T , m__law_random, F__law_random.kp, b__law_random F__law_random⟩
  have c__law_below : Cal l.prog w Γ.K mg base CX0 "_law_below" 1 ["_law_d", "_law_size"] (sp__law_below Γ) := ⟨f__law_below, fd__law_below, ok__law_below F__law_below T , m__law_below, F__law_below.kp, b__law_below F__law_below⟩
  have c__law_pick : Cal l.prog w Γ.K mg base CX0 "_law_pick" 2 ["_law_d", "_law_items"] (sp__law_pick Γ) := ⟨f__law_pick, fd__law_pick, ok__law_pick F__law_pick T c__law_below, m__law_pick, F__law_pick.kp, b__law_pick F__law_pick⟩
  have c__law_table : Cal l.prog w Γ.K mg base CX0 "_law_table" 2 ["_law_d", "_law_most"] (sp__law_table Γ) := ⟨f__law_table, fd__law_table, ok__law_table F__law_table T c__law_below, m__law_table, F__law_table.kp, b__law_table F__law_table⟩
  have c__law_terms : Cal l.prog w Γ.K mg base CX0 "_law_terms" 3 ["_law_d"] (sp__law_terms Γ) := ⟨f__law_terms, fd__law_terms, ok__law_terms F__law_terms T c__law_below c__law_pick, m__law_terms, F__law_terms.kp, b__law_terms F__law_terms⟩
  have c__law_rule : Cal l.prog w Γ.K mg base CX0 "_law_rule" 7 ["_law_d", "_law_most"] (sp__law_rule Γ) := ⟨f__law_rule, fd__law_rule, ok__law_rule F__law_rule T c_RuleU_initU c__law_below c__law_table c__law_terms, m__law_rule, F__law_rule.kp, b__law_rule F__law_rule⟩
  have c__law_top : Cal l.prog w Γ.K mg base CX0 "_law_top" 3 ["_law_rule_here", "_law_most"] (sp__law_top Γ) := ⟨f__law_top, fd__law_top, ok__law_top F__law_top T p_Rule_kind p_Rule_parts, m__law_top, F__law_top.kp, b__law_top F__law_top⟩
  have c__law_equal : Cal l.prog w Γ.K mg base CX0 "_law_equal" 46 ["_law_actual", "_law_expected"] (sp__law_equal Γ) := ⟨f__law_equal, fd__law_equal, ok__law_equal F__law_equal T m__law_equal  45, m__law_equal, F__law_equal.kp, b__law_equal F__law_equal⟩
  have c__law_points : Cal l.prog w Γ.K mg base CX0 "_law_points" 3 ["_law_rule_here", "_law_one", "_law_other"] (sp__law_points Γ) := ⟨f__law_points, fd__law_points, ok__law_points F__law_points T p_Rule_kind p_Rule_parts, m__law_points, F__law_points.kp, b__law_points F__law_points⟩
  have c__law_ways : Cal l.prog w Γ.K mg base CX0 "_law_ways" 1 ["_law_heap"] (sp__law_ways Γ) := ⟨f__law_ways, fd__law_ways, ok__law_ways F__law_ways T , m__law_ways, F__law_ways.kp, b__law_ways F__law_ways⟩
  have c__law_things : Cal l.prog w Γ.K mg base CX0 "_law_things" 46 ["_law_way_here"] (sp__law_things Γ) := ⟨f__law_things, fd__law_things, ok__law_things F__law_things T m__law_things  45, m__law_things, F__law_things.kp, b__law_things F__law_things⟩
  have c__law_row : Cal l.prog w Γ.K mg base CX0 "_law_row" 92 ["_law_rule_here", "_law_way_here"] (sp__law_row Γ) := ⟨f__law_row, fd__law_row, ok__law_row F__law_row T m__law_row c__law_points c__law_things 45, m__law_row, F__law_row.kp, b__law_row F__law_row⟩
  have c__law_told : Cal l.prog w Γ.K mg base CX0 "_law_told" 5 ["_law_rule_here", "_law_heap"] (sp__law_told Γ) := ⟨f__law_told, fd__law_told, ok__law_told F__law_told T c_all_sums, m__law_told, F__law_told.kp, b__law_told F__law_told⟩
  exact ok_law Fl T c_RuleU_initU c__law_below c__law_equal c__law_random c__law_row c__law_rule c__law_terms c__law_told c__law_top c__law_ways c_all_sums
theorem walk {l : PySem.W.OpenLaw} {q : Program} {loose : List Str} {XP : (Str → Option Value) → Heap → Prop} {YP : World → Heap → Prop} {d : DefRec} {K : Params → PySem.W.Frag} (hn : l.most = some 63) (hdf : d.params.defaults = [])
    (hY : ∀ (w : World) (h : Heap), YP w h → (K w.params).In h)
    (F : ∀ (w : World) (mg : Str → Option Value) (fa : Addr) (h : Heap), (K w.params).In h → h.Ns mainGlobals mg → mg d.name = some (.ref fa) →
      ∃ fd : FuncData, (∀ (s : Shared) (u : Value), BindsTo s fd ⟨[u], []⟩ [("_law_script", u)]) ∧ ∀ base : Heap, (K w.params).In base → base.Ns mainGlobals mg → FnOk l.prog w (K w.params) mg base CX0 93 fa fd ["_law_script"] (spLaw (K w.params))) :
    PySem.W.WalkO q loose XP YP l.row.toRowW d [] (fun f vs => PySem.call f vs) :=
  L2.walk_of (n := 63) (k := 93) (x := "_law_script") (CX := fun _ => CX0) (sp := fun w => spLaw (K w.params)) hn (by decide) hdf ⟨rfl, by decide, by decide⟩ hY F (fun _ _ a ns hl _ hS => ⟨a, ns, rfl, hS, hl, fun _ => rfl⟩) fun _ _ _ _ _ z => z

end Spt
open PySem PySem.W PyProof.Rows
set_option maxRecDepth 100000 in
set_option maxHeartbeats 0 in
theorem PySem.Challenge.cw_splitpoints_k12_whole_sums_holds : PySem.Challenge.rw_splitpoints_k12_whole_sums.Holds := by
  w_on; o_law; k_head; (case hw => w_witness2)
  k_fill
  refine Spt.walk (l := PySem.Challenge.rw_splitpoints_k12_whole_sums) rfl rfl (fun w h Y => PySem.W.kIn_of Y) ?F
  case F =>
    intro w mg fa h KX G hmg
    refine' Spt.all KX G hmg ?D_is_integer ?D_is_from ?D_are_rows ?D_is_term ?D_are_terms ?D_most_of ?D_raised ?D_points_by ?D_check_heap ?D_sums_by ?D_all_sums ?D__law_random ?D__law_below ?D__law_pick ?D__law_table ?D__law_terms ?D__law_rule ?D__law_top ?D__law_equal ?D__law_points ?D__law_ways ?D__law_things ?D__law_row ?D__law_told ?D_law ?b_abs ?b_all ?b_bool ?b_dict ?b_enumerate ?b_int ?b_isinstance ?b_len ?b_list ?b_min ?b_range ?b_set ?b_sorted ?b_str ?b_sum ?b_tuple ?g_MOST_TABLE ?g_MOST_HEAP ?g_MOST_POINTS ?g_MOST_TERMS ?g_MOST_EXPONENT ?g_MOST_THINGS ?g_MOST_SUMS ?a_BadHeap ?a_BadRule ?a_Rule ?a_TooGreat ?pg_Rule ?hd_Rule ?po_Rule ?sa_Rule ?nF_Rule ?nB_Rule ?f_RuleU_initU_at ?i_RuleU_initU ?F_RuleU_initU ?mk_RuleU_initU ?kc_RuleU_initU ?pf_Rule_kind ?ps_Rule_kind ?pt_Rule_kind ?pr_Rule_kind ?pF_Rule_kind ?pf_Rule_parts ?ps_Rule_parts ?pt_Rule_parts ?pr_Rule_parts ?pF_Rule_parts ?xx_BadHeap ?xk_BadHeap ?xb_BadHeap ?xt_BadHeap ?xx_BadRule ?xk_BadRule ?xb_BadRule ?xt_BadRule ?xx_TooGreat ?xk_TooGreat ?xb_TooGreat ?xt_TooGreat ?xi_TooGreat ?es_TooGreat_TooGreat
    (case a_BadHeap => k_is)
    (case a_BadRule => k_is)
    (case a_Rule => k_is)
    (case a_TooGreat => k_is)
    (case g_MOST_TABLE => k_is)
    (case g_MOST_HEAP => k_is)
    (case g_MOST_POINTS => k_is)
    (case g_MOST_TERMS => k_is)
    (case g_MOST_EXPONENT => k_is)
    (case g_MOST_THINGS => k_is)
    (case g_MOST_SUMS => k_is)
    (case f_RuleU_initU_at => k_is)
    (case pf_Rule_kind => k_is)
    (case pf_Rule_parts => k_is)
    (case pr_Rule_kind => k_is)
    (case pr_Rule_parts => k_is)
    (case D_is_integer => (refine' Spt.def_mk KX G ?a ?l ?c ?k; (case a => k_is); (case l => k_is); (case c => k_is); (case k => k_is)))
    (case D_is_from => (refine' Spt.def_mk KX G ?a ?l ?c ?k; (case a => k_is); (case l => k_is); (case c => k_is); (case k => k_is)))
    (case D_are_rows => (refine' Spt.def_mk KX G ?a ?l ?c ?k; (case a => k_is); (case l => k_is); (case c => k_is); (case k => k_is)))
    (case D_is_term => (refine' Spt.def_mk KX G ?a ?l ?c ?k; (case a => k_is); (case l => k_is); (case c => k_is); (case k => k_is)))
    (case D_are_terms => (refine' Spt.def_mk KX G ?a ?l ?c ?k; (case a => k_is); (case l => k_is); (case c => k_is); (case k => k_is)))
    (case D_most_of => (refine' Spt.def_mk KX G ?a ?l ?c ?k; (case a => k_is); (case l => k_is); (case c => k_is); (case k => k_is)))
    (case D_raised => (refine' Spt.def_mk KX G ?a ?l ?c ?k; (case a => k_is); (case l => k_is); (case c => k_is); (case k => k_is)))
    (case D_points_by => (refine' Spt.def_mk KX G ?a ?l ?c ?k; (case a => k_is); (case l => k_is); (case c => k_is); (case k => k_is)))
    (case D_check_heap => (refine' Spt.def_mk KX G ?a ?l ?c ?k; (case a => k_is); (case l => k_is); (case c => k_is); (case k => k_is)))
    (case D_sums_by => (refine' Spt.def_mk KX G ?a ?l ?c ?k; (case a => k_is); (case l => k_is); (case c => k_is); (case k => k_is)))
    (case D_all_sums => (refine' Spt.def_mk KX G ?a ?l ?c ?k; (case a => k_is); (case l => k_is); (case c => k_is); (case k => k_is)))
    (case D__law_random => (refine' Spt.def_mk KX G ?a ?l ?c ?k; (case a => k_is); (case l => k_is); (case c => k_is); (case k => k_is)))
    (case D__law_below => (refine' Spt.def_mk KX G ?a ?l ?c ?k; (case a => k_is); (case l => k_is); (case c => k_is); (case k => k_is)))
    (case D__law_pick => (refine' Spt.def_mk KX G ?a ?l ?c ?k; (case a => k_is); (case l => k_is); (case c => k_is); (case k => k_is)))
    (case D__law_table => (refine' Spt.def_mk KX G ?a ?l ?c ?k; (case a => k_is); (case l => k_is); (case c => k_is); (case k => k_is)))
    (case D__law_terms => (refine' Spt.def_mk KX G ?a ?l ?c ?k; (case a => k_is); (case l => k_is); (case c => k_is); (case k => k_is)))
    (case D__law_rule => (refine' Spt.def_mk KX G ?a ?l ?c ?k; (case a => k_is); (case l => k_is); (case c => k_is); (case k => k_is)))
    (case D__law_top => (refine' Spt.def_mk KX G ?a ?l ?c ?k; (case a => k_is); (case l => k_is); (case c => k_is); (case k => k_is)))
    (case D__law_equal => (refine' Spt.def_mk KX G ?a ?l ?c ?k; (case a => k_is); (case l => k_is); (case c => k_is); (case k => k_is)))
    (case D__law_points => (refine' Spt.def_mk KX G ?a ?l ?c ?k; (case a => k_is); (case l => k_is); (case c => k_is); (case k => k_is)))
    (case D__law_ways => (refine' Spt.def_mk KX G ?a ?l ?c ?k; (case a => k_is); (case l => k_is); (case c => k_is); (case k => k_is)))
    (case D__law_things => (refine' Spt.def_mk KX G ?a ?l ?c ?k; (case a => k_is); (case l => k_is); (case c => k_is); (case k => k_is)))
    (case D__law_row => (refine' Spt.def_mk KX G ?a ?l ?c ?k; (case a => k_is); (case l => k_is); (case c => k_is); (case k => k_is)))
    (case D__law_told => (refine' Spt.def_mk KX G ?a ?l ?c ?k; (case a => k_is); (case l => k_is); (case c => k_is); (case k => k_is)))
    (case D_law => (refine' Spt.def_mk KX G ?a ?l ?c ?k; (case a => k_is); (case l => k_is); (case c => k_is); (case k => k_is)))
    (case b_abs => k_is)
    (case b_all => k_is)
    (case b_bool => k_is)
    (case b_dict => k_is)
    (case b_enumerate => k_is)
    (case b_int => k_is)
    (case b_isinstance => k_is)
    (case b_len => k_is)
    (case b_list => k_is)
    (case b_min => k_is)
    (case b_range => k_is)
    (case b_set => k_is)
    (case b_sorted => k_is)
    (case b_str => k_is)
    (case b_sum => k_is)
    (case b_tuple => k_is)
    (case pg_Rule => k_is)
    (case hd_Rule => k_is)
    (case po_Rule => k_is)
    (case sa_Rule => k_is)
    (case nF_Rule => k_is)
    (case nB_Rule => k_is)
    (case i_RuleU_initU => k_is)
    (case F_RuleU_initU => (refine' Spt.funat_mk ?l ?c ?k; (case l => k_is); (case c => k_is); (case k => k_is)))
    (case mk_RuleU_initU => k_is)
    (case kc_RuleU_initU => k_is)
    (case ps_Rule_kind => k_is)
    (case pt_Rule_kind => k_is)
    (case pF_Rule_kind => (refine' Spt.funat_mk ?l ?c ?k; (case l => k_is); (case c => k_is); (case k => k_is)))
    (case ps_Rule_parts => k_is)
    (case pt_Rule_parts => k_is)
    (case pF_Rule_parts => (refine' Spt.funat_mk ?l ?c ?k; (case l => k_is); (case c => k_is); (case k => k_is)))
    (case xx_BadHeap => k_exc)
    (case xk_BadHeap => k_is)
    (case xb_BadHeap => k_is)
    (case xt_BadHeap => k_is)
    (case xx_BadRule => k_exc)
    (case xk_BadRule => k_is)
    (case xb_BadRule => k_is)
    (case xt_BadRule => k_is)
    (case xx_TooGreat => k_exc)
    (case xk_TooGreat => k_is)
    (case xb_TooGreat => k_is)
    (case xt_TooGreat => k_is)
    (case xi_TooGreat => k_is)
    (case es_TooGreat_TooGreat => first | rfl | k_is)
