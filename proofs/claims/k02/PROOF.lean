import PyProof.Rows.All
import Wide.All
import OpenK.AllK
import Wide.FinOn
import KE.KStateDown
import Lean
import HandS.ForMost
import HandS.Exc
import HandS.ExcOwn
import HandS.WordsExc
import HandS.ExcInit
import HandS.IsInst
import HandS.TryMany
import HandS.Flow
import HandS.Wide
import HandS.Defaults
import HandS.FStr
import HandS.RaiseMore
import HandS.Head0
import HandS.Head1
import HandS.Head2
import HandS.HeadEnd
import HandS.HeadHook1
import HandS.HeadHook2
import HandS.HeadHook3
import HandS.ClsMeth
import HandS.ExcIs
import HandS.ExcField
import KE.KExcIs
import HandS.Codes
import PySem.Challenge.RW_stonewalks_k02_numbers_and_words
set_option Elab.async false
set_option linter.all false
set_option maxRecDepth 100000
set_option maxHeartbeats 4000000
namespace SW
open PySem PySem.Spec PyProof.Rows L2

/-! ### promises by arity -/
abbrev P0 := Hp → VK → XK → Prop
abbrev P1 := V → P0
abbrev P2 := V → P1
abbrev P3 := V → P2
abbrev P4 := V → P3
def sp0 (f : P0) : Sp := fun vs H Q E => vs = [] ∧ f H Q E
def sp1 (f : P1) : Sp := fun vs H Q E => ∃ a, vs = [a] ∧ f a H Q E
def sp2 (f : P2) : Sp := fun vs H Q E => ∃ a b, vs = [a, b] ∧ f a b H Q E
def sp3 (f : P3) : Sp := fun vs H Q E => ∃ a b c, vs = [a, b, c] ∧ f a b c H Q E
def sp4 (f : P4) : Sp := fun vs H Q E => ∃ a b c d, vs = [a, b, c, d] ∧ f a b c d H Q E
theorem len0 {f : P0} : ∀ vs H Q E, sp0 f vs H Q E → vs.length = 0 := fun _ _ _ _ h => by obtain ⟨rfl, _⟩ := h; rfl
theorem len1 {f : P1} : ∀ vs H Q E, sp1 f vs H Q E → vs.length = 1 := fun _ _ _ _ h => by obtain ⟨_, rfl, _⟩ := h; rfl
theorem len2 {f : P2} : ∀ vs H Q E, sp2 f vs H Q E → vs.length = 2 := fun _ _ _ _ h => by obtain ⟨_, _, rfl, _⟩ := h; rfl
theorem len3 {f : P3} : ∀ vs H Q E, sp3 f vs H Q E → vs.length = 3 := fun _ _ _ _ h => by obtain ⟨_, _, _, rfl, _⟩ := h; rfl
theorem len4 {f : P4} : ∀ vs H Q E, sp4 f vs H Q E → vs.length = 4 := fun _ _ _ _ h => by obtain ⟨_, _, _, _, rfl, _⟩ := h; rfl

/-! ### a def of the module, with its promise; a class's maker; a method -/
structure CalX (P : Program) (w : World) (K : PySem.W.Frag) (mg : Str → Option Value) (base : Heap) (k : Nat) (x : Str) (sp : Sp) (dvs : List V) : Prop where
  ex : ∃ (f : Addr) (fd : FuncData) (ps : List Str) (ds : List Value), FnOk P w K mg base (L2.CX P w) k f fd ps sp ∧ mg x = some (.ref f) ∧ PySem.W.keepIn K (.ref f) = true ∧ Binds K fd ps ds ∧ Vals dvs ds
structure MetX (P : Program) (w : World) (K : PySem.W.Frag) (mg : Str → Option Value) (base : Heap) (k : Nat) (C : Addr) (m : Str) (sp : Sp) (dvs : List V) : Prop where
  ex : ∃ (f : Addr) (fd : FuncData) (ps : List Str) (ds : List Value), Cls K C ∧ Meth K C m f ∧ FnOk P w K mg base (L2.CX P w) k f fd ps sp ∧ Binds K fd ps ds ∧ Vals dvs ds
structure MakX (P : Program) (w : World) (K : PySem.W.Frag) (mg : Str → Option Value) (base : Heap) (k : Nat) (x : Str) (C : Addr) (sp : Sp) (dvs : List V) : Prop where
  ex : ∃ (f : Addr) (fd : FuncData) (ps : List Str) (ds : List Value), Mk K C f ∧ FnOk P w K mg base (L2.CX P w) k f fd ps sp ∧ mg x = some (.ref C) ∧ Binds K fd ps ds ∧ Vals dvs ds
section
variable {X : Cx} {k j : Nat} {C : Addr} {x m : Str} {sp : Sp} {dvs : List V} {E : XK} {p pos apos : Pos} {e o : Expr} {es : List Expr} {ta : TE} {t : TA}
theorem pe_x (c : CalX X.prog X.w X.K X.mg X.base k x sp dvs) (hr : Room j X.A) (hk : k ≤ j) (hx : Passes (L2.CX X.prog X.w) X E) (ha : PA X (e :: es) t) (hg : Gl X x := by rfl)
    (hdb : (x == ("__debug__" : Str)) = false := by decide) (he : starEach (e :: es) X.env = (false, eval e X.env) :: starEach es X.env := by rfl) (hpl : (backTo pos (starEach es X.env)).any (·.1) = false := by rfl) :
    PE X (.Call (.Name x p) (e :: es) [] pos) (tCall sp dvs E t) := by
  obtain ⟨f, fd, ps, ds, F, hm, kp, b, d⟩ := c.ex
  exact pe_call F (hr.mono hk) hg hm kp b d hx ha hdb he hpl
theorem pe_x0 (c : CalX X.prog X.w X.K X.mg X.base k x sp dvs) (hr : Room j X.A) (hk : k ≤ j) (hx : Passes (L2.CX X.prog X.w) X E) (hg : Gl X x := by rfl) (hdb : (x == ("__debug__" : Str)) = false := by decide) :
    PE X (.Call (.Name x p) [] [] pos) (tCall sp dvs E tNil) := by
  obtain ⟨f, fd, ps, ds, F, hm, kp, b, d⟩ := c.ex
  exact pe_call0 F (hr.mono hk) hg hm kp b d hx hdb
theorem pe_mkx (c : MakX X.prog X.w X.K X.mg X.base k x C sp dvs) (hr : Room j X.A) (hk : k + 1 ≤ j) (hx : Passes (L2.CX X.prog X.w) X E) (ha : PA X (e :: es) t) (hg : Gl X x := by rfl)
    (hdb : (x == ("__debug__" : Str)) = false := by decide) (he : starEach (e :: es) X.env = (false, eval e X.env) :: starEach es X.env := by rfl) (hpl : (backTo pos (starEach es X.env)).any (·.1) = false := by rfl) :
    PE X (.Call (.Name x p) (e :: es) [] pos) (tMake C sp dvs E t) := by
  obtain ⟨f, fd, ps, ds, M, F, hm, b, d⟩ := c.ex
  exact pe_make M F (hr.mono hk) hg hm b d hx ha hdb he hpl
theorem pe_mx {pl : Sem Bool} (c : MetX X.prog X.w X.K X.mg X.base k C m sp dvs) (hr : Room j X.A) (hk : k ≤ j) (hx : Passes (L2.CX X.prog X.w) X E) (he : PE X o ta) (ha : PA X (e :: es) t)
    (hst : starEach (e :: es) X.env = (false, eval e X.env) :: starEach es X.env := by rfl) (hpl : (backTo pos (starEach es X.env)).any (·.1) = false := by rfl)
    (ht : eval (.Call (.Attribute o m apos) (e :: es) [] pos) X.env = (do
      let ov ← eval o X.env
      standAt apos.atName
      let (f, first) ← holding [ov] (getMethod ov m pl)
      callWith pos f first (backTo pos (starEach (e :: es) X.env)) (backToKw pos (keywordEach [] X.env))) := by rfl) :
    PE X (.Call (.Attribute o m apos) (e :: es) [] pos) (tMeth C m sp dvs E ta t) := by
  obtain ⟨f, fd, ps, ds, c, M, F, b, d⟩ := c.ex
  exact pe_meth he c M F (hr.mono hk) b d hx ha hst hpl ht
theorem pe_mx0 {pl : Sem Bool} (c : MetX X.prog X.w X.K X.mg X.base k C m sp dvs) (hr : Room j X.A) (hk : k ≤ j) (hx : Passes (L2.CX X.prog X.w) X E) (he : PE X o ta)
    (ht : eval (.Call (.Attribute o m apos) [] [] pos) X.env = (do
      let ov ← eval o X.env
      standAt apos.atName
      let (f, first) ← holding [ov] (getMethod ov m pl)
      callWith pos f first (backTo pos (starEach [] X.env)) (backToKw pos (keywordEach [] X.env))) := by rfl) :
    PE X (.Call (.Attribute o m apos) [] [] pos) (tMeth C m sp dvs E ta tNil) := by
  obtain ⟨f, fd, ps, ds, c, M, F, b, d⟩ := c.ex
  exact pe_meth0 he c M F (hr.mono hk) b d hx ht
end

/-! ### steps: one a reading's head -/
section
variable {σ : L2.St} {H : Hp} {Q : VK} {nx bk ct : L2.St → Hp → Prop} {rt : VK} {t u : TS} {te ta tb tc : TE} {c tt : TT} {i : Nat} {v : V} {r r' : R2} {K : PySem.W.Frag}
theorem x_seq (h : t ⟨u ⟨nx, rt, bk, ct⟩, rt, bk, ct⟩ σ H) : tSeq t u ⟨nx, rt, bk, ct⟩ σ H := h
theorem x_next (h : nx σ H) : tNext ⟨nx, rt, bk, ct⟩ σ H := h
theorem x_set (h : te σ H fun x H1 => nx (σ.set i (some x)) H1) : tAsg te (gName i) ⟨nx, rt, bk, ct⟩ σ H := h
theorem x_ret (h : te σ H rt) : tRet te ⟨nx, rt, bk, ct⟩ σ H := h
theorem x_drop (h : te σ H fun _ H1 => nx σ H1) : tDrop te ⟨nx, rt, bk, ct⟩ σ H := h
theorem x_ifS (h : c σ H fun b H1 => if b = true then t ⟨nx, rt, bk, ct⟩ σ H1 else u ⟨nx, rt, bk, ct⟩ σ H1) : tIfS c t u ⟨nx, rt, bk, ct⟩ σ H := h
theorem x_brk (h : bk σ H) : tBreak ⟨nx, rt, bk, ct⟩ σ H := h
theorem x_cont (h : ct σ H) : tCont ⟨nx, rt, bk, ct⟩ σ H := h
theorem x_var (e : σ[i]? = some (some v)) (h : Q v H) : tVar i σ H Q := ⟨v, e, h⟩
theorem x_c (h : Q v H) : tC v σ H Q := h
theorem x_op (h : ta σ H fun x H1 => tb σ H1 fun y H2 => r x y H2 Q) : tOp r ta tb σ H Q := h
theorem x_un {r : V → Hp → VK → Prop} (h : ta σ H fun x H1 => r x H1 Q) : tUn r ta σ H Q := h
theorem x_chain (h : ta σ H fun x H1 => tb σ H1 fun y H2 => r x y H2 fun z H3 => ∃ k, z = .bl k ∧ (if k = true then tc σ H3 fun w' H4 => r' y w' H4 Q else Q (.bl false) H3)) : tChain r r' ta tb tc σ H Q := h
theorem x_test {Qb : Bool → Hp → Prop} (h : te σ H fun x H' => ∃ k, x = .bl k ∧ Qb k H') : tTest te σ H Qb := h
theorem x_B {Qb : Bool → Hp → Prop} (h : te σ H fun x H' => ∃ k, x = .bl k ∧ Qb k H') : tB te σ H Qb := h
theorem x_and {Qb : Bool → Hp → Prop} (h : c σ H fun b H1 => if b = true then tt σ H1 Qb else Qb false H1) : tAnd c tt σ H Qb := h
theorem x_or {Qb : Bool → Hp → Prop} (h : c σ H fun b H1 => if b = true then Qb true H1 else tt σ H1 Qb) : tOr c tt σ H Qb := h
theorem x_not {Qb : Bool → Hp → Prop} (h : c σ H fun b H1 => Qb (!b) H1) : tNot c σ H Qb := h
theorem x_andV (h : ta σ H fun x H1 => ∃ c, x = .bl c ∧ if c = true then tb σ H1 Q else Q (.bl false) H1) : tAndV ta tb σ H Q := h
theorem x_orV (h : ta σ H fun x H1 => ∃ c, x = .bl c ∧ if c = true then Q (.bl true) H1 else tb σ H1 Q) : tOrV ta tb σ H Q := h
theorem x_notV (h : ta σ H fun x H1 => ∃ c, x = .bl c ∧ Q (.bl (!c)) H1) : tNotV ta σ H Q := h
theorem x_if (h : c σ H fun b H1 => if b = true then ta σ H1 Q else tb σ H1 Q) : tIf c ta tb σ H Q := h
theorem x_nil {QA : List V → Hp → Prop} (h : QA [] H) : tNil σ H QA := h
theorem x_cons {QA : List V → Hp → Prop} {tr : TA} (h : ta σ H fun x H1 => tr σ H1 fun xs H2 => QA (x :: xs) H2) : tCons ta tr σ H QA := h
theorem x_lst {tr : TA} (h : tr σ H fun xs H1 => xs.length ≤ sizeLine ∧ ∀ p, H1 p = none → Q (.ref p) (upd H1 p (.lst xs))) : tLst tr σ H Q := h
theorem x_tup {tr : TA} (h : tr σ H fun xs H1 => xs.length ≤ sizeLine ∧ ∀ p, H1 p = none → Q (.ref p) (upd H1 p (.tup xs))) : tTup tr σ H Q := h
theorem x_CB {rc : List V → Hp → VK → Prop} {tr : TA} (h : tr σ H fun vs H1 => rc vs H1 Q) : tCB rc tr σ H Q := h
theorem x_call {sp : Sp} {dvs : List V} {E : XK} {tr : TA} (h : tr σ H fun vs H1 => sp (vs ++ dvs) H1 Q E) : tCall sp dvs E tr σ H Q := h
theorem x_sl {rs : V → Option Int → Option Int → Hp → VK → Prop} {tl th : TO} (h : te σ H fun x H1 => tl σ H1 fun l H2 => th σ H2 fun u H3 => rs x l u H3 Q) : tSl rs te tl th σ H Q := h
theorem x_noPart {QO : Option Int → Hp → Prop} (h : QO none H) : tNoPart σ H QO := h
theorem x_part {QO : Option Int → Hp → Prop} (h : te σ H fun x H1 => ∃ i, x = .int i ∧ QO (some i) H1) : tPart te σ H QO := h
/-- values as they stand -/
theorem x_bl {b : Bool} {P : Bool → Prop} (h : P b) : ∃ k, V.bl b = .bl k ∧ P k := ⟨b, rfl, h⟩
theorem x_int {n : Int} {P : Int → Prop} (h : P n) : ∃ k, V.int n = .int k ∧ P k := ⟨n, rfl, h⟩
theorem x_sz {xs : List V} {P : Prop} (hz : xs.length ≤ 1000) (h : P) : xs.length ≤ sizeLine ∧ P := ⟨Nat.le_trans hz (by decide), h⟩
theorem x_rI0 {g : Int → Int → V} {a b : Int} (h : Q (g a b) H) : rI0 g (.int a) (.int b) H Q := ⟨a, b, rfl, rfl, h⟩
theorem x_rI {C : Int → Int → Prop} {g : Int → Int → V} {a b : Int} (hc : C a b) (h : Q (g a b) H) : rI C g (.int a) (.int b) H Q := ⟨a, b, rfl, rfl, hc, h⟩
theorem x_rU {g : Int → V} {a : Int} (h : Q (g a) H) : rU g (.int a) H Q := ⟨a, rfl, h⟩
theorem x_eqI {a b : Int} (h : Q (.bl (decide (a = b))) H) : rEq (.int a) (.int b) H Q := ⟨rfl, by rw [dec_int, Bool.beq_eq_decide_eq]; exact h⟩
theorem x_neI {a b : Int} (h : Q (.bl (!decide (a = b))) H) : rNe (.int a) (.int b) H Q := ⟨rfl, by rw [dec_int, Bool.beq_eq_decide_eq]; exact h⟩
theorem x_iteT {A B : Prop} {b : Bool} (hb : b = true) (h : A) : if b = true then A else B := by rw [if_pos hb]; exact h
theorem x_iteF {A B : Prop} {b : Bool} (hb : b = false) (h : B) : if b = true then A else B := by rw [hb, if_neg Bool.false_ne_true]; exact h
theorem x_ite {A B : Prop} {b : Bool} (h1 : b = true → A) (h2 : b = false → B) : if b = true then A else B := by
  cases b with
  | true => rw [if_pos rfl]; exact h1 rfl
  | false => rw [if_neg Bool.false_ne_true]; exact h2 rfl
theorem x_dec {A B c : Prop} [Decidable c] (h1 : c → A) (h2 : ¬ c → B) : if decide c = true then A else B := x_ite (fun h => h1 (of_decide_eq_true h)) fun h => h2 (of_decide_eq_false h)
theorem x_decN {A B c : Prop} [Decidable c] (h1 : ¬ c → A) (h2 : c → B) : if (!decide c) = true then A else B := x_ite (fun h => h1 (of_decide_eq_false (by simpa using h))) fun h => h2 (of_decide_eq_true (by simpa using h))
theorem x_sp1 {f : P1} {a : V} {E : XK} (h : f a H Q E) : sp1 f ([a] ++ []) H Q E := ⟨a, rfl, h⟩
theorem x_sp2 {f : P2} {a b : V} {E : XK} (h : f a b H Q E) : sp2 f ([a, b] ++ []) H Q E := ⟨a, b, rfl, h⟩
theorem x_sp3 {f : P3} {a b c : V} {E : XK} (h : f a b c H Q E) : sp3 f ([a, b, c] ++ []) H Q E := ⟨a, b, c, rfl, h⟩
theorem x_sp0 {f : P0} {E : XK} (h : f H Q E) : sp0 f ([] ++ []) H Q E := ⟨rfl, h⟩
/-- an item of a list, a tuple, a text -/
theorem x_ixL {p : Addr} {xs : List V} {n : Int} (hs : H p = some (.lst xs)) (ha : atI xs n = some v) (h : Q v H) : rIx K (.ref p) (.int n) H Q := .inl ⟨p, xs, n, v, rfl, rfl, SqL.of hs, ha, h⟩
theorem x_ixT {p : Addr} {xs : List V} {n : Int} (hs : H p = some (.tup xs)) (ha : atI xs n = some v) (h : Q v H) : rIx K (.ref p) (.int n) H Q := .inr (.inl ⟨p, xs, n, v, rfl, rfl, SqT.of hs, ha, h⟩)
theorem x_ixS {z : Str} {n : Int} {c : Nat} (hz : z.length ≤ sizeLine) (ha : atI z.cps.toList n = some c) (h : Q (.str ⟨#[c]⟩) H) : rIx K (.str z) (.int n) H Q := .inr (.inr ⟨z, n, c, rfl, rfl, hz, ha, h⟩)
theorem x_setL {p : Addr} {xs : List V} {n : Int} {j : Nat} {Qh : Hp → Prop} (hs : H p = some (.lst xs)) (hi : ixN xs.length n = some j) (h : Qh (upd H p (.lst (xs.set j v)))) : rSetL (.ref p) (.int n) v H Qh := ⟨p, xs, n, j, rfl, rfl, hs, hi, h⟩
theorem x_sub {to ti : TE} {set : V → V → V → Hp → (Hp → Prop) → Prop} (h : te σ H fun x H1 => gSub to ti set x σ H1 nx) : tAsg te (gSub to ti set) ⟨nx, rt, bk, ct⟩ σ H := h
end
end SW

namespace SW
open PySem PySem.Spec PyProof.Rows L2

/-! ### a def whose promise wants that no repr is under way (A.guards) -/
structure FnG (P : Program) (w : World) (K : PySem.W.Frag) (mg : Str → Option Value) (base : Heap) (CX : CXT) (k : Nat) (f : Addr) (fd : FuncData) (ps : List Str) (sp : Sp) : Prop where
  len : ∀ vs H Q E, sp vs H Q E → vs.length = ps.length
  run : ∀ (A : Around) (outer : List Env) (s : Shared) (H : Hp) (args : Args) (us : List Value) (vs : List V) (Q : VK) (E : XK), A.guards = some [] → Room k A → Env0 P w K mg base A outer s H → BindsTo s fd args (ps.zip us) → Vals vs us →
    sp vs H Q E → codeAny (model P w) A (.call (.ref f) args) (CR CX outer P w H s Q E) s
structure CalG (P : Program) (w : World) (K : PySem.W.Frag) (mg : Str → Option Value) (base : Heap) (k : Nat) (x : Str) (sp : Sp) (dvs : List V) : Prop where
  ex : ∃ (f : Addr) (fd : FuncData) (ps : List Str) (ds : List Value), FnG P w K mg base (L2.CX P w) k f fd ps sp ∧ mg x = some (.ref f) ∧ PySem.W.keepIn K (.ref f) = true ∧ Binds K fd ps ds ∧ Vals dvs ds
section
variable {X : Cx} {CX : CXT} {k j : Nat} {f C : Addr} {fd : FuncData} {ps : List Str} {sp : Sp} {dvs : List V} {ds : List Value} {E : XK} {x m : Str} {p pos apos : Pos} {e o : Expr} {es : List Expr} {ta : TE} {t : TA}
theorem run_g {pins : List (Addr × Obj)} {σ : L2.St} {H : Hp} {s : Shared} {Q : VK} {us : List Value} {vs : List V} (F : FnG X.prog X.w X.K X.mg X.base CX k f fd ps sp) (hG : X.A.guards = some []) (hr : Room k X.A) (hb : Binds X.K fd ps ds) (hd : Vals dvs ds)
    (hx : Passes CX X E) (I : Inv X pins σ H s) (r : Vals vs us) (h : sp (vs ++ dvs) H Q E) : wpAny (model X.prog X.w) X.A (call (.ref f) us) (EP X pins σ Q) X.xe s := by
  have ra : Vals (vs ++ dvs) (us ++ ds) := r.append hd
  have el : (us ++ ds).length = ps.length := ra.length.symm.trans (F.len _ _ _ _ h)
  refine wpAny_call (codeAny_mono (F.run X.A X.stack s H ⟨us, []⟩ _ _ Q E hG hr I.env0 (hb s us I.kIn el) ra h) ?_)
  intro res s' hq
  match res, hq with
  | .error z, hq => exact hx pins σ H s z s' I hq
  | .ok (.ret u), hq => exact I.after hq
theorem pe_g (c : CalG X.prog X.w X.K X.mg X.base k x sp dvs) (hG : X.A.guards = some []) (hr : Room j X.A) (hk : k ≤ j) (hx : Passes (L2.CX X.prog X.w) X E) (ha : PA X (e :: es) t) (hg : Gl X x := by rfl)
    (hdb : (x == ("__debug__" : Str)) = false := by decide) (he : starEach (e :: es) X.env = (false, eval e X.env) :: starEach es X.env := by rfl) (hpl : (backTo pos (starEach es X.env)).any (·.1) = false := by rfl) :
    PE X (.Call (.Name x p) (e :: es) [] pos) (tCall sp dvs E t) := by
  obtain ⟨f, fd, ps, ds, F, hm, kp, b, d⟩ := c.ex
  constructor
  intro pins s σ H Q I h
  refine wpAny_Call_Name_kw (ld_glob I hg hm ?_ hdb)
  refine PySem.W.callWith_K (h₀ := X.base) I.ok.mod.kin kp (thn (ha.run pos pins s σ H _ I h) ?_) he hpl
  rintro us s1 ⟨vs, H1, I1, r, q⟩
  exact ⟨I1.kIn, run_g F hG (hr.mono hk) b d hx I1 r q⟩
end
section
variable {P : Program} {w : World} {K : PySem.W.Frag} {mg : Str → Option Value} {base : Heap} {x qual : Str} {params : Arguments} {body : List Stmt} {scope : Scope} {dvs : List V} {kws : List (Str × V)} {f : Addr} {fd : FuncData}
/-- the body of such a def: FunD.ok's twin -/
theorem okG {CX : CXT} {N ps : List Str} {k : Nat} {sp : Sp} (F : FunD K x qual params body scope dvs kws f fd) (S : FnScope N ps scope) (len : ∀ vs H Q E, sp vs H Q E → vs.length = ps.length)
    (hbody : ∀ (cdv : Value) (A : Around) (outer : List Env) (s : Shared) (H : Hp) (vs : List V) (Q : VK) (E : XK), A.guards = some [] → Room k (A.deeper (envOfC qual scope s.heap.objs.size f cdv)) → sp vs H Q E →
      ∃ t, PSs (cxOf CX P w K mg base N qual scope f cdv A outer s H E) body t ∧ t { nx := fun _ H' => Q .non H', rt := Q } (start N vs) H) : FnG P w K mg base CX (k + 1) f fd ps sp := by
  obtain ⟨oc, od, dV, kV, doc, pm, an, cdv, ct, osl, rfl, lk, hcd, _, _⟩ := F.ex
  refine ⟨len, fun A outer s H args us vs Q E hG hr e0 hb r hsp => ?_⟩
  have el := len _ _ _ _ hsp
  have keepB : ∀ b o, base.get? b = some o → s.heap.get? b = some o := fun b o e => (e0.bs b o e).1
  have KX : K.In s.heap := e0.mod.kin.keeps keepB
  have par : ∀ y ∈ ps.zip us, scope.names.lookup y.1 = some .local ∨ (scope.names.lookup y.1 = some .cell ∧ ((cellsFrom (s.heap.objs.size + 1) scope.names []).lookup y.1).isSome = true) := by
    rintro ⟨n, v⟩ hy
    refine (S.par n (List.of_mem_zip hy).1).imp id fun q => ⟨q, PySem.W.cellsFrom_some _ _ _ (.inl q)⟩
  apply codeAny_call_function hr.depth (KX _ _ lk) rfl S.co S.gen rfl (PySem.W.codeRec_of KX hcd)
  apply hb
  apply wpAny_newFunctionEnv_cells S.kind par
  rintro env rfl s1 x
  refine ⟨(e0.mod.nolimit.keeps keepB).keeps x.toInCall.keep, codeAny_func ?_⟩
  obtain ⟨t, ht, hq⟩ := hbody cdv A outer s H vs Q E hG (hr.deeper _) hsp
  refine wpAny_mono (ht.run [] s1 (start N vs) H _ (inv_start S hr.hd e0 el r x) hq) ?_ fun _ _ z => z
  intro fl s' hs
  match fl, hs with
  | .ret u, ⟨v, _, H', J, rv, q⟩ => exact ⟨v, H', J.os, J.bare, J.base, J.hok, rv, q⟩
  | .next, ⟨_, H', J, q⟩ => exact ⟨V.non, H', J.os, J.bare, J.base, J.hok, rfl, q⟩
  | .brk, ⟨_, _, _, q⟩ => exact q.elim
  | .cont, ⟨_, _, _, q⟩ => exact q.elim
end
end SW

namespace SW
open PySem PySem.Spec PyProof.Rows L2

/-! ### operators by the values' kinds -/
def rPlus (K : PySem.W.Frag) : R2 := fun x y H Q => match x, y with
  | .int i, .int j => Q (.int (i + j)) H
  | .str a, .str b => a.length + b.length ≤ sizeLine ∧ Q (.str (a ++ b)) H
  | .ref a, .ref b => rCat (.ref a) (.ref b) H Q
  | _, _ => False
def CMulA (i j : Int) : Prop := CMul i j ∨ CMulW i j
def CDivA (i j : Int) : Prop := CDivN i j ∨ (CDivW i j)
section
variable {X : Cx} {σ : L2.St} {H : Hp} {Q : VK} {K : PySem.W.Frag}
theorem op_plus : OpR X (binaryOp .Add) (rPlus X.K) := by
  intro pins s σ H x y v u Q I rx ry h
  match x, y, h with
  | .int i, .int j, h => exact op_add pins s σ H _ _ v u Q I rx ry ⟨i, j, rfl, rfl, h⟩
  | .str a, .str b, h => exact op_add_str pins s σ H _ _ v u Q I rx ry ⟨a, b, rfl, rfl, h.1, h.2⟩
  | .ref a, .ref b, h => exact op_cat pins s σ H _ _ v u Q I rx ry h
theorem op_mulX : OpR X (binaryOp .Mult) (rI CMulA fun i j => .int (i * j)) := by
  intro pins s σ H x y v u Q I rx ry h
  obtain ⟨i, j, rfl, rfl, c | c, q⟩ := h
  · exact op_mul pins s σ H _ _ v u Q I rx ry ⟨i, j, rfl, rfl, c, q⟩
  · exact op_mulW pins s σ H _ _ v u Q I rx ry ⟨i, j, rfl, rfl, c, q⟩
theorem op_fdivX : OpR X (binaryOp .FloorDiv) (rI CDivA fun i j => .int (i.fdiv j)) := by
  intro pins s σ H x y v u Q I rx ry h
  obtain ⟨i, j, rfl, rfl, c | c, q⟩ := h
  · exact op_fdivN pins s σ H _ _ v u Q I rx ry ⟨i, j, rfl, rfl, c, q⟩
  · refine op_fdivW pins s σ H _ _ v u Q I rx ry ⟨i, j, rfl, rfl, c, ?_⟩
    have c1 : 0 < j := c.1
    have q' : Q (.int (i.fdiv j)) H := q
    rw [Int.fdiv_eq_ediv_of_nonneg i (b := j) (by omega)] at q'
    exact q'
theorem x_plusI {a b : Int} (h : Q (.int (a + b)) H) : rPlus K (.int a) (.int b) H Q := h
theorem x_plusS {a b : Str} (hz : a.length + b.length ≤ sizeLine) (h : Q (.str (a ++ b)) H) : rPlus K (.str a) (.str b) H Q := ⟨hz, h⟩
theorem x_plusL {a b : Addr} {xs zs : List V} (ha : H a = some (.lst xs)) (hb : H b = some (.lst zs)) (hz : xs.length + zs.length ≤ sizeLine) (h : ∀ p, H p = none → Q (.ref p) (upd H p (.lst (xs ++ zs)))) : rPlus K (.ref a) (.ref b) H Q :=
  ⟨a, b, xs, zs, rfl, rfl, ha, hb, hz, h⟩
theorem pe_gi {x : Str} {n : Int} {pos : Pos} (h : ∃ t, X.mg x = some (.int n t)) (hg : Gl X x := by rfl) (hd : (x == ("__debug__" : Str)) = false := by decide) : PE X (.Name x pos) (tC (.int n)) := by
  obtain ⟨t, e⟩ := h
  exact pe_glob hg e ⟨t, rfl⟩ hd
theorem pe_gs {x z : Str} {pos : Pos} (h : ∃ t, X.mg x = some (.str z t)) (hg : Gl X x := by rfl) (hd : (x == ("__debug__" : Str)) = false := by decide) : PE X (.Name x pos) (tC (.str z)) := by
  obtain ⟨t, e⟩ := h
  exact pe_glob hg e ⟨t, rfl⟩ hd
theorem hu64 {A : Around} {k : Nat} (hr : Room k A) : A.units + 64 < cLine := hr.units
/-- == of scalars, of data -/
def rEqG (K : PySem.W.Frag) : R2 := fun x y H Q => rEq x y H Q ∨ rEqD K x y H Q
def rNeG (K : PySem.W.Frag) : R2 := fun x y H Q => rNe x y H Q ∨ rNeD K x y H Q
theorem op_eqG (hu : X.A.units + 64 < cLine) : OpR X (compareOp .Eq) (rEqG X.K) := op_eq.or (op_eqD hu)
theorem op_neG (hu : X.A.units + 64 < cLine) : OpR X (compareOp .NotEq) (rNeG X.K) := op_ne.or (op_neD hu)
theorem x_eqGI {a b : Int} (h : Q (.bl (decide (a = b))) H) : rEqG K (.int a) (.int b) H Q := .inl (x_eqI h)
theorem x_neGI {a b : Int} (h : Q (.bl (!decide (a = b))) H) : rNeG K (.int a) (.int b) H Q := .inl (x_neI h)
theorem x_eqGS {a b : Str} (h : Q (.bl (decide (a = b))) H) : rEqG K (.str a) (.str b) H Q := .inl ⟨rfl, by
  have e : decide (V.str a = V.str b) = decide (a = b) := by simp
  rw [e]; exact h⟩
theorem x_neGS {a b : Str} (h : Q (.bl (!decide (a = b))) H) : rNeG K (.str a) (.str b) H Q := .inl ⟨rfl, by
  have e : decide (V.str a = V.str b) = decide (a = b) := by simp
  rw [e]; exact h⟩
theorem x_eqGD {x y : V} {d e : PyData} (hx : Dp K H x d) (hy : Dp K H y e) (sd : SeqAt.shaped d = true) (se : SeqAt.shaped e = true) (h : Q (.bl (PyData.eqv d e)) H) : rEqG K x y H Q := .inr ⟨d, e, hx, hy, sd, se, h⟩
theorem x_neGD {x y : V} {d e : PyData} (hx : Dp K H x d) (hy : Dp K H y e) (sd : SeqAt.shaped d = true) (se : SeqAt.shaped e = true) (h : Q (.bl (!PyData.eqv d e)) H) : rNeG K x y H Q := .inr ⟨d, e, hx, hy, sd, se, h⟩
/-- a slice of a text, a list, a tuple -/
def rSlA (K : PySem.W.Frag) : V → Option Int → Option Int → Hp → VK → Prop := fun x lo hi H Q => rSlS x lo hi H Q ∨ rSlL K x lo hi H Q ∨ rSlT K x lo hi H Q
theorem sl_any : SlR X (rSlA X.K) := sl_str.or (sl_list.or sl_tup)
theorem x_slS {z : Str} {lo hi : Option Int} (hz : z.length ≤ sizeLine) (h : Q (.str (cutS z lo hi)) H) : rSlA K (.str z) lo hi H Q := .inl ⟨z, rfl, hz, h⟩
theorem x_slL {a : Addr} {xs : List V} {lo hi : Option Int} (hs : H a = some (.lst xs)) (h : ∀ p, H p = none → Q (.ref p) (upd H p (.lst (cutV xs lo hi)))) : rSlA K (.ref a) lo hi H Q := .inr (.inl ⟨a, xs, rfl, SqL.of hs, h⟩)
/-- repr of data -/
def rRepr (K : PySem.W.Frag) : List V → Hp → VK → Prop := fun xs H Q => (∃ i, xs = [.int i] ∧ i.natAbs.log2 < 1920 ∧ Q (.str (toString i)) H) ∨
  ∃ (a : Addr) (d : PyData), xs = [.ref a] ∧ Dp K H (.ref a) d ∧ d.showable = true ∧ d.hasDict = false ∧ d.depth ≤ 60 ∧ d.shown.length ≤ sizeLine ∧ Q (.str d.shown) H
theorem call_reprG (hG : X.A.guards = some []) (hu : X.A.units + 64 < cLine) : CallR X (.builtin "repr") (rRepr X.K) := by
  intro pins s σ H xs us Q I r h
  rcases h with ⟨i, rfl, hz, q⟩ | ⟨a, d, rfl, dp, sh, nd, dd, sz, q⟩
  · exact SkE.call_repr_int pins s σ H _ us Q I r ⟨i, rfl, hz, q⟩
  · obtain ⟨u, rfl, ru⟩ := vals1 r
    obtain ⟨as, hr⟩ := Dp.reads I d _ u dp ru
    cases ru
    exact repr_of_reads' hr sh (PyData.noDict_hsm nd) hG (by omega) (fun _ _ e => e) (fun h' t tk k => ⟨.str d.shown, H, I.kept k, ⟨t, rfl⟩, q⟩) sz
theorem x_reprD {a : Addr} {d : PyData} (dp : Dp K H (.ref a) d) (sh : d.showable = true) (nd : d.hasDict = false) (dd : d.depth ≤ 60) (sz : d.shown.length ≤ sizeLine) (h : Q (.str d.shown) H) : rRepr K [.ref a] H Q :=
  .inr ⟨a, d, rfl, dp, sh, nd, dd, sz, h⟩
theorem x_reprI {i : Int} (hz : i.natAbs.log2 < 1920) (h : Q (.str (toString i)) H) : rRepr K [.int i] H Q := .inl ⟨i, rfl, hz, h⟩
/-- in: one sign in a text; a flat thing in a list, a tuple -/
def rInG (K : PySem.W.Frag) : R2 := fun x y H Q => match y with
  | .str z => ∃ c, x = .str ⟨#[c]⟩ ∧ Q (.bl (decide (c ∈ z.cps.toList))) H
  | _ => rIn K false x y H Q
theorem op_inG : OpR X (compareOp .In) (rInG X.K) := by
  intro pins s σ H x y v u Q I rx ry h
  match y, h with
  | .str z, ⟨c, e, q⟩ => exact op_in_sign pins s σ H _ _ v u Q I rx ry ⟨c, z, e, rfl, q⟩
  | .ref a, h => exact op_in_seq pins s σ H _ _ v u Q I rx ry h
  | .non, ⟨_, _, e, _⟩ => cases e
  | .bl _, ⟨_, _, e, _⟩ => cases e
  | .int _, ⟨_, _, e, _⟩ => cases e
  | .byt _, ⟨_, _, e, _⟩ => cases e
  | .flt _, ⟨_, _, e, _⟩ => cases e
  | .ty _, ⟨_, _, e, _⟩ => cases e
theorem x_inGS {c : Nat} {z : Str} (h : Q (.bl (decide (c ∈ z.cps.toList))) H) : rInG K (.str ⟨#[c]⟩) (.str z) H Q := ⟨c, rfl, h⟩
theorem x_modP {a b : Int} (hb : 0 < b) (h : Q (.int (a % b)) H) : rI (fun _ j => j ≠ 0) (fun i j => .int (i.fmod j)) (.int a) (.int b) H Q :=
  ⟨a, b, rfl, rfl, by omega, by show Q (.int (a.fmod b)) H; rw [Int.fmod_eq_emod_of_nonneg a (b := b) (by omega)]; exact h⟩
theorem x_divP {a b : Int} (hb : 0 < b) (hs : b < 1073741824) (h : Q (.int (a / b)) H) : rI CDivA (fun i j => .int (i.fdiv j)) (.int a) (.int b) H Q :=
  ⟨a, b, rfl, rfl, .inl ⟨by omega, by omega⟩, by show Q (.int (a.fdiv b)) H; rw [Int.fdiv_eq_ediv_of_nonneg a (b := b) (by omega)]; exact h⟩
theorem x_mulP {a b : Int} (hs : (-18446744073709551616 < a ∧ a < 18446744073709551616) ∨ (-18446744073709551616 < b ∧ b < 18446744073709551616)) (h : Q (.int (a * b)) H) : rI CMulA (fun i j => .int (i * j)) (.int a) (.int b) H Q :=
  ⟨a, b, rfl, rfl, .inl (by unfold CMul; omega), h⟩
theorem x_powP {a b : Int} (h0 : 0 ≤ b) (h1 : b ≤ 1000) (hs : -18446744073709551616 < a ∧ a < 18446744073709551616) (h : Q (.int (a ^ b.toNat)) H) : rI CPow (fun i j => .int (i ^ j.toNat)) (.int a) (.int b) H Q :=
  ⟨a, b, rfl, rfl, ⟨h0, by omega, by omega⟩, h⟩
/-! ### built-ins by the arguments' kinds -/
def rMax2 : List V → Hp → VK → Prop := fun xs H Q => ∃ i j, xs = [.int i, .int j] ∧ Q (.int (max i j)) H
def rMin2 : List V → Hp → VK → Prop := fun xs H Q => ∃ i j, xs = [.int i, .int j] ∧ Q (.int (min i j)) H
def rAbs : List V → Hp → VK → Prop := fun xs H Q => ∃ i, xs = [.int i] ∧ Q (.int (i.natAbs : Int)) H
def rLenA (K : PySem.W.Frag) : List V → Hp → VK → Prop := fun xs H Q => ∃ x n, xs = [x] ∧ LenV K x H n ∧ Q (.int n) H
theorem call_max2X (hc : X.calm = true) : CallR X (.builtin "max") rMax2 := by
  intro pins s σ H xs us Q I r h
  obtain ⟨i, j, rfl, q⟩ := h
  refine call_max2 hc pins s σ H _ us Q I r ⟨i, j, rfl, ?_⟩
  have e : (if j > i then j else i) = max i j := by omega
  rw [e]; exact q
theorem call_min2X (hc : X.calm = true) : CallR X (.builtin "min") rMin2 := by
  intro pins s σ H xs us Q I r h
  obtain ⟨i, j, rfl, q⟩ := h
  refine call_min2 hc pins s σ H _ us Q I r ⟨i, j, rfl, ?_⟩
  have e : (if j < i then j else i) = min i j := by omega
  rw [e]; exact q
theorem call_absX : CallR X (.builtin "abs") rAbs := by
  intro pins s σ H xs us Q I r h
  obtain ⟨i, rfl, q⟩ := h
  refine call_abs pins s σ H _ us Q I r ⟨i, rfl, ?_⟩
  have e : (if i < 0 then -i else i) = (i.natAbs : Int) := by omega
  rw [e]; exact q
theorem call_lenX : CallR X (.builtin "len") (rLenA X.K) := call_len
theorem x_max2 {i j : Int} (h : Q (.int (max i j)) H) : rMax2 [.int i, .int j] H Q := ⟨i, j, rfl, h⟩
theorem x_min2 {i j : Int} (h : Q (.int (min i j)) H) : rMin2 [.int i, .int j] H Q := ⟨i, j, rfl, h⟩
theorem x_abs {i : Int} (h : Q (.int (i.natAbs : Int)) H) : rAbs [.int i] H Q := ⟨i, rfl, h⟩
theorem x_lenL {p : Addr} {xs : List V} (hs : SqL K H p xs) (h : Q (.int (xs.length : Int)) H) : rLenA K [.ref p] H Q := ⟨_, _, rfl, .inl ⟨_, hs, rfl⟩, h⟩
theorem x_lenT {p : Addr} {xs : List V} (hs : SqT K H p xs) (h : Q (.int (xs.length : Int)) H) : rLenA K [.ref p] H Q := ⟨_, _, rfl, .inr ⟨_, hs, rfl⟩, h⟩
theorem x_lenS {z : Str} (hz : z.length ≤ sizeLine) (h : Q (.int (z.length : Int)) H) : rLenA K [.str z] H Q := ⟨_, _, rfl, ⟨hz, rfl⟩, h⟩
theorem x_ixLS {p : Addr} {xs : List V} {n : Int} {v : V} (hs : SqL K H p xs) (ha : atI xs n = some v) (h : Q v H) : rIx K (.ref p) (.int n) H Q := .inl ⟨p, xs, n, v, rfl, rfl, hs, ha, h⟩
end
theorem x_gSub {to ti : TE} {set : V → V → V → Hp → (Hp → Prop) → Prop} {x : V} {σ : L2.St} {H : Hp} {Q : L2.St → Hp → Prop} (h : to σ H fun o H1 => ti σ H1 fun i H2 => set o i x H2 fun H3 => Q σ H3) : gSub to ti set x σ H Q := h
theorem entry {t : TS} {D : Ends} {σ σ0 : L2.St} {H : Hp} (e : σ = σ0) (h : t D σ0 H) : t D σ H := e ▸ h

/-! ### loops -/
section
variable {σ : L2.St} {H : Hp} {Q : VK} {K : PySem.W.Frag} {D : Ends} {ta : TA} {g : TG} {tb : TS} {te tl : TE} {tt : TT}
/-- n turns from lo on: what holds between them -/
def ForR (lo : Int) (n : Nat) (g : TG) (tb : TS) (D : Ends) (σ : L2.St) (H : Hp) : Prop := ∃ Pv : Nat → L2.St → Hp → Prop, Pv 0 σ H ∧
  (∀ i σ H, i < n → Pv i σ H → g (.int (lo + i)) σ H fun σ2 H2 => tb ⟨Pv (i + 1), D.rt, D.nx, Pv (i + 1)⟩ σ2 H2) ∧ ∀ σ H, Pv n σ H → D.nx σ H
def ForK (J : It) (g : TG) (tb : TS) (D : Ends) (_ : L2.St) (σ : L2.St) (H1 : Hp) : Prop := ∃ W : Nat → Nat → L2.St → Hp → Prop, (∃ m, W 0 m σ H1) ∧ ∀ i m σ H, W i m σ H →
  (J.stop i H ∧ D.nx σ H) ∨ (J.go i H ∧ ∃ N : L2.St → Hp → Prop, (∀ σ' H', N σ' H' → ∃ m', m' < m ∧ W (i + 1) m' σ' H') ∧ ∀ x H', J.yld i H x H' → g x σ H' fun σ2 H2 => tb { D with nx := N, ct := N, bk := D.nx } σ2 H2)
def RngK1 (g : TG) (tb : TS) (D : Ends) (σ : L2.St) (vs : List V) (H1 : Hp) : Prop := ∃ j : Int, vs = [.int j] ∧ -(2 ^ 62) ≤ j ∧ j < 2 ^ 62 ∧ ForK (Itr 0 j.toNat) g tb D σ σ H1
def RngK2 (g : TG) (tb : TS) (D : Ends) (σ : L2.St) (vs : List V) (H1 : Hp) : Prop := ∃ i j : Int, vs = [.int i, .int j] ∧ (-(2 ^ 62) ≤ i ∧ i < 2 ^ 62 ∧ -(2 ^ 62) ≤ j ∧ j < 2 ^ 62) ∧ ForK (Itr i (j - i).toNat) g tb D σ σ H1
theorem x_forR1 (h : ta σ H fun vs H1 => RngK1 g tb D σ vs H1) : tFor (iRng1 ta) g tb D σ H := h
theorem x_forR2 (h : ta σ H fun vs H1 => RngK2 g tb D σ vs H1) : tFor (iRng2 ta) g tb D σ H := h
theorem x_rngK1 {n : Int} (h0 : -1000000 ≤ n ∧ n ≤ 1000000) (h : ForR 0 n.toNat g tb D σ H) : RngK1 g tb D σ [.int n] H := by
  obtain ⟨Pv, p0, ps, pd⟩ := h
  exact ⟨n, rfl, by omega, by omega, for_range (lo := 0) (n := n.toNat) Pv p0 (fun i σ H hi hp => ps i σ H hi hp) pd⟩
theorem x_rngK2 {m n : Int} (h0 : -1000000 ≤ m ∧ m ≤ 1000000 ∧ -1000000 ≤ n ∧ n ≤ 1000000) (h : ForR m (n - m).toNat g tb D σ H) : RngK2 g tb D σ [.int m, .int n] H := by
  obtain ⟨Pv, p0, ps, pd⟩ := h
  exact ⟨m, n, rfl, by omega, for_range (lo := m) (n := (n - m).toNat) Pv p0 (fun i σ H hi hp => ps i σ H hi hp) pd⟩
/-- over a list that stays -/
def ForL (K : PySem.W.Frag) (a : Addr) (xs : List V) (g : TG) (tb : TS) (D : Ends) (σ : L2.St) (H : Hp) : Prop := ∃ Pv : Nat → L2.St → Hp → Prop, Pv 0 σ H ∧ (∀ i σ H, i ≤ xs.length → Pv i σ H → SqL K H a xs) ∧
  (∀ i x σ H, xs[i]? = some x → Pv i σ H → g x σ H fun σ2 H2 => tb ⟨Pv (i + 1), D.rt, D.nx, Pv (i + 1)⟩ σ2 H2) ∧ ∀ σ H, Pv xs.length σ H → D.nx σ H
def LstK (K : PySem.W.Frag) (g : TG) (tb : TS) (D : Ends) (σ : L2.St) (x : V) (H1 : Hp) : Prop := ∃ a, x = .ref a ∧ (∃ xs, SqL K H1 a xs) ∧ ForK (Itl K a) g tb D σ σ H1
theorem x_forL (h : tl σ H fun x H1 => LstK K g tb D σ x H1) : tFor (iList K tl) g tb D σ H := h
theorem x_lstK {a : Addr} {xs : List V} (hs : SqL K H a xs) (h : ForL K a xs g tb D σ H) : LstK K g tb D σ (.ref a) H := by
  obtain ⟨Pv, p0, pl, ps, pd⟩ := h
  exact ⟨a, rfl, ⟨xs, hs⟩, for_list (K := K) (a := a) (xs := xs) Pv p0 pl (fun i x σ H hi hp => ps i x σ H hi hp) pd⟩
theorem x_gName {i : Nat} {v : V} {Qs : L2.St → Hp → Prop} (h : Qs (σ.set i (some v)) H) : gName i v σ H Qs := h
/-- a comprehension: what holds between its turns (d the new list) -/
def LcR (lo : Int) (n : Nat) (g : TG) (tt : TT) (te : TE) (vs : List Nat) (σ : L2.St) (H : Hp) (Q : VK) : Prop := ∀ d, H d = none → ∃ Pv : Nat → Hp → Prop, Pv 0 (upd H d (.lst [])) ∧
  (∀ i H, i < n → Pv i H → g (.int (lo + i)) (wipe σ vs) H fun σ2 H2 => wipe σ2 vs = wipe σ vs ∧ tt σ2 H2 fun b H3 =>
    if b = true then te σ2 H3 fun y H4 => ∃ acc, H4 d = some (.lst acc) ∧ acc.length < sizeLine ∧ Pv (i + 1) (upd H4 d (.lst (acc ++ [y]))) else Pv (i + 1) H3) ∧
  ∀ H, Pv n H → Q (.ref d) H
def LcL (K : PySem.W.Frag) (a : Addr) (xs : List V) (g : TG) (tt : TT) (te : TE) (vs : List Nat) (σ : L2.St) (H : Hp) (Q : VK) : Prop := ∀ d, H d = none → ∃ Pv : Nat → Hp → Prop, Pv 0 (upd H d (.lst [])) ∧ (∀ i H, i ≤ xs.length → Pv i H → SqL K H a xs) ∧
  (∀ i x H, xs[i]? = some x → Pv i H → g x (wipe σ vs) H fun σ2 H2 => wipe σ2 vs = wipe σ vs ∧ tt σ2 H2 fun b H3 =>
    if b = true then te σ2 H3 fun y H4 => ∃ acc, H4 d = some (.lst acc) ∧ acc.length < sizeLine ∧ Pv (i + 1) (upd H4 d (.lst (acc ++ [y]))) else Pv (i + 1) H3) ∧
  ∀ H, Pv xs.length H → Q (.ref d) H
def LcK (J : It) (g : TG) (tt : TT) (te : TE) (vs : List Nat) (σ : L2.St) (Q : VK) (H1 : Hp) : Prop := ∀ D, H1 D = none → ∃ W : Nat → Nat → Hp → Prop, (∃ m, W 0 m (upd H1 D (.lst []))) ∧ ∀ i m H, W i m H →
  (J.stop i H ∧ Q (.ref D) H) ∨ (J.go i H ∧ ∃ Nx : Hp → Prop, (∀ H', Nx H' → ∃ m', m' < m ∧ W (i + 1) m' H') ∧ ∀ x H', J.yld i H x H' → g x (wipe σ vs) H' fun σ2 H2 => wipe σ2 vs = wipe σ vs ∧ tt σ2 H2 fun b H3 =>
    if b = true then te σ2 H3 fun y H4 => ∃ acc, H4 D = some (.lst acc) ∧ acc.length < sizeLine ∧ Nx (upd H4 D (.lst (acc ++ [y]))) else Nx H3)
def LcK1 (g : TG) (tt : TT) (te : TE) (vs : List Nat) (σ : L2.St) (Q : VK) (us : List V) (H1 : Hp) : Prop := ∃ j : Int, us = [.int j] ∧ -(2 ^ 62) ≤ j ∧ j < 2 ^ 62 ∧ LcK (Itr 0 j.toNat) g tt te vs σ Q H1
def LcKL (K : PySem.W.Frag) (g : TG) (tt : TT) (te : TE) (vs : List Nat) (σ : L2.St) (Q : VK) (x : V) (H1 : Hp) : Prop := ∃ a, x = .ref a ∧ (∃ xs, SqL K H1 a xs) ∧ LcK (Itl K a) g tt te vs σ Q H1
theorem x_lcR1 {vs : List Nat} (h : ta σ H fun us H1 => LcK1 g tt te vs σ Q us H1) : tLc (iRng1 ta) g tt te vs σ H Q := h
theorem x_lcL {vs : List Nat} (h : tl σ H fun x H1 => LcKL K g tt te vs σ Q x H1) : tLc (iList K tl) g tt te vs σ H Q := h
theorem x_lcK1 {vs : List Nat} {n : Int} (h0 : -1000000 ≤ n ∧ n ≤ 1000000) (h : LcR 0 n.toNat g tt te vs σ H Q) : LcK1 g tt te vs σ Q [.int n] H := by
  refine ⟨n, rfl, by omega, by omega, fun d hd => ?_⟩
  obtain ⟨Pv, p0, ps, pd⟩ := h d hd
  exact lc_range (lo := 0) (n := n.toNat) Pv p0 ps pd
theorem x_lcKL {vs : List Nat} {a : Addr} {xs : List V} (hs : SqL K H a xs) (h : LcL K a xs g tt te vs σ H Q) : LcKL K g tt te vs σ Q (.ref a) H := by
  refine ⟨a, rfl, ⟨xs, hs⟩, fun d hd => ?_⟩
  obtain ⟨Pv, p0, pl, ps, pd⟩ := h d hd
  exact lc_list (K := K) (a := a) (xs := xs) Pv p0 pl ps pd
/-- over a text, sign by sign -/
def LcS (z : Str) (g : TG) (tt : TT) (te : TE) (vs : List Nat) (σ : L2.St) (H : Hp) (Q : VK) : Prop := ∀ d, H d = none → ∃ Pv : Nat → Hp → Prop, Pv 0 (upd H d (.lst [])) ∧
  (∀ i (c : Nat) H, z.cps.toList[i]? = some c → Pv i H → g (.str ⟨#[c]⟩) (wipe σ vs) H fun σ2 H2 => wipe σ2 vs = wipe σ vs ∧ tt σ2 H2 fun b H3 =>
    if b = true then te σ2 H3 fun y H4 => ∃ acc, H4 d = some (.lst acc) ∧ acc.length < sizeLine ∧ Pv (i + 1) (upd H4 d (.lst (acc ++ [y]))) else Pv (i + 1) H3) ∧
  ∀ H, Pv z.length H → Q (.ref d) H
def StrK (g : TG) (tb : TS) (D : Ends) (σ : L2.St) (x : V) (H1 : Hp) : Prop := ∃ z, x = .str z ∧ ForK (Its z) g tb D σ σ H1
def LcKS (g : TG) (tt : TT) (te : TE) (vs : List Nat) (σ : L2.St) (Q : VK) (x : V) (H1 : Hp) : Prop := ∃ z, x = .str z ∧ LcK (Its z) g tt te vs σ Q H1
def ForS (z : Str) (g : TG) (tb : TS) (D : Ends) (σ : L2.St) (H : Hp) : Prop := ∃ Pv : Nat → L2.St → Hp → Prop, Pv 0 σ H ∧
  (∀ i (c : Nat) σ H, z.cps.toList[i]? = some c → Pv i σ H → g (.str ⟨#[c]⟩) σ H fun σ2 H2 => tb ⟨Pv (i + 1), D.rt, D.nx, Pv (i + 1)⟩ σ2 H2) ∧ ∀ σ H, Pv z.length σ H → D.nx σ H
theorem x_forS (h : tl σ H fun x H1 => StrK g tb D σ x H1) : tFor (iStr tl) g tb D σ H := h
theorem x_lcS {vs : List Nat} (h : tl σ H fun x H1 => LcKS g tt te vs σ Q x H1) : tLc (iStr tl) g tt te vs σ H Q := h
theorem x_strK {z : Str} (h : ForS z g tb D σ H) : StrK g tb D σ (.str z) H := by
  obtain ⟨Pv, p0, ps, pd⟩ := h
  refine ⟨z, rfl, fun i m σ H => m + i = z.cps.size ∧ Pv i σ H, ⟨z.cps.size, by omega, p0⟩, ?_⟩
  rintro i m σ H ⟨em, p⟩
  by_cases hlt : i < z.cps.size
  · refine .inr ⟨hlt, Pv (i + 1), fun σ' H' p' => ⟨m - 1, by omega, by omega, p'⟩, ?_⟩
    rintro x H' ⟨rfl, c, hc, rfl⟩
    exact ps i c σ _ (by simpa using hc) p
  · have e : i = z.length := by show i = z.cps.size; omega
    subst e
    exact .inl ⟨by show z.cps.size ≤ z.cps.size; omega, pd σ H p⟩
theorem x_lcKS {vs : List Nat} {z : Str} (h : LcS z g tt te vs σ H Q) : LcKS g tt te vs σ Q (.str z) H := by
  refine ⟨z, rfl, fun d hd => ?_⟩
  obtain ⟨Pv, p0, ps, pd⟩ := h d hd
  refine ⟨fun i m H => m + i = z.cps.size ∧ Pv i H, ⟨z.cps.size, by omega, p0⟩, ?_⟩
  rintro i m H ⟨em, p⟩
  by_cases hlt : i < z.cps.size
  · refine .inr ⟨hlt, Pv (i + 1), fun H' p' => ⟨m - 1, by omega, by omega, p'⟩, ?_⟩
    rintro x H' ⟨rfl, c, hc, rfl⟩
    exact ps i c _ (by simpa using hc) p
  · have e : i = z.length := by show i = z.cps.size; omega
    subst e
    exact .inl ⟨by show z.cps.size ≤ z.cps.size; omega, pd H p⟩
theorem x_yes {Qb : Bool → Hp → Prop} (h : Qb true H) : tYes σ H Qb := h
end
end SW

namespace SW
open PySem PySem.Spec PyProof.Rows L2

/-! ### heaps: what was tracked stands; all but p stands -/
def Chg (p : Addr) (H H' : Hp) : Prop := ∀ b o, b ≠ p → H b = some o → H' b = some o
theorem Chg.refl {p : Addr} {H : Hp} : Chg p H H := fun _ _ _ e => e
theorem Chg.trans {p : Addr} {H H1 H2 : Hp} (a : Chg p H H1) (b : Chg p H1 H2) : Chg p H H2 := fun c o n e => b c o n (a c o n e)
theorem Same.trans {H H1 H2 : Hp} (a : Same H H1) (b : Same H1 H2) : Same H H2 := fun c o e => b c o (a c o e)
theorem none_of {H H' : Hp} {a : Addr} (s : Same H H') (n : H' a = none) : H a = none := by
  cases h : H a with
  | none => rfl
  | some o => rw [s _ _ h] at n; cases n
theorem sql_keep {K : PySem.W.Frag} {H H' : Hp} {a : Addr} {xs : List V} (h : SqL K H a xs) (s : Same H H') : SqL K H' a xs := by
  rcases h with (h | ⟨o, h⟩) | h
  · exact .inl (.inl (s _ _ h))
  · exact .inl (.inr ⟨o, s _ _ h⟩)
  · exact .inr h
theorem sqt_keep {K : PySem.W.Frag} {H H' : Hp} {a : Addr} {xs : List V} (h : SqT K H a xs) (s : Same H H') : SqT K H' a xs := by
  rcases h with (h | ⟨o, h⟩) | h
  · exact .inl (.inl (s _ _ h))
  · exact .inl (.inr ⟨o, s _ _ h⟩)
  · exact .inr h
theorem Chg.of {p : Addr} {H H' : Hp} (s : Same H H') : Chg p H H' := fun b o _ e => s b o e
theorem Chg.upd {p : Addr} {H : Hp} {o : HO} : Chg p H (upd H p o) := fun b u n e => by rw [upd_ne n]; exact e
/-- the part that stays, behind a change at p -/
theorem stay {p : Addr} {G H H' : Hp} (s : Same G H) (n : G p = none) (c : Chg p H H') : Same G H' := fun b o e => c b o (ne_of_none e n) (s b o e)
theorem same_new {H : Hp} {p : Addr} {o : HO} (n : H p = none) : Same H (upd H p o) := fun b u e => by rw [upd_ne (ne_of_none e n)]; exact e
theorem same_mut {G H : Hp} {p : Addr} {o : HO} (s : Same G H) (n : G p = none) : Same G (upd H p o) := fun b u e => by rw [upd_ne (ne_of_none e n)]; exact s b u e

/-! ### the box: three whole numbers; k draws may still be made -/
def BoxAt (k : Nat) (H : Hp) (p : Addr) : Prop := ∃ x y c : Int, H p = some (.lst [.int x, .int y, .int c]) ∧ 0 ≤ y ∧ y < 2147483629 ∧ 0 ≤ c ∧ c + (k : Int) ≤ 1000000
theorem BoxAt.le {k j : Nat} {H : Hp} {p : Addr} (b : BoxAt k H p) (h : j ≤ k) : BoxAt j H p := by
  obtain ⟨x, y, c, e, h1, h2, h3, h4⟩ := b
  exact ⟨x, y, c, e, h1, h2, h3, by omega⟩
theorem BoxAt.same {k : Nat} {H H' : Hp} {p : Addr} (b : BoxAt k H p) (s : Same H H') : BoxAt k H' p := by
  obtain ⟨x, y, c, e, h⟩ := b
  exact ⟨x, y, c, s _ _ e, h⟩
theorem BoxAt.ex {k : Nat} {H : Hp} {p : Addr} (b : BoxAt k H p) : ∃ o, H p = some o := by
  obtain ⟨x, y, c, e, h⟩ := b
  exact ⟨_, e⟩
theorem BoxAt.upd {k : Nat} {H : Hp} {p q : Addr} {o : HO} (b : BoxAt k H p) (n : H q = none) : BoxAt k (upd H q o) p := b.same (same_new n)

theorem BoxAt.upd_of {k : Nat} {H : Hp} {p q : Addr} {o : HO} (b : BoxAt k H p) (n : q ≠ p) : BoxAt k (L2.upd H q o) p := by
  obtain ⟨x, y, c, e, h⟩ := b
  exact ⟨x, y, c, by rw [L2.upd_ne (Ne.symm n)]; exact e, h⟩
/-- behind: a thing that was new is written -/
theorem Chg.updN {p q : Addr} {H H' : Hp} {o : HO} (c : Chg p H H') (n : H q = none) : Chg p H (L2.upd H' q o) := fun b u e h => by
  rw [L2.upd_ne (ne_of_none h n)]; exact c b u e h
/-! ### promises of the law's helpers -/
def p_law_cell (K : PySem.W.Frag) : P2 := fun a b H Q _ => ∃ (p : Addr) (ns : List Int) (k : Nat), a = .ref p ∧ b = .int (k : Int) ∧ k < 1000 ∧ SqL K H p (ns.map V.int) ∧ ∀ n, Q (.int n) H
def p_law_box : P1 := fun a H Q _ => ∃ n : Int, a = .int n ∧ ∀ p H', H p = none → Same H H' → BoxAt 900000 H' p → Q (.ref p) H'
def p_law_take : P2 := fun a b H Q _ => ∃ (p : Addr) (m : Int) (k : Nat), a = .ref p ∧ b = .int m ∧ 0 < m ∧ m < 1073741824 ∧ BoxAt (k + 1) H p ∧
  ∀ d H', 0 ≤ d → d < m → BoxAt k H' p → Chg p H H' → Q (.int d) H'
def p_law_far : P1 := fun a H Q _ => ∃ (p : Addr) (k : Nat), a = .ref p ∧ BoxAt (k + 20) H p ∧ ∀ n H', n.natAbs < 10 ^ 27 → BoxAt k H' p → Chg p H H' → Q (.int n) H'
theorem take_use {p : Addr} {m : Int} {k : Nat} {H : Hp} {Q : VK} {E : XK} (bx : BoxAt (k + 1) H p) (m0 : 0 < m) (m1 : m < 1073741824) (h : ∀ d H', 0 ≤ d → d < m → BoxAt k H' p → Chg p H H' → Q (.int d) H') : p_law_take (.ref p) (.int m) H Q E :=
  ⟨p, m, k, rfl, rfl, m0, m1, bx, h⟩
theorem far_use {p : Addr} {k : Nat} {H : Hp} {Q : VK} {E : XK} (bx : BoxAt (k + 20) H p) (h : ∀ n H', n.natAbs < 10 ^ 27 → BoxAt k H' p → Chg p H H' → Q (.int n) H') : p_law_far (.ref p) H Q E := ⟨p, k, rfl, bx, h⟩
end SW

namespace SW
open PySem PySem.Spec PyProof.Rows L2

/-! ### exceptions of the program's own classes over ValueError, as values -/
/-- what the written part says of such a class, as one look -/
def oexB (K : PySem.W.Frag) (C : Addr) : Bool := match K.lookup C with
  | some ⟨.type t, _, .cls cd, sl⟩ => decide (t = "type") && (match cd.mro with
    | .ref C' :: bm => decide (C' = C) && PySem.HandSPX.refsVE bm
    | _ => false) && (cd.hasDict && !cd.hasDel) && (match sl.toList with
    | [_, _, _, _, some (.builtin n), _] => decide (n = "ValueError.__new__")
    | _ => false)
  | _ => false
theorem oexB_ok {K : PySem.W.Frag} {C : Addr} (h : oexB K C = true) : ∃ nm q N bs bm sn sub ab col dd k0 k1 k2 k3 k5, K.lookup C = some (excClassObj nm q C N bs bm true sn sub ab col dd k0 k1 k2 k3 k5 "ValueError.__new__") ∧ PySem.HandSPX.refsVE bm = true := by
  unfold oexB at h
  split at h
  · rename_i t dd cd sl e
    obtain ⟨nm, bs, mro, ns, qn, hd, sn, sub, ab, col, del⟩ := cd
    simp only [Bool.and_eq_true, decide_eq_true_eq, Bool.not_eq_true'] at h
    obtain ⟨⟨⟨rfl, h2⟩, rfl, rfl⟩, h4⟩ := h
    split at h2
    · rename_i C' bm
      simp only [Bool.and_eq_true, decide_eq_true_eq] at h2
      obtain ⟨rfl, h2⟩ := h2
      split at h4
      · rename_i k0 k1 k2 k3 n k5 es
        have en : n = "ValueError.__new__" := of_decide_eq_true h4
        subst en
        have esl : sl = #[k0, k1, k2, k3, some (.builtin "ValueError.__new__"), k5] := by
          obtain ⟨l⟩ := sl
          have : l = [k0, k1, k2, k3, some (.builtin "ValueError.__new__"), k5] := es
          rw [this]
        subst esl
        exact ⟨nm, qn, ns, bs, bm, sn, sub, ab, col, dd, k0, k1, k2, k3, k5, e, h2⟩
      · cases h4
    · cases h2
  · cases h
def excB (K : PySem.W.Frag) (C : Addr) : Bool :=
  He.eqO (PySem.W.findIn K (.ref C) "__getattribute__") (some (some (.builtin "BaseException.__getattribute__"))) && (He.eqO (PySem.W.findIn K (.ref C) "__getattr__") (some none) && (decide (PySem.W.subIn K (.ref C) (.type "BaseException") = some true) &&
  (PySem.W.hasDictIn K C && (He.eqO (PySem.W.findIn K (.ref C) "__class__") (some (some (.builtin "object.__class__"))) && (He.eqO (PySem.W.specialIn K (.builtin "object.__class__") "__get__") (some (some (.builtin "getset_descriptor.__get__"))) &&
  (decide (PySem.W.takesIn K (.builtin "object.__class__") = some true) && decide (PySem.W.mroIn K C (.type "object") = some true)))))))
theorem excB_ok {K : PySem.W.Frag} {C : Addr} (h : excB K C = true) : ExcC K C := by
  simp only [excB, Bool.and_eq_true, decide_eq_true_eq] at h
  obtain ⟨h1, h2, h3, h4, h5, h6, h7, h8⟩ := h
  exact ⟨He.eqO_ok h1, He.eqO_ok h2, h3, h4, He.eqO_ok h5, He.eqO_ok h6, h7, h8⟩
def xcB (K : PySem.W.Frag) (C : Addr) : Bool := oexB K C && (excB K C && (He.eqO (PySem.W.findIn K (.ref C) "__setattr__") (some (some (.builtin "object.__setattr__"))) && (decide (PySem.W.typeIn K (.ref C) = some (.type "type")) && PySem.W.keepIn K (.ref C))))
structure XcC (K : PySem.W.Frag) (C : Addr) : Prop where
  o : OexC K C
  x : ExcC K C
theorem xcB_ok {K : PySem.W.Frag} {C : Addr} (h : xcB K C = true) : XcC K C := by
  simp only [xcB, Bool.and_eq_true, decide_eq_true_eq] at h
  obtain ⟨h1, h2, h3, h4, h5⟩ := h
  have e := excB_ok h2
  exact ⟨⟨oexB_ok h1, He.eqO_ok h3, e.hs, h4, h5⟩, e⟩
/-- a def __init__ of a class -/
structure IniC (K : PySem.W.Frag) (C f : Addr) : Prop where
  at_ : PySem.W.findIn K (.ref C) "__init__" = some (some (.ref f))
  ty : PySem.W.typeIn K (.ref f) = some (.type "function")
/-- the class at D, whose __init__ is a built-in's -/
structure BiniC (K : PySem.W.Frag) (D : Addr) (id : String) : Prop where
  rd : ClX.CRead K D (.type "type")
  at_ : PySem.W.findCls K (.ref D) (.type "type") "__init__" = some (.val (.builtin id))

/-- an exception made: at a, of the class at C, its fields in the dict at dx -/
def ExV (H : Hp) (a C : Addr) (fs : List (Str × V)) : Prop := ∃ dx, H a = some (exo a C (some dx)) ∧ H dx = some (exd dx fs)
theorem ExV.same {H H' : Hp} {a C : Addr} {fs : List (Str × V)} (h : ExV H a C fs) (s : Same H H') : ExV H' a C fs := by
  obtain ⟨dx, h1, h2⟩ := h
  exact ⟨dx, s _ _ h1, s _ _ h2⟩

section
variable {X : Cx} {pins : List (Addr × Obj)} {σ : L2.St} {H : Hp} {s : Shared} {e : Expr} {es : List Expr} {ta : TA} {p p1 p2 pos : Pos} {x : Str} {C D fI : Addr} {k j : Nat} {sp : Sp} {dvs : List V}
/-- D.__init__(self, ..), D an own class without __init__ -/
theorem pe_ocinit {pl : Sem Bool} (hm : X.mg x = some (.ref D)) (B : BiniC X.K D "ValueError.__init__") (ha : PA X (e :: es) ta) (hg : Gl X x := by rfl)
    (hc : eval (.Call (.Attribute (.Name x p1) "__init__" p2) (e :: es) [] pos) X.env = (do
      let ov ← eval (.Name x p1) X.env
      standAt p2.atName
      let (f, first) ← holding [ov] (getMethod ov "__init__" pl)
      callWith pos f first (backTo pos (starEach (e :: es) X.env)) (backToKw pos (keywordEach [] X.env))) := by rfl)
    (hdb : (x == ("__debug__" : Str)) = false := by decide)
    (he : starEach (e :: es) X.env = (false, eval e X.env) :: starEach es X.env := by rfl) (hpl : (backTo pos (starEach es X.env)).any (·.1) = false := by rfl) :
    PE X (.Call (.Attribute (.Name x p1) "__init__" p2) (e :: es) [] pos) (tVeI X.K ta) := by
  constructor
  intro pins s σ H Q I h
  refine PySem.W.methodCall_KW (ld_glob I hg hm ?_ hdb) hc
  refine PySem.W.method_cls I.kIn B.rd.ga (PySem.W.cls_value I.kIn B.rd.rd B.at_ rfl ?_)
  show wpAny _ _ (callWith pos (Value.builtin "ValueError.__init__") [] (backTo pos (starEach (e :: es) X.env)) []) _ _ _
  refine PyProof.Rows.callWith_method1 (thn (ha.run pos pins _ σ H _ (I.tok _) h) ?_) he hpl
  rintro us s1 ⟨vs, H1, I1, r1, a, C, ws, rfl, hl, T, ea, q⟩
  cases r1 with
  | @cons _ u0 _ ur ra rw' =>
    obtain rfl : u0 = Value.ref a := ra
    have hlen : ur.length ≤ sizeLine := by
      rw [← Paired.length rw', sizeLine_eq]
      omega
    exact oinit_ok T I1 ea hlen fun s' J => ⟨.non, H1, J, rfl, q⟩
/-- C(e, ..) as a value -/
def tExv (C : Addr) (sp : Sp) (dvs : List V) (ta : TA) : TE := fun σ H Q => ta σ H fun vs H1 => vs.length ≤ 1000 ∧ ∀ a, H1 a = none → sp (.ref a :: (vs ++ dvs)) (upd H1 a (exo a C none)) (fun v H2 => v = .non ∧ Q (.ref a) H2) E0
theorem run_exv {us : List Value} {vs : List V} {Q : VK} {fd : FuncData} {ps : List Str} {ds : List Value} (T : OexC X.K C) (iC : IniC X.K C fI) (F1 : FnOk X.prog X.w X.K X.mg X.base (L2.CX X.prog X.w) k fI fd ps sp) (hr : Room (k + 1) X.A) (hb : Binds X.K fd ps ds) (hd : Vals dvs ds)
    (I1 : Inv X pins σ H s) (r1 : Vals vs us) (hz : vs.length ≤ 1000) (q1 : ∀ a, H a = none → sp (.ref a :: (vs ++ dvs)) (upd H a (exo a C none)) (fun v H2 => v = .non ∧ Q (.ref a) H2) E0) :
    wpAny (model X.prog X.w) X.A (call (.ref C) us) (EP X pins σ Q) X.xe s := by
  obtain ⟨nm, q, N, bs, bm, sn, sub, ab, col, dd, k0, k1, k2, k3, k5, hC, hbm⟩ := T.cls
  obtain ⟨hp, g, dr, tk, os⟩ := s
  have fr : H (hp.objs.size + 1) = none := I1.hok.fresh (Nat.le_succ _)
  have hq := q1 _ fr
  have kk : ∀ b o, hp.get? b = some o → ((hp.push (PySem.W.kdv_tup us)).push (PySem.HandSPX.excO C hp.objs.size)).get? b = some o := fun b o z => Heap.get?_push_of_some _ (Heap.get?_push_of_some _ z)
  have hget : ((hp.push (PySem.W.kdv_tup us)).push (PySem.HandSPX.excO C hp.objs.size)).get? (hp.objs.size + 1) = some (PySem.HandSPX.excO C hp.objs.size) := by heap_get
  have I2 := I1.laid (t' := tk) (a := hp.objs.size + 1) (o := exo (hp.objs.size + 1) C none) (h' := (hp.push (PySem.W.kdv_tup us)).push (PySem.HandSPX.excO C hp.objs.size)) kk (Nat.le_succ _) (exo_ok hget)
  have r2 : Vals (V.ref (hp.objs.size + 1) :: (vs ++ dvs)) (Value.ref (hp.objs.size + 1) :: (us ++ ds)) := .cons rfl (r1.append hd)
  have hl : (Value.ref (hp.objs.size + 1) :: us ++ ds).length = ps.length := r2.length.symm.trans (F1.len _ _ _ _ hq)
  have hus : us.length ≤ sizeLine := by
    rw [← Paired.length r1, sizeLine_eq]
    omega
  refine wpAny_call (PySem.HandSPX.call_own F.excBase_ValueError (fun Y => PySem.HandSPX.refsVE_contains Y bm hbm) (I1.kIn _ _ hC) (PySem.W.looks_findIn I1.kIn iC.at_) (fun self => PySem.W.bind_fn I1.kIn self iC.ty) hus
    (codeAny_mono (F1.run _ X.stack _ _ ⟨Value.ref (hp.objs.size + 1) :: us, []⟩ _ _ _ E0 (hr.make C us []) (I2.env0.make C us []) (hb _ (Value.ref (hp.objs.size + 1) :: us) I2.kIn hl) r2 hq) ?_))
  intro res s' hq'
  match res, hq' with
  | .error er, hq' => exact (passL (X := X) pins σ _ _ er s' I2 hq')
  | .ok (.ret u), hq' =>
    obtain ⟨v, H2, J, rv, rfl, q2⟩ := I2.after hq'
    exact ⟨rv, V.ref (hp.objs.size + 1), H2, J, rfl, q2⟩
theorem pe_exv {fd : FuncData} {ps : List Str} {ds : List Value} (T : XcC X.K C) (iC : IniC X.K C fI) (F1 : FnOk X.prog X.w X.K X.mg X.base (L2.CX X.prog X.w) k fI fd ps sp) (hb : Binds X.K fd ps ds) (hd : Vals dvs ds) (hm : X.mg x = some (.ref C)) (hr : Room j X.A) (hk : k + 1 ≤ j) (ha : PA X (e :: es) ta) (hg : Gl X x := by rfl)
    (hdb : (x == ("__debug__" : Str)) = false := by decide) (he : starEach (e :: es) X.env = (false, eval e X.env) :: starEach es X.env := by rfl) (hpl : (backTo pos (starEach es X.env)).any (·.1) = false := by rfl) :
    PE X (.Call (.Name x p) (e :: es) [] pos) (tExv C sp dvs ta) := by
  constructor
  intro pins s σ H Q I h
  refine wpAny_Call_Name_kw (ld_glob I hg hm ?_ hdb)
  refine PySem.W.callWith_K (h₀ := X.base) I.ok.mod.kin T.o.kC (thn (ha.run pos pins s σ H _ I h) ?_) he hpl
  rintro us s1 ⟨vs, H1, I1, r1, hz, q1⟩
  exact ⟨I1.kIn, run_exv T.o iC F1 (hr.mono hk) hb hd I1 r1 hz q1⟩
end

/-! ### isinstance, of exceptions too -/
inductive TyE (K : PySem.W.Frag) (H : Hp) : V → Value → Prop where
  | x {v : V} {t : Value} (h : TyX K H v t) : TyE K H v t
  | exc {a C : Addr} {fs : List (Str × V)} (e : ExV H a C fs) (c : ExcC K C) : TyE K H (.ref a) (.ref C)
section
variable {X : Cx} {pins : List (Addr × Obj)} {σ : L2.St} {H : Hp} {s : Shared}
theorem kitE_of {x : V} {u t : Value} (I : Inv X pins σ H s) (rx : RelV x u) (ty : TyE X.K H x t) : ∃ P : Heap → Prop, PySem.W.KitX X.K u t P ∧ P s.heap ∧ u ≠ .builtin "__main__.__loader__#opaque" := by
  cases ty with
  | x h => exact kit_of I rx h
  | @exc a C fs e c =>
    cases (show u = Value.ref a from rx)
    obtain ⟨dx, e1, e2⟩ := e
    obtain ⟨t1, ho⟩ := exo_at I.hok e1
    obtain ⟨mA, ⟨od, es, ep, hod, _⟩, _⟩ := exd_at I.hok e2
    have J : PySem.W.InstAt s.heap a { cls := .ref C, dict := some dx, data := .fields #[.ref t1, .none, .none, .none, .bool false, .none] } C (some od) := ⟨ho, rfl, rfl, hod⟩
    have hcl : (PySem.W.clsIn X.K C).isSome = true := by
      have h := c.hd
      unfold PySem.W.hasDictIn at h
      cases hc : PySem.W.clsIn X.K C with
      | none => rw [hc] at h; cases h
      | some _ => rfl
    exact ⟨_, PySem.W.kitx_exc hcl c.hg c.hk c.hs c.ha c.hn c.ht c.hm, J, fun z => nomatch z⟩
/-- isinstance(x, c), one class -/
def rIsX (K : PySem.W.Frag) : List V → Hp → VK → Prop := fun xs H Q => ∃ (x c : V) (t u : Value) (b : Bool), xs = [x, c] ∧ ClsV c u ∧ TyE K H x t ∧ PySem.W.kitOne K t u = some b ∧ Q (.bl b) H
theorem call_isiX : CallR X (.builtin "isinstance") (rIsX X.K) := by
  intro pins s σ H xs us Q I r h
  obtain ⟨x, c, t, u, b, rfl, k, ty, e, q⟩ := h
  obtain ⟨u1, u2, rfl, r1, r2⟩ := vals2 r
  obtain rfl := k.eq r2
  obtain ⟨P, Z, p, hx⟩ := kitE_of I r1 ty
  exact PySem.W.kia_one Z I.kIn p e hx fun tk => ⟨.bl b, H, I.tok tk, rfl, q⟩
end
end SW

namespace SW
open PySem PySem.Spec PyProof.Rows L2

/-! ### own exceptions with their promises -/
structure ExcX (P : Program) (w : World) (K : PySem.W.Frag) (mg : Str → Option Value) (base : Heap) (k : Nat) (x : Str) (C : Addr) (sp : Sp) (dvs : List V) : Prop where
  ex : ∃ (f : Addr) (fd : FuncData) (ps : List Str) (ds : List Value), XcC K C ∧ IniC K C f ∧ FnOk P w K mg base (L2.CX P w) k f fd ps sp ∧ mg x = some (.ref C) ∧ Binds K fd ps ds ∧ Vals dvs ds
section
variable {X : Cx} {k j : Nat} {C : Addr} {x : Str} {sp : Sp} {dvs : List V} {p pos : Pos} {e : Expr} {es : List Expr} {t : TA}
theorem pe_exx (c : ExcX X.prog X.w X.K X.mg X.base k x C sp dvs) (hr : Room j X.A) (hk : k + 1 ≤ j) (ha : PA X (e :: es) t) (hg : Gl X x := by rfl)
    (hdb : (x == ("__debug__" : Str)) = false := by decide) (he : starEach (e :: es) X.env = (false, eval e X.env) :: starEach es X.env := by rfl) (hpl : (backTo pos (starEach es X.env)).any (·.1) = false := by rfl) :
    PE X (.Call (.Name x p) (e :: es) [] pos) (tExv C sp dvs t) := by
  obtain ⟨f, fd, ps, ds, T, I, F, hm, b, d⟩ := c.ex
  exact pe_exv T I F b d hm hr hk ha hg hdb he hpl
end

/-! ### texts' methods, order, str(int) -/
def rLtS : R2 := fun x y H Q => ∃ i j, x = .str i ∧ y = .str j ∧ Q (.bl (decide (i.cps.toList < j.cps.toList))) H
def rLeS : R2 := fun x y H Q => ∃ i j, x = .str i ∧ y = .str j ∧ Q (.bl (!decide (j.cps.toList < i.cps.toList))) H
def rGtS : R2 := fun x y H Q => ∃ i j, x = .str i ∧ y = .str j ∧ Q (.bl (decide (j.cps.toList < i.cps.toList))) H
def rGeS : R2 := fun x y H Q => ∃ i j, x = .str i ∧ y = .str j ∧ Q (.bl (!decide (i.cps.toList < j.cps.toList))) H
def rStr : List V → Hp → VK → Prop := fun xs H Q => (∃ i, xs = [.int i] ∧ i.natAbs.log2 < 1920 ∧ Q (.str (toString i)) H) ∨ ∃ a, xs = [.str a] ∧ Q (.str a) H
def rJoin (K : PySem.W.Frag) : V → List V → Hp → VK → Prop := fun x xs H Q => ∃ a p, ∃ ys : List Str, x = .str a ∧ xs = [.ref p] ∧ (SqL K H p (ys.map V.str) ∨ SqT K H p (ys.map V.str)) ∧
      (ys.map (·.length)).sum + ys.length * a.length ≤ 16777216 ∧ Q (.str (Txt.join a ys)) H
section
variable {X : Cx} {σ : L2.St} {H : Hp} {Q : VK} {K : PySem.W.Frag} {to te : TE} {o e : Expr} {apos pos : Pos}
theorem op_ltS : OpR X (compareOp .Lt) rLtS := op_lt_str
theorem op_leS : OpR X (compareOp .LtE) rLeS := op_le_str
theorem op_gtS : OpR X (compareOp .Gt) rGtS := op_gt_str
theorem op_geS : OpR X (compareOp .GtE) rGeS := op_ge_str
theorem x_ltS {a b : Str} (h : Q (.bl (decide (a.cps.toList < b.cps.toList))) H) : rLtS (.str a) (.str b) H Q := ⟨a, b, rfl, rfl, h⟩
theorem x_leS {a b : Str} (h : Q (.bl (!decide (b.cps.toList < a.cps.toList))) H) : rLeS (.str a) (.str b) H Q := ⟨a, b, rfl, rfl, h⟩
theorem x_gtS {a b : Str} (h : Q (.bl (decide (b.cps.toList < a.cps.toList))) H) : rGtS (.str a) (.str b) H Q := ⟨a, b, rfl, rfl, h⟩
theorem x_geS {a b : Str} (h : Q (.bl (!decide (a.cps.toList < b.cps.toList))) H) : rGeS (.str a) (.str b) H Q := ⟨a, b, rfl, rfl, h⟩
theorem call_strX : CallR X (.type "str") rStr := by
  intro pins s σ H xs us Q I r h
  rcases h with h | h
  · exact call_str_int pins s σ H xs us Q I r h
  · exact SkE.call_str_str pins s σ H xs us Q I r h
theorem x_strI {i : Int} (hz : i.natAbs.log2 < 1920) (h : Q (.str (toString i)) H) : rStr [.int i] H Q := .inl ⟨i, rfl, hz, h⟩
theorem x_strS {a : Str} (h : Q (.str a) H) : rStr [.str a] H Q := .inr ⟨a, rfl, h⟩
theorem x_m1 {r : V → List V → Hp → VK → Prop} (h : to σ H fun x H1 => (∃ a, x = .str a) ∧ te σ H1 fun y H2 => r x [y] H2 Q) : tM1 r to te σ H Q := h
theorem x_isStr {z : Str} {P : Prop} (h : P) : (∃ a, V.str z = .str a) ∧ P := ⟨⟨z, rfl⟩, h⟩
theorem pe_joinX (ho : PE X o to) (he : PE X e te) (hs : starEach [e] X.env = [(false, eval e X.env)] := by rfl) (hbase : attributeBase o "join" X.env (eval o X.env) = eval o X.env := by rfl) (hline : (apos.endLine == pos.line) = true := by rfl) :
    PE X (.Call (.Attribute o "join" apos) [e] [] pos) (tM1 (rJoin X.K) to te) := pe_join ho he hs hbase hline
theorem x_joinL {a : Str} {p : Addr} {ys : List Str} (hs : SqL K H p (ys.map V.str)) (hz : (ys.map (·.length)).sum + ys.length * a.length ≤ 16777216) (h : Q (.str (Txt.join a ys)) H) : rJoin K (.str a) [.ref p] H Q :=
  ⟨a, p, ys, rfl, rfl, .inl hs, hz, h⟩
theorem x_callTy {rc : List V → Hp → VK → Prop} {tr : TA} (h : tr σ H fun vs H1 => rc vs H1 Q) : tCB rc tr σ H Q := h
theorem x_all {a : Addr} {bs : List Bool} (hs : SqL K H a (bs.map V.bl)) (h : Q (.bl (bs.all id)) H) : rAll K [.ref a] H Q := ⟨a, bs, rfl, hs, h⟩
theorem x_any {a : Addr} {bs : List Bool} (hs : SqL K H a (bs.map V.bl)) (h : Q (.bl (bs.any id)) H) : rAny K [.ref a] H Q := ⟨a, bs, rfl, hs, h⟩
/-! ### exceptions -/
theorem x_exv {C : Addr} {sp : Sp} {dvs : List V} {ta : TA} (h : ta σ H fun vs H1 => vs.length ≤ 1000 ∧ ∀ a, H1 a = none → sp (.ref a :: (vs ++ dvs)) (upd H1 a (exo a C none)) (fun v H2 => v = .non ∧ Q (.ref a) H2) E0) : tExv C sp dvs ta σ H Q := h
theorem x_small {xs : List V} {P : Prop} (hz : xs.length ≤ 1000) (h : P) : xs.length ≤ 1000 ∧ P := ⟨hz, h⟩
end

/-! ### isinstance -/
/-- of the types that a value's isinstance is asked for: none of int, bool, str -/
def offB (K : PySem.W.Frag) (t : Value) (n : String) : Bool := decide (PySem.W.kitOne K t (.type n) = some false)
/-- none of these built-in kinds -/
def noneOf (K : PySem.W.Frag) (t : Value) (ns : List String) : Prop := ∀ n ∈ ns, PySem.W.kitOne K t (.type n) = some false
def kinds3 : List String := ["int", "bool", "str"]
/-- a value of another kind than these -/
def Odd (K : PySem.W.Frag) (ns : List String) (H : Hp) (v : V) : Prop := ∃ t, TyE K H v t ∧ noneOf K t ns
theorem noneOf_ty {K : PySem.W.Frag} {a : String} {ns : List String} (h : (ns.all fun n => decide (kitB a n = some false)) = true) : noneOf K (.type a) ns := fun n hn =>
  kit_ty (of_decide_eq_true (List.all_eq_true.mp h n hn))
section
variable {K : PySem.W.Frag} {H H' : Hp} {Q : VK} {v : V}
theorem x_odd {ns : List String} {n : String} (o : Odd K ns H v) (hn : n ∈ ns) (h : Q (.bl false) H) : rIsX K [v, .ty n] H Q := by
  obtain ⟨t, ty, no⟩ := o
  exact ⟨v, .ty n, t, .type n, false, rfl, .ty n, ty, no n hn, h⟩
theorem x_isi {t : String} {n : String} {b : Bool} (ty : TyE K H v (.type t)) (e : kitB t n = some b) (h : Q (.bl b) H) : rIsX K [v, .ty n] H Q := ⟨v, .ty n, .type t, .type n, b, rfl, .ty n, ty, kit_ty e, h⟩
theorem ty_int (i : Int) : TyE K H (.int i) (.type "int") := .x (.base (.int i))
theorem ty_str (z : Str) : TyE K H (.str z) (.type "str") := .x (.base (.str z))
theorem ty_bl (b : Bool) : TyE K H (.bl b) (.type "bool") := .x (.base (.bl b))
theorem ty_non : TyE K H .non (.type "NoneType") := .x (.base .non)
theorem Odd.keep {ns : List String} {G : Hp} (o : Odd K ns G v) (s : Same G H) : Odd K ns H v := by
  obtain ⟨t, ty, no⟩ := o
  refine ⟨t, ?_, no⟩
  cases ty with
  | exc e c => exact .exc (e.same s) c
  | x h => cases h with
    | byt b => exact .x (.byt b)
    | set e => exact .x (.set (s _ _ e))
    | kList e c => exact .x (.kList e c)
    | kTuple e c => exact .x (.kTuple e c)
    | kDict e c => exact .x (.kDict e c)
    | fTuple e => exact .x (.fTuple (s _ _ e))
    | fDict e => exact .x (.fDict (s _ _ e))
    | base h => cases h with
      | non => exact ty_non
      | bl b => exact ty_bl b
      | int i => exact ty_int i
      | str z => exact ty_str z
      | flt f => exact .x (.base (.flt f))
      | lst e => exact .x (.base (.lst (s _ _ e)))
      | frz e => exact .x (.base (.frz (s _ _ e)))
      | tup e => exact .x (.base (.tup (s _ _ e)))
      | dK e => exact .x (.base (.dK (s _ _ e)))
      | dT e => exact .x (.base (.dT (s _ _ e)))
      | ins e cl ha hn htk hm => exact .x (.base (.ins (s _ _ e) cl ha hn htk hm))
end
end SW

namespace SW
open PySem PySem.Spec PyProof.Rows L2

/-! ### the head's Hook: facts as one Bool of the written part -/
def asX (g : Addr → Option Obj) : Nat → List Addr
  | 0 => [mainGlobals, PySem.cStatics]
  | n + 1 => He.growD g (asX g n)
def obsX (fb : PySem.W.Frag → Bool) (fn : List He.DefD) (K : PySem.W.Frag) : He.AlD := (fb K && fn.all fun d => d.ok K, fn.map fun d => He.fnW K d.at_)
def SaysX (fb : PySem.W.Frag → Bool) (fn : List He.DefD) (K : PySem.W.Frag) : Prop := obsX fb fn K = He.valD fn
def obsXG (n : Nat) (fb : PySem.W.Frag → Bool) (fn : List He.DefD) (g : Addr → Option Obj) : He.AlD := obsX fb fn (He.frG g (asX g n))
def hookX (n : Nat) (fb : PySem.W.Frag → Bool) (fn : List He.DefD) : PySem.W.Hook where
  α := He.AlD
  obs := fun s => obsXG n fb fn s.heap.get?
  val := fun _ => He.valD fn
  says := fun _ h => ∃ K : PySem.W.Frag, K.In h ∧ SaysX fb fn K
  of := fun _ _ e => ⟨_, He.frG_in, e⟩
  keeps := fun _ _ _ ⟨K, hK, c⟩ k => ⟨K, PySem.W.Frag.In.keeps hK k, c⟩
theorem obsXG_eq {n : Nat} {fb : PySem.W.Frag → Bool} {fn : List He.DefD} {g : Addr → Option Obj} {s : Shared} (h : ∀ a, g a = s.heap.get? a) : obsXG n fb fn g = (hookX n fb fn).obs s := by
  have e : g = s.heap.get? := funext h
  rw [e] <;> rfl
section
variable {fb : PySem.W.Frag → Bool} {fn : List He.DefD} {K : PySem.W.Frag}
theorem SaysX.facts (c : SaysX fb fn K) : fb K = true := (He.ba (show (fb K && fn.all fun d => d.ok K) = true from congrArg (fun z : He.AlD => z.1) c)).1
theorem SaysX.def_ (c : SaysX fb fn K) (i : Nat) {d : He.DefD} (h : fn[i]? = some d := by rfl) : ∃ fd, FunD K d.name d.qual d.params d.body d.scope (d.dvs K) (d.kws K) (He.fAd K d.at_) fd := by
  have c2 := (He.ba (show (fb K && fn.all fun d => d.ok K) = true from congrArg (fun z : He.AlD => z.1) c)).2
  have e : fn.map (fun d => He.fnW K d.at_) = fn.map He.DefD.val := congrArg (fun z : He.AlD => z.2) c
  have e2 : (fn.map fun d => He.fnW K d.at_)[i]? = (fn.map He.DefD.val)[i]? := by rw [e]
  rw [List.getElem?_map, List.getElem?_map, h] at e2
  exact He.DefD.funD (Option.some.inj e2) (List.all_eq_true.mp c2 d (List.mem_of_getElem? h))
end
/-- a list of facts -/
def allB (fs : List (PySem.W.Frag → Bool)) (K : PySem.W.Frag) : Bool := fs.all fun f => f K
theorem allB_at {fs : List (PySem.W.Frag → Bool)} {K : PySem.W.Frag} (c : allB fs K = true) (i : Nat) {f : PySem.W.Frag → Bool} (h : fs[i]? = some f := by rfl) : f K = true :=
  List.all_eq_true.mp c f (List.mem_of_getElem? h)
def iniB (K : PySem.W.Frag) (C f : Addr) : Bool := He.eqO (PySem.W.findIn K (.ref C) "__init__") (some (some (.ref f))) && decide (PySem.W.typeIn K (.ref f) = some (.type "function"))
theorem iniB_ok {K : PySem.W.Frag} {C f : Addr} (h : iniB K C f = true) : IniC K C f := by
  obtain ⟨h1, h2⟩ := He.ba h
  exact ⟨He.eqO_ok h1, of_decide_eq_true h2⟩
def biniB (K : PySem.W.Frag) (D : Addr) (id : String) : Bool := PySem.W.readsIn K D (.type "type") && (He.eqO (PySem.W.specialIn K (.ref D) "__getattribute__") (some (some (.builtin "type.__getattribute__"))) &&
  (match PySem.W.findCls K (.ref D) (.type "type") "__init__" with
    | some (.val (.builtin n)) => decide (n = id)
    | _ => false))
theorem biniB_ok {K : PySem.W.Frag} {D : Addr} {id : String} (h : biniB K D id = true) : BiniC K D id := by
  obtain ⟨h1, h2⟩ := He.ba h
  obtain ⟨h2, h3⟩ := He.ba h2
  refine ⟨⟨h1, He.eqO_ok h2⟩, ?_⟩
  split at h3
  · rename_i n e
    have e2 : n = id := of_decide_eq_true h3
    rw [← e2]; exact e
  · cases h3
def offsB (K : PySem.W.Frag) (C : Addr) (ns : List String) : Bool := ns.all fun n => decide (PySem.W.kitOne K (.ref C) (.type n) = some false)
theorem offsB_ok {K : PySem.W.Frag} {C : Addr} {ns : List String} (h : offsB K C ns = true) : noneOf K (.ref C) ns := fun n hn => of_decide_eq_true (List.all_eq_true.mp h n hn)

/-! ### a law's end, its def's promise wanting that no repr is under way -/
theorem law_endG {P : Program} {w : World} {K : PySem.W.Frag} {mg mb : Str → Option Value} {k : Nat} {fa a : Addr} {fd : FuncData} {x : Str} {sp : Sp} {s₁ : Shared} {vs : List Value} {ns : List Int}
    (KX : K.In s₁.heap) (hns : s₁.heap.Ns mainGlobals mg) (hb : s₁.heap.Ns builtinsNs mb) (hbb : ∀ x : Str, x ≠ "__name__" → mb x = bootBuiltins x) (hlim : s₁.heap.NoLimit) (hg : s₁.gens = #[])
    (ha : s₁.heap.get? a = some { cls := .type "list", data := .seq vs.toArray }) (hi : IntsAre vs ns) (hl : ns.length ≤ sizeLine) (hr : Room k callerA)
    (F : ∀ base : Heap, K.In base → base.Ns mainGlobals mg → FnG P w K mg base (L2.CX P w) k fa fd [x] sp) (hbind : ∀ (s : Shared) (u : Value), BindsTo s fd ⟨[u], []⟩ [(x, u)])
    (hsp : ∀ H : Hp, L2.Only H → SqL K H a (ns.map V.int) → sp [.ref a] H (fun v _ => v = .bl true) fun _ _ _ => False)
    (hCX : ∀ H e s', L2.CX P w [] H s₁ (fun _ _ _ => False) e s' → False) :
    codeAny (model P w) callerA (.call (.ref fa) ⟨[.ref a], []⟩) (fun r s' => r = .ok (.ret (.bool true)) ∧ OldK s₁.heap s'.heap ∧ s'.os = s₁.os ∧ AllBare s'.gens) s₁ := by
  have rv := vals_ints hi
  have lenV := hi.length
  /- the script is tracked (o = true) or it is one of the module's own objects -/
  have main : ∀ H : Hp, (∀ b, H b = none ∨ (b = a ∧ K.lookup a = none ∧ ∃ o xs, H b = some (.frz o (.lst xs)))) → SqL K H a (ns.map V.int) → HOk P w H s₁.heap →
      codeAny (model P w) callerA (.call (.ref fa) ⟨[.ref a], []⟩) (fun r s' => r = .ok (.ret (.bool true)) ∧ OldK s₁.heap s'.heap ∧ s'.os = s₁.os ∧ AllBare s'.gens) s₁ := by
    intro H only sq hok
    have off : ∀ {b : Addr} {o : Obj}, s₁.heap.get? b = some o → (∀ es ep, o.data = .dict es ep → H b = none) := fun {b o} e es ep d => by
      rcases only b with z | ⟨rfl, _, _⟩
      · exact z
      · rw [ha] at e
        cases e
        cases (show Data.seq vs.toArray _ = Data.dict es ep from d)
    have nsB : ∀ {b : Addr} {m : Str → Option Value}, s₁.heap.Ns b m → (hidT s₁.heap H).Ns b m := fun {b m} ⟨o, es, ep, e, d, r⟩ => ⟨o, es, ep, hidT_get e (off e es ep d), d, r⟩
    have kB : K.In (hidT s₁.heap H) := fun b o e => hidT_get (KX b o e) (by
      rcases only b with z | ⟨rfl, z, _⟩
      · exact z
      · rw [z] at e; cases e)
    obtain ⟨mc, c1, c2⟩ := hlim
    have e0 : Env0 P w K mg (hidT s₁.heap H) callerA [] s₁ H :=
      ⟨rfl, ⟨kB, nsB hns, ⟨mb, nsB hb, hbb⟩, mc, nsB c1, c2⟩, fun b o e => of_hidT e, Nat.le_of_eq (hidT_size _ _), trivial, fun b hb => absurd hb (by simp [frs]), hok, .of_eq hg⟩
    have oH : L2.Only H := fun b => by
      rcases only b with z | ⟨_, _, z⟩
      · exact .inl z
      · exact .inr z
    refine codeAny_mono ((F _ kB (nsB hns)).run callerA [] s₁ H ⟨[.ref a], []⟩ [.ref a] [.ref a] _ _ rfl hr e0 (hbind s₁ (.ref a)) (.cons rfl .nil) (hsp H oH sq)) fun r s' h => ?_
    match r, h with
    | .error e, h => exact (hCX H e s' h).elim
    | .ok (.ret u), ⟨v, H', os, bare, un, hok', r', q⟩ =>
      subst q
      obtain rfl : u = Value.bool true := r'
      refine ⟨rfl, OldK.of_keep fun b o e => ?_, os, bare⟩
      rcases only b with z | ⟨_, _, ob, xs, z⟩
      · exact un.keep b o e z (by simp [frs]) (by simp)
      · obtain ⟨e1, _⟩ := hok b _ z
        obtain ⟨e2, _⟩ := hok' b _ (un.frzs b ob _ z)
        rw [e] at e1
        cases e1
        exact e2
  cases hk : K.lookup a with
  | some o =>
    have e := KX a o hk
    rw [ha] at e
    cases e
    exact main (fun _ => none) (fun _ => .inl rfl) (.inr ⟨_, vs.toArray, _, hk, rfl, rfl, rfl, by rw [List.size_toArray, lenV]; exact hl, by simpa using rv⟩) (fun b u z => by cases z)
  | none =>
    have at_ : ∀ b u, upd (fun _ => none) a (.frz { cls := .type "list", data := .seq vs.toArray } (.lst (ns.map V.int))) b = some u → b = a ∧ u = .frz { cls := .type "list", data := .seq vs.toArray } (.lst (ns.map V.int)) := fun b u z => by
      by_cases hb : b = a
      · subst hb
        rw [upd_same] at z
        cases z
        exact ⟨rfl, rfl⟩
      · rw [upd_ne hb] at z
        cases z
    refine main (upd (fun _ => none) a (.frz { cls := .type "list", data := .seq vs.toArray } (.lst (ns.map V.int)))) (fun b => ?_) (.inl (.inr ⟨_, upd_same⟩)) (fun b u z => ?_)
    · by_cases hb : b = a
      · subst hb
        exact .inr ⟨rfl, hk, _, _, upd_same⟩
      · exact .inl (upd_ne hb)
    · obtain ⟨rfl, rfl⟩ := at_ b u z
      exact ⟨ha, by rw [List.length_map]; exact hl, vs, _, rv, ha⟩
/-- the same as a row's end -/
theorem walk_endG {l : PySem.W.OpenLaw} {n k : Nat} {q : Program} {loose : List Str} {XP : (Str → Option Value) → Heap → Prop} {YP : World → Heap → Prop} {d : DefRec} {x : Str}
    (hn : l.most = some n) (hn2 : n ≤ sizeLine) (hdf : d.params.defaults = []) (hr : Room k callerA)
    (F : ∀ (w : World) (mg : Str → Option Value) (fa : Addr) (h : Heap), YP w h → h.Ns mainGlobals mg → mg d.name = some (.ref fa) →
      ∃ (K : PySem.W.Frag) (fd : FuncData) (sp : Sp), K.In h ∧ (∀ (s : Shared) (u : Value), BindsTo s fd ⟨[u], []⟩ [(x, u)]) ∧
        (∀ (H : Hp) (a : Addr) (ns : List Int), ns.length ≤ n → L2.Only H → SqL K H a (ns.map V.int) → sp [.ref a] H (fun v _ => v = .bl true) fun _ _ _ => False) ∧
        ∀ base : Heap, K.In base → base.Ns mainGlobals mg → FnG l.prog w K mg base (L2.CX l.prog w) k fa fd [x] sp)
    (hCX : ∀ (w : World) (H : Hp) (s : Shared) (e : Value) (s' : Shared), L2.CX l.prog w [] H s (fun _ _ _ => False) e s' → False) :
    PySem.W.WalkO q loose XP YP l.row.toRowW d [] (fun f vs => PySem.call f vs) := by
  refine Att.attach_call hn hdf fun w s₀ s₁ mg mb fa o pm cd doc a vs ns G Y ho hd hcd hmg hobj hints hlen hg => ?_
  obtain ⟨K, fd, sp, KX, hb, hsp, hF⟩ := F w mg fa _ Y G.T.g hmg
  exact law_endG KX G.T.g G.T.b G.T.builtins G.T.nolimit hg hobj hints (Nat.le_trans hlen hn2) hr hF hb (fun H hO hS => hsp H a ns hlen hO hS) fun H e s' => hCX w H s₁ e s'
end SW

namespace SW
open PySem PySem.Spec PyProof.Rows L2

theorem noCX {P : Program} (w : World) (H : Hp) (s : Shared) (e : Value) (s' : Shared) (h : L2.CX P w [] H s (fun _ _ _ => False) e s') : False := by
  obtain ⟨_, _, _, _, _, _, _, _, _, _, _, _, z⟩ := h
  exact z
/-- what a law's def promises: True of every script -/
def p_law (K : PySem.W.Frag) : P1 := fun a H Q _ => ∃ (p : Addr) (ns : List Int), a = .ref p ∧ ns.length ≤ 63 ∧ SqL K H p (ns.map V.int) ∧ ∀ H', Q (.bl true) H'
/-- C.__init__ of an exception that keeps one thing, f -/
def p_xini (C : Addr) (f : Str) : P2 := fun a b H Q _ => ∃ e, a = .ref e ∧ H e = some (exo e C none) ∧ ∀ H', ExV H' e C [(f, b)] → Chg e H H' → Q .non H'
section
variable {σ : L2.St} {H : Hp} {Q : VK} {K : PySem.W.Frag} {nx bk ct : L2.St → Hp → Prop} {rt : VK} {ta : TA} {te to : TE} {f : Str} {e C : Addr} {y : V} {ws : List V}
theorem x_veI (h : ta σ H fun vs H1 => ∃ (a C : Addr) (ws : List V), vs = .ref a :: ws ∧ ws.length ≤ 1000 ∧ OexC K C ∧ H1 a = some (exo a C none) ∧ Q .non H1) : tVeI K ta σ H Q := h
theorem x_ost (h : te σ H fun y H1 => to σ H1 fun x H2 => ∃ a C : Addr, x = .ref a ∧ OexC K C ∧ PySem.W.findIn K (.ref C) f = some none ∧
  ((H2 a = some (exo a C none) ∧ ∀ dx, H2 dx = none → dx ≠ a → nx σ (upd (upd H2 dx (exd dx [(f, y)])) a (exo a C (some dx)))) ∨
    ∃ (dx : Addr) (fs : List (Str × V)), H2 a = some (exo a C (some dx)) ∧ H2 dx = some (exd dx fs) ∧ fs.length ≤ 900 ∧ nx σ (upd H2 dx (exd dx ((f, y) :: fs))))) : tOst K f to te ⟨nx, rt, bk, ct⟩ σ H := h
theorem veI1 {P : Prop} (T : OexC K C) (hz : ws.length ≤ 1000) (he : H e = some (exo e C none)) (h : P) : ∃ (a C : Addr) (us : List V), (V.ref e :: ws) = .ref a :: us ∧ us.length ≤ 1000 ∧ OexC K C ∧ H a = some (exo a C none) ∧ P :=
  ⟨e, C, ws, rfl, hz, T, he, h⟩
/-- the end of such an __init__ -/
theorem ost1 {D : Hp → Prop} (T : OexC K C) (nf : PySem.W.findIn K (.ref C) f = some none) (he : H e = some (exo e C none)) (h : ∀ H', ExV H' e C [(f, y)] → Chg e H H' → D H') :
    ∃ a C : Addr, V.ref e = .ref a ∧ OexC K C ∧ PySem.W.findIn K (.ref C) f = some none ∧
  ((H a = some (exo a C none) ∧ ∀ dx, H dx = none → dx ≠ a → D (upd (upd H dx (exd dx [(f, y)])) a (exo a C (some dx)))) ∨
    ∃ (dx : Addr) (fs : List (Str × V)), H a = some (exo a C (some dx)) ∧ H dx = some (exd dx fs) ∧ fs.length ≤ 900 ∧ D (upd H dx (exd dx ((f, y) :: fs)))) :=
  ⟨e, C, rfl, T, nf, .inl ⟨he, fun dx hd hne => h _ ⟨dx, upd_same, by rw [upd_ne hne]; exact upd_same⟩ fun b o n q => by rw [upd_ne n, upd_ne (ne_of_none q hd)]; exact q⟩⟩
/-- an exception made: what stays -/
theorem Chg.made {H1 H' : Hp} {o : HO} (n : H1 e = none) (c : Chg e (L2.upd H1 e o) H') : Same H1 H' := fun b u q => c b u (ne_of_none q n) (by rw [L2.upd_ne (ne_of_none q n)]; exact q)
theorem Chg.at {p q : Addr} {H H' : Hp} {o : HO} (c : Chg p H H') (n : q ≠ p) (e : H q = some o) : H' q = some o := c q o n e
theorem new_ne {p q : Addr} {H : Hp} {o : HO} (hq : H q = none) (e : H p = some o) : q ≠ p := fun z => by
  rw [z, e] at hq
  cases hq
theorem BoxAt.ne {k : Nat} {H : Hp} {p q : Addr} (b : BoxAt k H p) (hq : H q = none) : q ≠ p := by
  obtain ⟨o, e⟩ := b.ex
  exact new_ne hq e
/-- all but the box -/
theorem Chg.same {p : Addr} {G H H' : Hp} (c : Chg p H H') (s : Same G H) (n : G p = none) : Same G H' := stay s n c
theorem del_same_of {p : Addr} {H H' : Hp} (c : Chg p H H') : Same (L2.del H p) H' := fun b o e => by
  by_cases hb : b = p
  · rw [hb, del_same] at e
    cases e
  · rw [del_ne hb] at e
    exact c b o hb e
end
/-! ### rules with the written part named: they stand within a comprehension's frame too -/
section
variable {X : Cx} {K : PySem.W.Frag} {to te : TE} {o e : Expr} {apos pos : Pos}
theorem ix_seqK (h : X.K = K := by rfl) : IxR X (rIx K) := by
  subst h; exact ix_seq
theorem sl_anyK (h : X.K = K := by rfl) : SlR X (rSlA K) := by
  subst h; exact sl_any
theorem op_plusK (h : X.K = K := by rfl) : OpR X (binaryOp .Add) (rPlus K) := by
  subst h; exact op_plus
theorem op_eqGK (hu : X.A.units + 64 < cLine) (h : X.K = K := by rfl) : OpR X (compareOp .Eq) (rEqG K) := by
  subst h; exact op_eqG hu
theorem op_neGK (hu : X.A.units + 64 < cLine) (h : X.K = K := by rfl) : OpR X (compareOp .NotEq) (rNeG K) := by
  subst h; exact op_neG hu
theorem op_inGK (h : X.K = K := by rfl) : OpR X (compareOp .In) (rInG K) := by
  subst h; exact op_inG
theorem call_lenK (h : X.K = K := by rfl) : CallR X (.builtin "len") (rLenA K) := by
  subst h; exact call_lenX
theorem call_isiXK (h : X.K = K := by rfl) : CallR X (.builtin "isinstance") (rIsX K) := by
  subst h; exact call_isiX
theorem cr_allK (hc : X.calm = true := by rfl) (h : X.K = K := by rfl) : CallR X (.builtin "all") (rAll K) := by
  subst h; exact cr_all hc
theorem cr_anyK (hc : X.calm = true := by rfl) (h : X.K = K := by rfl) : CallR X (.builtin "any") (rAny K) := by
  subst h; exact cr_any hc
theorem call_reprK (hG : X.A.guards = some []) (hu : X.A.units + 64 < cLine) (h : X.K = K := by rfl) : CallR X (.builtin "repr") (rRepr K) := by
  subst h; exact call_reprG hG hu
theorem pe_joinK (ho : PE X o to) (he : PE X e te) (hs : starEach [e] X.env = [(false, eval e X.env)] := by rfl) (hbase : attributeBase o "join" X.env (eval o X.env) = eval o X.env := by rfl) (hline : (apos.endLine == pos.line) = true := by rfl) (h : X.K = K := by rfl) :
    PE X (.Call (.Attribute o "join" apos) [e] [] pos) (tM1 (rJoin K) to te) := by
  subst h; exact pe_joinX ho he hs hbase hline
end
/-- a text's own signs: of one sign each -/
def one (c : Nat) : Str := ⟨#[c]⟩
theorem len_append (a b : Str) : (a ++ b).length = a.length + b.length := by
  show (a.cps ++ b.cps).size = _
  rw [Array.size_append] <;> rfl
theorem len_def (z : Str) : z.length = z.cps.toList.length := by simp [Str.length]
theorem one_len (c : Nat) : (one c).length = 1 := rfl
/-- every sign of it is one that there is -/
def okS (z : Str) : Prop := ∀ c ∈ z.cps.toList, c < 1114112
theorem okS_app {a b : Str} (ha : okS a) (hb : okS b) : okS (a ++ b) := fun c h => by
  rw [show (a ++ b).cps.toList = a.cps.toList ++ b.cps.toList from by
    show (a.cps ++ b.cps).toList = _
    rw [Array.toList_append]] at h
  rcases List.mem_append.mp h with h | h
  · exact ha c h
  · exact hb c h
theorem okS_cut {z : Str} {lo hi : Option Int} (h : okS z) : okS (cutS z lo hi) := fun c hc => by
  have hc2 : c ∈ (z.cps.toList.drop (HT.sIx z.length 0 lo)).take (HT.sIx z.length z.length hi - HT.sIx z.length 0 lo) := by
    have e : (cutS z lo hi).cps.toList = (z.cps.toList.drop (HT.sIx z.length 0 lo)).take (HT.sIx z.length z.length hi - HT.sIx z.length 0 lo) := by
      unfold cutS
      simp
    rw [← e]; exact hc
  exact h c (List.mem_of_mem_drop (List.mem_of_mem_take hc2))
theorem okS_one {c : Nat} (h : c < 1114112) : okS (one c) := fun d hd => by
  have : d = c := by simpa [one] using hd
  rw [this]; exact h
theorem okS_cs {cs : List Nat} (h : ∀ c ∈ cs, c < 1114112) : okS ⟨cs.toArray⟩ := fun c hc => h c (by simpa using hc)
theorem okS_strOk {z : Str} (h : okS z) : PyData.strOk z = true := by
  unfold PyData.strOk
  rw [Array.all_eq_true]
  intro i hi
  exact decide_eq_true (h _ (Array.getElem_mem_toList hi))
theorem okS_ofString (x : String) : okS (Str.ofString x) := fun c hc => by
  have hc2 : c ∈ x.toList.map Char.toNat := (by rw [Str.ofString_eq_toList] at hc; simpa using hc)
  obtain ⟨d, _, rfl⟩ := List.mem_map.mp hc2
  exact Nat.lt_of_lt_of_le (Nat.lt_succ_of_le (by have := d.valid; unfold UInt32.isValidChar Nat.isValidChar at this; show d.val.toNat ≤ 1114111; omega)) (Nat.le_refl _)
theorem str_app (a b : List Nat) : (⟨a.toArray⟩ : Str) ++ ⟨b.toArray⟩ = ⟨(a ++ b).toArray⟩ := by
  show (⟨a.toArray ++ b.toArray⟩ : Str) = _
  simp
theorem join_cs : ∀ cs : List Nat, Txt.join (Str.ofString "") (cs.map one) = ⟨cs.toArray⟩ := by
  intro cs
  show Builtin.Str.glued (Str.ofString "") (cs.map one) = _
  rw [PySem.StrLaws.glued_eq_join]
  have he : Str.ofString "" = (⟨([] : List Nat).toArray⟩ : Str) := by decide +kernel
  rw [he]
  induction cs with
  | nil => rfl
  | cons c r ih => cases r with
    | nil => rfl
    | cons d r =>
      rw [List.map_cons, List.map_cons]
      show one c ++ (⟨([] : List Nat).toArray⟩ : Str) ++ Str.join _ (one d :: r.map one) = _
      rw [← List.map_cons, ih]
      show (⟨[c].toArray⟩ : Str) ++ ⟨([] : List Nat).toArray⟩ ++ _ = _
      rw [str_app, str_app] <;> rfl
theorem len_cs (cs : List Nat) : (⟨cs.toArray⟩ : Str).length = cs.length := by
  show cs.toArray.size = _
  simp
section
variable {σ σ1 σ2 : L2.St} {H : Hp} {Q : VK} {K : PySem.W.Frag} {p : Addr} {P : Prop} {vs : List Nat}
theorem x_joinCs {cs : List Nat} (hs : H p = some (.lst ((cs.map one).map V.str))) (hz : cs.length ≤ 1000000) (h : Q (.str ⟨cs.toArray⟩) H) : rJoin K (.str (Str.ofString "")) [.ref p] H Q := by
  refine ⟨_, p, cs.map one, rfl, rfl, .inl (.inl (.inl hs)), ?_, by rw [join_cs]; exact h⟩
  have e : ((cs.map one).map (·.length)).sum = cs.length := by
    clear hs hz h
    induction cs with
    | nil => rfl
    | cons c r ih =>
      rw [List.map_cons, List.map_cons, List.sum_cons, ih, List.length_cons, one_len]
      omega
  have e2 : (Str.ofString "").length = 0 := by decide +kernel
  rw [e, e2]
  omega
theorem x_lenZ {z : Str} (hz : z.length ≤ 1000000) (h : Q (.int (z.length : Int)) H) : rLenA K [.str z] H Q := x_lenS (Nat.le_trans hz (by decide)) h
theorem x_slZ {z : Str} {lo hi : Option Int} (hz : z.length ≤ 1000000) (h : Q (.str (cutS z lo hi)) H) : rSlA K (.str z) lo hi H Q := x_slS (Nat.le_trans hz (by decide)) h
theorem x_plusZ {a b : Str} (ha : a.length ≤ 1000000) (hb : b.length ≤ 1000000) (h : Q (.str (a ++ b)) H) : rPlus K (.str a) (.str b) H Q :=
  x_plusS (Nat.le_trans (Nat.add_le_add ha hb) (by decide)) h
theorem cut_le {z : Str} {lo hi : Option Int} {n : Nat} (h : z.length ≤ n) : (cutS z lo hi).length ≤ n := Nat.le_trans (cutS_length z lo hi) h
theorem app_le {a b : Str} {m n k : Nat} (ha : a.length ≤ m) (hb : b.length ≤ n) (h : m + n ≤ k) : (a ++ b).length ≤ k := by
  rw [len_append]; omega
theorem x_wipe (e : wipe σ1 vs = wipe σ2 vs) (h : P) : wipe σ1 vs = wipe σ2 vs ∧ P := ⟨e, h⟩
theorem x_ifT {A B : Prop} (h : A) : if true = true then A else B := h
theorem x_ifNT {A B : Prop} (h : B) : if (!true) = true then A else B := h
theorem x_ifNF {A B : Prop} (h : A) : if (!false) = true then A else B := h
theorem x_ifF {A B : Prop} (h : B) : if false = true then A else B := h
/-- one sign of a text -/
theorem x_ixSr {z : Str} {n : Int} (h0 : 0 ≤ n) (h1 : n < z.length) (hz : z.length ≤ 1000000) (h : ∀ c, z.cps.toList[n.toNat]? = some c → Q (.str (one c)) H) : rIx K (.str z) (.int n) H Q := by
  obtain ⟨m, rfl⟩ : ∃ m : Nat, n = (m : Int) := ⟨n.toNat, by omega⟩
  have hm : m < z.cps.toList.length := by rw [← len_def]; omega
  exact x_ixS (c := z.cps.toList[m]) (Nat.le_trans hz (by decide)) (atI_nat (by simp [hm])) (h _ (by simp [hm]))
end
theorem atI_len {xs : List V} {n : Int} (h0 : 0 ≤ n) (h1 : n < xs.length) : ∃ v, atI xs n = some v ∧ v ∈ xs := by
  obtain ⟨m, rfl⟩ : ∃ m : Nat, n = (m : Int) := ⟨n.toNat, by omega⟩
  have hm : m < xs.length := by omega
  exact ⟨xs[m], atI_nat (by simp [hm]), List.getElem_mem hm⟩
/-! ### isinstance of scalars -/
section
variable {K : PySem.W.Frag} {H : Hp} {Q : VK}
theorem isi_int_int {n : Int} (h : Q (.bl true) H) : rIsX K [.int n, .ty "int"] H Q := x_isi (ty_int n) (by decide +kernel) h
theorem isi_int_bool {n : Int} (h : Q (.bl false) H) : rIsX K [.int n, .ty "bool"] H Q := x_isi (ty_int n) (by decide +kernel) h
theorem isi_int_str {n : Int} (h : Q (.bl false) H) : rIsX K [.int n, .ty "str"] H Q := x_isi (ty_int n) (by decide +kernel) h
theorem isi_int_list {n : Int} (h : Q (.bl false) H) : rIsX K [.int n, .ty "list"] H Q := x_isi (ty_int n) (by decide +kernel) h
theorem isi_int_tuple {n : Int} (h : Q (.bl false) H) : rIsX K [.int n, .ty "tuple"] H Q := x_isi (ty_int n) (by decide +kernel) h
theorem isi_int_dict {n : Int} (h : Q (.bl false) H) : rIsX K [.int n, .ty "dict"] H Q := x_isi (ty_int n) (by decide +kernel) h
theorem isi_bl_int {b : Bool} (h : Q (.bl true) H) : rIsX K [.bl b, .ty "int"] H Q := x_isi (ty_bl b) (by decide +kernel) h
theorem isi_bl_bool {b : Bool} (h : Q (.bl true) H) : rIsX K [.bl b, .ty "bool"] H Q := x_isi (ty_bl b) (by decide +kernel) h
theorem isi_bl_str {b : Bool} (h : Q (.bl false) H) : rIsX K [.bl b, .ty "str"] H Q := x_isi (ty_bl b) (by decide +kernel) h
theorem isi_bl_list {b : Bool} (h : Q (.bl false) H) : rIsX K [.bl b, .ty "list"] H Q := x_isi (ty_bl b) (by decide +kernel) h
theorem isi_bl_tuple {b : Bool} (h : Q (.bl false) H) : rIsX K [.bl b, .ty "tuple"] H Q := x_isi (ty_bl b) (by decide +kernel) h
theorem isi_bl_dict {b : Bool} (h : Q (.bl false) H) : rIsX K [.bl b, .ty "dict"] H Q := x_isi (ty_bl b) (by decide +kernel) h
theorem isi_str_int {z : Str} (h : Q (.bl false) H) : rIsX K [.str z, .ty "int"] H Q := x_isi (ty_str z) (by decide +kernel) h
theorem isi_str_bool {z : Str} (h : Q (.bl false) H) : rIsX K [.str z, .ty "bool"] H Q := x_isi (ty_str z) (by decide +kernel) h
theorem isi_str_str {z : Str} (h : Q (.bl true) H) : rIsX K [.str z, .ty "str"] H Q := x_isi (ty_str z) (by decide +kernel) h
theorem isi_str_list {z : Str} (h : Q (.bl false) H) : rIsX K [.str z, .ty "list"] H Q := x_isi (ty_str z) (by decide +kernel) h
theorem isi_str_tuple {z : Str} (h : Q (.bl false) H) : rIsX K [.str z, .ty "tuple"] H Q := x_isi (ty_str z) (by decide +kernel) h
theorem isi_str_dict {z : Str} (h : Q (.bl false) H) : rIsX K [.str z, .ty "dict"] H Q := x_isi (ty_str z) (by decide +kernel) h
theorem isi_non_int  (h : Q (.bl false) H) : rIsX K [.non, .ty "int"] H Q := x_isi (ty_non) (by decide +kernel) h
theorem isi_non_bool  (h : Q (.bl false) H) : rIsX K [.non, .ty "bool"] H Q := x_isi (ty_non) (by decide +kernel) h
theorem isi_non_str  (h : Q (.bl false) H) : rIsX K [.non, .ty "str"] H Q := x_isi (ty_non) (by decide +kernel) h
theorem isi_non_list  (h : Q (.bl false) H) : rIsX K [.non, .ty "list"] H Q := x_isi (ty_non) (by decide +kernel) h
theorem isi_non_tuple  (h : Q (.bl false) H) : rIsX K [.non, .ty "tuple"] H Q := x_isi (ty_non) (by decide +kernel) h
theorem isi_non_dict  (h : Q (.bl false) H) : rIsX K [.non, .ty "dict"] H Q := x_isi (ty_non) (by decide +kernel) h
end
/-! ### things of any kind: whole numbers, texts, truths, None, and objects of other kinds -/
def Th (K : PySem.W.Frag) (H : Hp) (v : V) : Prop := (∃ n, v = .int n) ∨ (∃ z : Str, v = .str z ∧ z.length ≤ 1000 ∧ okS z) ∨ (∃ b, v = .bl b) ∨ v = .non ∨ ∃ p, v = .ref p ∧ Odd K kinds3 H v
theorem Th.keep {K : PySem.W.Frag} {G H : Hp} {v : V} (t : Th K G v) (s : Same G H) : Th K H v := by
  rcases t with h | h | h | h | ⟨p, e, o⟩
  · exact .inl h
  · exact .inr (.inl h)
  · exact .inr (.inr (.inl h))
  · exact .inr (.inr (.inr (.inl h)))
  · exact .inr (.inr (.inr (.inr ⟨p, e, o.keep s⟩)))
theorem Th.int {K : PySem.W.Frag} {H : Hp} (n : Int) : Th K H (.int n) := .inl ⟨n, rfl⟩
theorem Th.str {K : PySem.W.Frag} {H : Hp} {z : Str} (h : z.length ≤ 1000) (k : okS z) : Th K H (.str z) := .inr (.inl ⟨z, rfl, h, k⟩)
theorem Th.bl {K : PySem.W.Frag} {H : Hp} (b : Bool) : Th K H (.bl b) := .inr (.inr (.inl ⟨b, rfl⟩))
theorem Th.non {K : PySem.W.Frag} {H : Hp} : Th K H .non := .inr (.inr (.inr (.inl rfl)))
theorem Th.lst {K : PySem.W.Frag} {H : Hp} {p : Addr} {xs : List V} (e : H p = some (.lst xs)) : Th K H (.ref p) := .inr (.inr (.inr (.inr ⟨p, rfl, _, .x (.base (.lst e)), noneOf_ty (by decide +kernel)⟩)))
theorem Th.tup {K : PySem.W.Frag} {H : Hp} {p : Addr} {xs : List V} (e : H p = some (.tup xs)) : Th K H (.ref p) := .inr (.inr (.inr (.inr ⟨p, rfl, _, .x (.base (.tup e)), noneOf_ty (by decide +kernel)⟩)))
theorem Th.dK {K : PySem.W.Frag} {H : Hp} {p : Addr} {kvs : List (Key × V)} (e : H p = some (.dK kvs)) : Th K H (.ref p) := .inr (.inr (.inr (.inr ⟨p, rfl, _, .x (.base (.dK e)), noneOf_ty (by decide +kernel)⟩)))
theorem Th.exc {K : PySem.W.Frag} {H : Hp} {a C : Addr} {fs : List (Str × V)} (e : ExV H a C fs) (c : ExcC K C) (o : noneOf K (.ref C) ["int", "bool", "str", "list", "tuple", "dict"]) : Th K H (.ref a) :=
  .inr (.inr (.inr (.inr ⟨a, rfl, _, .exc e c, fun n hn => o n (by
    simp only [kinds3, List.mem_cons, List.not_mem_nil, or_false] at hn
    rcases hn with rfl | rfl | rfl <;> decide)⟩)))
theorem lt_one (a b : Nat) : decide (([a] : List Nat) < [b]) = decide (a < b) := by
  refine decide_eq_decide.mpr ⟨fun h => ?_, fun h => List.Lex.rel h⟩
  rcases h with h | h
  · assumption
  · rename_i h
    cases h
/-- the order of two signs -/
theorem sign_lt {z : Str} {k : Nat} (hz : z.cps.toList = [k]) (c : Nat) : decide ((⟨#[c]⟩ : Str).cps.toList < z.cps.toList) = decide (c < k) := by
  rw [show (⟨#[c]⟩ : Str).cps.toList = [c] from rfl, hz, lt_one]
theorem sign_gt {z : Str} {k : Nat} (hz : z.cps.toList = [k]) (c : Nat) : decide (z.cps.toList < (⟨#[c]⟩ : Str).cps.toList) = decide (k < c) := by
  rw [show (⟨#[c]⟩ : Str).cps.toList = [c] from rfl, hz, lt_one]
/-! ### lists of texts as data -/
theorem canLay_strs : ∀ {zs : List Str}, (∀ z ∈ zs, okS z) → PyData.canLayAll0 (zs.map .str) = true
  | [], _ => by simp only [List.map_nil, PyData.canLayAll0]
  | z :: zs, h => by
    simp only [List.map_cons, PyData.canLayAll0, PyData.canLay0, Bool.and_eq_true]
    exact ⟨okS_strOk (h z List.mem_cons_self), canLay_strs fun y hy => h y (List.mem_cons_of_mem _ hy)⟩
theorem depth_strs : ∀ {zs : List Str}, PyData.depthAll (zs.map .str) = 0
  | [] => by simp only [List.map_nil, PyData.depthAll]
  | z :: zs => by simp only [List.map_cons, PyData.depthAll, PyData.depth, depth_strs, Nat.max_self]
theorem shaped_strs {zs : List Str} (h : ∀ z ∈ zs, okS z) : SeqAt.shaped (.list (zs.map .str)) = true := by
  unfold SeqAt.shaped
  simp only [PyData.canLay0, PyData.depth, depth_strs, canLay_strs h, Bool.true_and]
  decide
theorem dp_strs {K : PySem.W.Frag} {H : Hp} : ∀ {zs : List Str}, DpAll K H (zs.map V.str) (zs.map .str)
  | [] => .nil
  | z :: _ => .cons (.str z) dp_strs
theorem eqv_strs : ∀ {zs ws : List Str}, PyData.eqvAll (zs.map .str) (ws.map .str) = decide (zs = ws)
  | [], [] => by simp [PyData.eqvAll]
  | [], w :: ws => by simp [PyData.eqvAll]
  | z :: zs, [] => by simp [PyData.eqvAll]
  | z :: zs, w :: ws => by
    simp only [List.map_cons, PyData.eqvAll, PyData.eqv, eqv_strs]
    rw [Bool.eq_iff_iff]
    simp
/-- two lists of texts, one sign each or more -/
theorem x_eqStrs {K : PySem.W.Frag} {H : Hp} {Q : VK} {a b : Addr} {zs ws : List Str} (ha : H a = some (.lst (zs.map V.str))) (hb : H b = some (.lst (ws.map V.str))) (oz : ∀ z ∈ zs, okS z) (ow : ∀ z ∈ ws, okS z) (h : Q (.bl (decide (zs = ws))) H) :
    rEqG K (.ref a) (.ref b) H Q := by
  refine x_eqGD (d := .list (zs.map .str)) (e := .list (ws.map .str)) (.lst (.inl (.inl ha)) dp_strs) (.lst (.inl (.inl hb)) dp_strs) (shaped_strs oz) (shaped_strs ow) ?_
  have e : PyData.eqv (.list (zs.map .str)) (.list (ws.map .str)) = decide (zs = ws) := by
    simp only [PyData.eqv, eqv_strs]
  rw [e]
  exact h
/-! ### new objects: the heap behind is named anew -/
section
variable {σ : L2.St} {H H' : Hp} {Q : VK} {K : PySem.W.Frag} {p q a b : Addr} {v : V} {xs zs vs : List V} {tr : TA} {C : Addr} {f : Str}
def LstN (xs : List V) (H : Hp) (Q : VK) : Prop := xs.length ≤ sizeLine ∧ ∀ p, H p = none → Q (.ref p) (L2.upd H p (.lst xs))
def TupN (xs : List V) (H : Hp) (Q : VK) : Prop := xs.length ≤ sizeLine ∧ ∀ p, H p = none → Q (.ref p) (L2.upd H p (.tup xs))
theorem x_lst2 (h : tr σ H fun xs H1 => LstN xs H1 Q) : tLst tr σ H Q := h
theorem x_tup2 (h : tr σ H fun xs H1 => TupN xs H1 Q) : tTup tr σ H Q := h
theorem x_lstZ (hz : xs.length ≤ 1000) (h : ∀ p H', H p = none → Same H H' → H' p = some (.lst xs) → Q (.ref p) H') : LstN xs H Q :=
  ⟨Nat.le_trans hz (by decide), fun p hp => h p _ hp (same_new hp) upd_same⟩
theorem x_tupZ (hz : xs.length ≤ 1000) (h : ∀ p H', H p = none → Same H H' → H' p = some (.tup xs) → Q (.ref p) H') : TupN xs H Q :=
  ⟨Nat.le_trans hz (by decide), fun p hp => h p _ hp (same_new hp) upd_same⟩
theorem x_dnewZ (h : ∀ p H', H p = none → Same H H' → H' p = some (.dK []) → Q (.ref p) H') : tDNewK σ H Q := fun p hp => h p _ hp (same_new hp) upd_same
theorem x_dispV {k : Str} {i : Nat} (e : σ[i]? = some (some v)) (h : ∀ q H', H q = none → Same H H' → H' q = some (.dK [(.inr k, v)]) → Q (.ref q) H') : tDisp [(tC (.str k), tVar i)] σ H Q := fun q hq =>
  ⟨v, e, upd_same, [(.inr k, v)], rfl, Nat.le_of_ble_eq_true rfl, h q _ hq (fun b o e => by rw [upd_ne (ne_of_none e hq)]; exact same_new hq _ _ e) upd_same⟩
theorem x_dispC {k : Str} (h : ∀ q H', H q = none → Same H H' → H' q = some (.dK [(.inr k, v)]) → Q (.ref q) H') : tDisp [(tC (.str k), tC v)] σ H Q := fun q hq =>
  ⟨upd_same, [(.inr k, v)], rfl, Nat.le_of_ble_eq_true rfl, h q _ hq (fun b o e => by rw [upd_ne (ne_of_none e hq)]; exact same_new hq _ _ e) upd_same⟩
theorem x_plusLZ (ha : H a = some (.lst xs)) (hb : H b = some (.lst zs)) (hz : xs.length + zs.length ≤ 1000) (h : ∀ p H', H p = none → Same H H' → H' p = some (.lst (xs ++ zs)) → Q (.ref p) H') : rPlus K (.ref a) (.ref b) H Q :=
  x_plusL ha hb (Nat.le_trans hz (by decide)) fun p hp => h p _ hp (same_new hp) upd_same
theorem x_slLZ {lo hi : Option Int} (ha : H a = some (.lst xs)) (h : ∀ p H', H p = none → Same H H' → H' p = some (.lst (cutV xs lo hi)) → Q (.ref p) H') : rSlA K (.ref a) lo hi H Q :=
  x_slL ha fun p hp => h p _ hp (same_new hp) upd_same
/-- an exception of one field made as a value -/
def ExvN (C : Addr) (sp : Sp) (dvs : List V) (vs : List V) (H1 : Hp) (Q : VK) : Prop := vs.length ≤ 1000 ∧ ∀ a, H1 a = none → sp (.ref a :: (vs ++ dvs)) (L2.upd H1 a (exo a C none)) (fun v H2 => v = .non ∧ Q (.ref a) H2) E0
theorem x_exv2 {sp : Sp} {dvs : List V} (h : tr σ H fun vs H1 => ExvN C sp dvs vs H1 Q) : tExv C sp dvs tr σ H Q := h
theorem x_exvZ (h : ∀ a H', H a = none → Same H H' → ExV H' a C [(f, v)] → Q (.ref a) H') : ExvN C (sp2 (p_xini C f)) [] [v] H Q :=
  ⟨Nat.le_of_ble_eq_true rfl, fun a ha => ⟨.ref a, v, rfl, a, rfl, upd_same, fun H' e c => ⟨rfl, h a H' ha (Chg.made ha c) e⟩⟩⟩
end
section
variable {σ : L2.St} {H H' : Hp} {Q : VK} {K : PySem.W.Frag} {p q : Addr} {v : V}
theorem Same.chg (s : Same H H') : Chg p H H' := Chg.of s
theorem Same.box {k : Nat} (b : BoxAt k H p) (s : Same H H') : BoxAt k H' p := b.same s
/-- a thing that is not the box -/
def Thp (K : PySem.W.Frag) (p : Addr) (H : Hp) (v : V) : Prop := Th K (L2.del H p) v
theorem Thp.keep (t : Thp K p H v) (c : Chg p H H') : Thp K p H' v := Th.keep t fun b o e => by
  by_cases hb : b = p
  · rw [hb, del_same] at e; cases e
  · rw [del_ne hb] at e ⊢; exact c b o hb e
theorem Thp.th (t : Thp K p H v) : Th K H v := Th.keep t fun b o e => by
  by_cases hb : b = p
  · rw [hb, del_same] at e; cases e
  · rw [del_ne hb] at e; exact e
theorem Thp.all {vs : List V} (h : ∀ x ∈ vs, Thp K p H x) (c : Chg p H H') : ∀ x ∈ vs, Thp K p H' x := fun x hx => (h x hx).keep c
theorem Thp.lst {xs : List V} (e : H q = some (.lst xs)) (n : q ≠ p) : Thp K p H (.ref q) := Th.lst (xs := xs) (by rw [del_ne n]; exact e)
theorem Thp.tup {xs : List V} (e : H q = some (.tup xs)) (n : q ≠ p) : Thp K p H (.ref q) := Th.tup (xs := xs) (by rw [del_ne n]; exact e)
theorem Thp.dK {kvs : List (Key × V)} (e : H q = some (.dK kvs)) (n : q ≠ p) : Thp K p H (.ref q) := Th.dK (kvs := kvs) (by rw [del_ne n]; exact e)
theorem Thp.exc {C : Addr} {fs : List (Str × V)} {xs : List V} (e : ExV H q C fs) (hp : H p = some (.lst xs)) (c : ExcC K C) (o : noneOf K (.ref C) ["int", "bool", "str", "list", "tuple", "dict"]) : Thp K p H (.ref q) := by
  obtain ⟨dx, e1, e2⟩ := e
  refine Th.exc (fs := fs) ⟨dx, ?_, ?_⟩ c o
  · rw [del_ne]
    · exact e1
    · rintro rfl
      rw [hp] at e1
      cases e1
  · rw [del_ne]
    · exact e2
    · rintro rfl
      rw [hp] at e2
      cases e2
theorem log2_lt {n b : Nat} (h : n < 2 ^ b) (hb : 0 < b) : n.log2 < b := by
  by_cases h0 : n = 0
  · rw [h0]; simpa using hb
  · exact (Nat.log2_lt h0).mpr h
end
end SW

namespace SW
open PySem PySem.Spec PyProof.Rows L2

/-! ### methods of lists: the heap behind is named anew -/
section
variable {X : Cx} {σ : L2.St} {H H' : Hp} {Q : VK} {K : PySem.W.Frag} {to te tl : TE} {t : TA} {T : String} {r : V → List V → Hp → VK → Prop} {l b : Addr} {xs zs : List V} {y v : V} {P : Prop}
theorem x_bm (h : to σ H fun x H1 => tyV K T x H1 ∧ t σ H1 fun xs H2 => r x xs H2 Q) : tBM K T r to t σ H Q := h
theorem x_bm0 (h : to σ H fun x H1 => tyV K T x H1 ∧ r x [] H1 Q) : tBM0 K T r to σ H Q := h
theorem x_tyL (e : H l = some (.lst xs)) (h : P) : tyV K "list" (.ref l) H ∧ P := ⟨.inl ⟨rfl, xs, SqL.of e⟩, h⟩
theorem x_app (e : H l = some (.lst xs)) (hz : xs.length ≤ 1000000) (h : ∀ H', Chg l H H' → H' l = some (.lst (xs ++ [y])) → Q .non H') : rAppend (.ref l) [y] H Q :=
  ⟨l, xs, y, rfl, rfl, e, Nat.lt_of_le_of_lt hz (by decide), h _ Chg.upd upd_same⟩
theorem x_rev (e : H l = some (.lst xs)) (h : ∀ H', Chg l H H' → H' l = some (.lst xs.reverse) → Q .non H') : rReverse (.ref l) [] H Q := ⟨l, xs, rfl, rfl, e, h _ Chg.upd upd_same⟩
theorem x_setLZ {n : Int} {j : Nat} {Qh : Hp → Prop} (e : H l = some (.lst xs)) (hi : ixN xs.length n = some j) (h : ∀ H', Chg l H H' → H' l = some (.lst (xs.set j v)) → Qh H') : rSetL (.ref l) (.int n) v H Qh := x_setL e hi (h _ Chg.upd upd_same)
/-! ### is None -/
def rIsN : R2 := fun x y H Q => y = .non ∧ Q (.bl (decide (x = .non))) H
def rNotN : R2 := fun x y H Q => y = .non ∧ Q (.bl (!decide (x = .non))) H
theorem op_isNX : OpR X (compareOp .Is) rIsN := op_isN
theorem op_notNX : OpR X (compareOp .IsNot) rNotN := op_notN
theorem x_isN_non (h : Q (.bl true) H) : rIsN .non .non H Q := ⟨rfl, h⟩
theorem x_isN_ref (h : Q (.bl false) H) : rIsN (.ref l) .non H Q := ⟨rfl, h⟩
theorem x_isN_int {i : Int} (h : Q (.bl false) H) : rIsN (.int i) .non H Q := ⟨rfl, h⟩
theorem x_isN_str {z : Str} (h : Q (.bl false) H) : rIsN (.str z) .non H Q := ⟨rfl, h⟩
theorem x_isN_bl {c : Bool} (h : Q (.bl false) H) : rIsN (.bl c) .non H Q := ⟨rfl, h⟩
theorem x_notN_non (h : Q (.bl false) H) : rNotN .non .non H Q := ⟨rfl, h⟩
theorem x_notN_ref (h : Q (.bl true) H) : rNotN (.ref l) .non H Q := ⟨rfl, h⟩
theorem x_notN_int {i : Int} (h : Q (.bl true) H) : rNotN (.int i) .non H Q := ⟨rfl, h⟩
theorem x_notN_str {z : Str} (h : Q (.bl true) H) : rNotN (.str z) .non H Q := ⟨rfl, h⟩
theorem x_notN_bl {c : Bool} (h : Q (.bl true) H) : rNotN (.bl c) .non H Q := ⟨rfl, h⟩
/-! ### texts' methods -/
def rFind : V → List V → Hp → VK → Prop := fun x xs H Q => ∃ a b, x = .str a ∧ xs = [.str b] ∧ Q (.int (Txt.find a b)) H
def rStarts : V → List V → Hp → VK → Prop := fun x xs H Q => ∃ a b, x = .str a ∧ xs = [.str b] ∧ Q (.bl (Txt.startswith a b)) H
def rSplitX : V → List V → Hp → VK → Prop := fun x xs H Q => ∃ a b, x = .str a ∧ xs = [.str b] ∧ (b.length == 0) = false ∧ a.length + 2 ≤ sizeLine ∧ rNewStrs (Txt.split a b) H Q
def rPart : V → List V → Hp → VK → Prop := fun x xs H Q => ∃ a b, x = .str a ∧ xs = [.str b] ∧ (b.length == 0) = false ∧ a.length ≤ sizeLine ∧
      ∀ p, H p = none → Q (.ref p) (upd H p (.tup [.str (Txt.partition a b).1, .str (Txt.partition a b).2.1, .str (Txt.partition a b).2.2]))
def rIntS : List V → Hp → VK → Prop := fun xs H Q => ∃ a n, xs = [.str a] ∧ PySem.intText? a = some n ∧ a.length ≤ 640 ∧ Q (.int n) H
theorem mt_findX : MtR X "str.find" rFind := mt_find
theorem mt_startsX : MtR X "str.startswith" rStarts := mt_startswith
theorem mt_splitX : MtR X "str.split" rSplitX := mt_split
theorem mt_partX : MtR X "str.partition" rPart := mt_partition
theorem call_intSX : CallR X (.type "int") rIntS := call_int_str
theorem x_find {a b : Str} (h : Q (.int (Txt.find a b)) H) : rFind (.str a) [.str b] H Q := ⟨a, b, rfl, rfl, h⟩
theorem x_starts {a b : Str} (h : Q (.bl (Txt.startswith a b)) H) : rStarts (.str a) [.str b] H Q := ⟨a, b, rfl, rfl, h⟩
theorem x_splitZ {a b : Str} (hb : (b.length == 0) = false) (hz : a.length ≤ 1000000) (h : ∀ p H', H p = none → Same H H' → H' p = some (.lst ((Txt.split a b).map V.str)) → Q (.ref p) H') : rSplitX (.str a) [.str b] H Q :=
  ⟨a, b, rfl, rfl, hb, Nat.le_trans (Nat.add_le_add_right hz 2) (by decide), fun p hp => h p _ hp (same_new hp) upd_same⟩
theorem x_partZ {a b : Str} (hb : (b.length == 0) = false) (hz : a.length ≤ 1000000) (h : ∀ p H', H p = none → Same H H' → H' p = some (.tup [.str (Txt.partition a b).1, .str (Txt.partition a b).2.1, .str (Txt.partition a b).2.2]) → Q (.ref p) H') : rPart (.str a) [.str b] H Q :=
  ⟨a, b, rfl, rfl, hb, Nat.le_trans hz (by decide), fun p hp => h p _ hp (same_new hp) upd_same⟩
theorem x_intS {a : Str} {n : Int} (hn : PySem.intText? a = some n) (hz : a.length ≤ 640) (h : Q (.int n) H) : rIntS [.str a] H Q := ⟨a, n, rfl, hn, hz, h⟩
theorem x_inSq {p : Addr} {x : V} (hs : SqL K H p xs ∨ SqT K H p xs) (fx : flatV x = true) (fs : xs.all flatV = true) (h : Q (.bl (inV x xs)) H) : rInG K x (.ref p) H Q := ⟨p, xs, rfl, hs, fx, fs, h⟩
theorem x_inGL {z s : Str} {c : Nat} (e : s = ⟨#[c]⟩) (h : Q (.bl (decide (c ∈ z.cps.toList))) H) : rInG K (.str s) (.str z) H Q := by
  subst e; exact x_inGS h
end
/-- '' in a list of texts -/
theorem inV_str (z : Str) (zs : List Str) : inV (.str z) (zs.map V.str) = decide (z ∈ zs) := by
  unfold inV
  rw [List.any_map, Bool.eq_iff_iff, List.any_eq_true, decide_eq_true_eq]
  constructor
  · rintro ⟨y, hy, e⟩
    have : y = z := by simpa [eqV] using e
    rw [← this]; exact hy
  · intro h
    exact ⟨z, h, by simp [eqV]⟩
theorem flat_strs (zs : List Str) : (zs.map V.str).all flatV = true := by
  rw [List.all_map, List.all_eq_true]
  intro z _
  rfl
/-! ### where a sign stands first -/
theorem find_sign (x : Str) (c : Nat) : (Txt.find x ⟨#[c]⟩ = -1 ∧ c ∉ x.cps.toList) ∨ ∃ i : Nat, Txt.find x ⟨#[c]⟩ = (i : Int) ∧ x.cps.toList[i]? = some c := by
  have pre1 : ∀ i : Nat, TL.pre [c] (x.cps.toList.drop i) = true ↔ x.cps.toList[i]? = some c := fun i => by
    rw [← List.head?_drop]
    cases x.cps.toList.drop i with
    | nil => simp [TL.pre]
    | cons d r => simp [TL.pre]
  have at1 := fun i => (TL.at_iff (x := x) (y := ⟨#[c]⟩) (by simp [TL.tl]) i).trans (pre1 i)
  rcases find_whole x ⟨#[c]⟩ with ⟨h1, h2⟩ | ⟨i, h1, h2, _⟩
  · refine .inl ⟨h1, fun hm => ?_⟩
    obtain ⟨i, hi⟩ := List.getElem?_of_mem hm
    exact h2 i ((at1 i).mpr hi)
  · exact .inr ⟨i, h1, (at1 i).mp h2⟩
theorem figures_are : ("0123456789" : Str).cps.toList = (List.range 10).map (· + 48) := by decide +kernel
theorem find_figure (c : Nat) : Txt.find (Str.ofString "0123456789") ⟨#[c]⟩ = if 48 ≤ c ∧ c ≤ 57 then (c : Int) - 48 else -1 := by
  have e : (Str.ofString "0123456789").cps.toList = (List.range 10).map (· + 48) := figures_are
  rcases find_sign (Str.ofString "0123456789") c with ⟨h1, h2⟩ | ⟨i, h1, h2⟩
  · rw [h1, if_neg]
    rintro ⟨a, b⟩
    exact h2 (by rw [e]; exact List.mem_map.mpr ⟨c - 48, List.mem_range.mpr (by omega), by omega⟩)
  · rw [e, List.getElem?_map] at h2
    obtain ⟨j, hj, rfl⟩ := Option.map_eq_some_iff.mp h2
    have hj2 : i < 10 ∧ j = i := by
      have hlt : i < (List.range 10).length := (List.getElem?_eq_some_iff.mp hj).1
      rw [List.length_range] at hlt
      rw [List.getElem?_range hlt] at hj
      exact ⟨hlt, (Option.some.inj hj).symm⟩
    obtain ⟨h3, rfl⟩ := hj2
    rw [h1, if_pos (by omega)]
    omega
/-! ### a text cut at each sign c -/
def stepW (k : Nat) (ws : List (List Nat)) (c : Nat) : List (List Nat) := if c = k then ws ++ [[]] else ws.dropLast ++ [(ws.getLast?.getD []) ++ [c]]
theorem spl_step (k : Nat) : ∀ (cs acc : List Nat) (ws : List (List Nat)), cs.foldl (stepW k) (ws ++ [acc]) = ws ++ TL.spl [k] 0 acc cs
  | [], acc, ws => by rw [TL.spl_nil]; rfl
  | c :: cs, acc, ws => by
    rw [List.foldl_cons]
    by_cases h : c = k
    · subst h
      have e : TL.pre [c] (c :: cs) = true := by simp [TL.pre]
      rw [TL.spl_hit e]
      have e2 : stepW c (ws ++ [acc]) c = (ws ++ [acc]) ++ [[]] := if_pos rfl
      rw [e2, spl_step c cs [] (ws ++ [acc])]
      simp
    · have e : TL.pre [k] (c :: cs) = false := by simp [TL.pre, h]
      rw [TL.spl_miss e]
      have e2 : stepW k (ws ++ [acc]) c = ws ++ [acc ++ [c]] := by
        unfold stepW
        rw [if_neg h]
        simp
      rw [e2, spl_step k cs (acc ++ [c]) ws]
theorem spl_fold (k : Nat) (cs : List Nat) : TL.spl [k] 0 [] cs = cs.foldl (stepW k) [[]] := (spl_step k cs [] []).symm
theorem split_sign {z : Str} {k : Nat} (hk : k < 256) : Txt.split z ⟨#[k]⟩ = (z.cps.toList.foldl (stepW k) [[]]).map SX.S := by
  have h := SX.split_S (a := z.cps.toList) (b := [k]) (List.cons_ne_nil _ _) (by simp [hk])
  rw [SX.S_tl, spl_fold] at h
  exact h
/-! ### comprehensions whose tests and items lay nothing -/
section
variable {σ : L2.St} {H : Hp} {Q : VK} {K : PySem.W.Frag} {g : TG} {tt : TT} {te : TE} {vs : List Nat}
theorem lcS_pure {z : Str} (σ2 : Nat → L2.St) (f : Nat → V) (p : Nat → Bool) (hz : z.length ≤ 1000000)
    (hg : ∀ c H' (R : L2.St → Hp → Prop), R (σ2 c) H' → g (.str ⟨#[c]⟩) (wipe σ vs) H' R) (hw : ∀ c, wipe (σ2 c) vs = wipe σ vs)
    (ht : ∀ c H' (R : Bool → Hp → Prop), c ∈ z.cps.toList → Same H H' → R (p c) H' → tt (σ2 c) H' R) (he : ∀ c H' (R : VK), c ∈ z.cps.toList → p c = true → Same H H' → R (f c) H' → te (σ2 c) H' R)
    (h : ∀ d H', H d = none → Same H H' → H' d = some (.lst ((z.cps.toList.filter p).map f)) → Q (.ref d) H') : LcS z g tt te vs σ H Q := by
  intro d hd
  refine ⟨fun i H' => Same H H' ∧ H' d = some (.lst (((z.cps.toList.take i).filter p).map f)), ⟨same_new hd, upd_same⟩, ?_, ?_⟩
  · rintro i c H' hc ⟨s1, ed⟩
    have hm := List.mem_of_getElem? hc
    refine hg c H' _ ⟨hw c, ht c H' _ hm s1 ?_⟩
    cases hp : p c with
    | true =>
      rw [if_pos rfl]
      refine he c H' _ hm hp s1 ⟨_, ed, ?_, same_mut s1 hd, ?_⟩
      · rw [List.length_map]
        exact Nat.lt_of_le_of_lt (Nat.le_trans (List.length_filter_le _ _) (Nat.le_trans (by rw [List.length_take]; exact Nat.min_le_right _ _) (by rw [← len_def]; exact hz))) (by decide)
      · rw [upd_same, List.take_add_one, hc, List.filter_append, List.map_append]
        have e : (some c).toList.filter p = [c] := by simp [List.filter, hp]
        rw [e]
        rfl
    | false =>
      rw [if_neg Bool.false_ne_true]
      refine ⟨s1, ?_⟩
      have e : (some c).toList.filter p = [] := by simp [List.filter, hp]
      rw [ed, List.take_add_one, hc, List.filter_append, e, List.append_nil]
  · rintro H' ⟨s1, ed⟩
    rw [len_def, List.take_length] at ed
    exact h d H' hd s1 ed
theorem lcL_pure {a : Addr} {xs : List V} (σ2 : V → L2.St) (f : V → V) (p : V → Bool) (hs : SqL K H a xs) (hz : xs.length ≤ 1000000)
    (hg : ∀ x H' (R : L2.St → Hp → Prop), x ∈ xs → R (σ2 x) H' → g x (wipe σ vs) H' R) (hw : ∀ x, x ∈ xs → wipe (σ2 x) vs = wipe σ vs)
    (ht : ∀ x H' (R : Bool → Hp → Prop), x ∈ xs → Same H H' → R (p x) H' → tt (σ2 x) H' R) (he : ∀ x H' (R : VK), x ∈ xs → p x = true → Same H H' → R (f x) H' → te (σ2 x) H' R)
    (h : ∀ d H', H d = none → Same H H' → H' d = some (.lst ((xs.filter p).map f)) → Q (.ref d) H') : LcL K a xs g tt te vs σ H Q := by
  intro d hd
  refine ⟨fun i H' => Same H H' ∧ H' d = some (.lst (((xs.take i).filter p).map f)), ⟨same_new hd, upd_same⟩, fun i H' _ q => sql_keep hs q.1, ?_, ?_⟩
  · rintro i x H' hx ⟨s1, ed⟩
    have hm := List.mem_of_getElem? hx
    refine hg x H' _ hm ⟨hw x hm, ht x H' _ hm s1 ?_⟩
    cases hp : p x with
    | true =>
      rw [if_pos rfl]
      refine he x H' _ hm hp s1 ⟨_, ed, ?_, same_mut s1 hd, ?_⟩
      · rw [List.length_map]
        exact Nat.lt_of_le_of_lt (Nat.le_trans (List.length_filter_le _ _) (Nat.le_trans (by rw [List.length_take]; exact Nat.min_le_right _ _) hz)) (by decide)
      · rw [upd_same, List.take_add_one, hx, List.filter_append, List.map_append]
        have e : (some x).toList.filter p = [x] := by simp [List.filter, hp]
        rw [e]
        rfl
    | false =>
      rw [if_neg Bool.false_ne_true]
      refine ⟨s1, ?_⟩
      have e : (some x).toList.filter p = [] := by simp [List.filter, hp]
      rw [ed, List.take_add_one, hx, List.filter_append, e, List.append_nil]
  · rintro H' ⟨s1, ed⟩
    rw [List.take_length] at ed
    exact h d H' hd s1 ed
theorem tyes_pure {R : Bool → Hp → Prop} (h : R true H) : tYes σ H R := h
theorem filter_true {α : Type} (xs : List α) : xs.filter (fun _ => true) = xs := by simp
end
theorem x_allF {α : Type} {K : PySem.W.Frag} {H : Hp} {Q : VK} {a : Addr} {zs : List α} {f : α → Bool} (hs : H a = some (.lst ((zs.filter fun _ => true).map fun c => V.bl (f c)))) (h : Q (.bl (zs.all f)) H) : rAll K [.ref a] H Q := by
  refine x_all (bs := zs.map f) (.inl (.inl ?_)) ?_
  · rw [hs, filter_true, List.map_map]
    rfl
  · rw [List.all_map]
    exact h
theorem in_figures (c : Nat) : decide (c ∈ ("0123456789" : Str).cps.toList) = (decide (48 ≤ c) && decide (c ≤ 57)) := by
  rw [figures_are, Bool.eq_iff_iff]
  simp only [decide_eq_true_eq, Bool.and_eq_true, List.mem_map, List.mem_range]
  constructor
  · rintro ⟨a, h, rfl⟩; omega
  · intro h; exact ⟨c - 48, by omega, by omega⟩
theorem one_inj {a b : Nat} : one a = one b ↔ a = b := ⟨fun h => by
  have e : (one a).cps.toList = (one b).cps.toList := by rw [h]
  exact (List.cons.inj e).1, fun h => by rw [h]⟩
theorem lit_eq {s : Str} {k : Nat} (e : s = one k) (c : Nat) : decide (one c = s) = decide (c = k) := by
  rw [e]; exact decide_eq_decide.mpr one_inj
theorem str_eq_one {z : Str} {k : Nat} : z = one k ↔ z.cps.toList = [k] := ⟨fun h => by rw [h]; rfl, fun h => by rw [← SX.S_tl z, h]; rfl⟩
/-! ### how long a repr is -/
theorem textFrom_le : ∀ (ts : List Str) (k : Nat) (acc : Str), (textFrom k acc ts).length ≤ acc.length + (ts.map fun t => t.length + 2).sum
  | [], k, acc => by show acc.length ≤ _; simp
  | t :: r, k, acc => by
    have h := textFrom_le r (k + 1) (acc ++ (if k > 0 then ", " else "" : String) ++ t)
    have e : (Str.ofString (if k > 0 then ", " else "" : String)).length ≤ 2 := by
      split <;> decide +kernel
    rw [len_append, len_append] at h
    rw [List.map_cons, List.sum_cons]
    exact Nat.le_trans h (by omega)
theorem listText_le (ts : List Str) : (listText ts).length ≤ 2 + (ts.map fun t => t.length + 2).sum := by
  show (textFrom 0 "[" ts ++ Str.ofString "]").length ≤ _
  have h := textFrom_le ts 0 "["
  have e1 : (Str.ofString "[").length = 1 := by decide +kernel
  have e2 : (Str.ofString "]").length = 1 := by decide +kernel
  rw [len_append]
  have h2 : (textFrom 0 (Str.ofString "[") ts).length ≤ (Str.ofString "[").length + (ts.map fun t => t.length + 2).sum := h
  show (textFrom 0 (Str.ofString "[") ts).length + _ ≤ _
  omega
theorem repr_le {z : Str} (h : okS z) : (reprText z).length ≤ 10 * z.length + 2 := StrLaws.reprText_len z (fun c hc => Nat.lt_of_lt_of_le (h c hc) (by decide))
theorem shown_strs_le : ∀ {zs : List Str} {n : Nat}, (∀ z ∈ zs, okS z ∧ z.length ≤ n) → ((PyData.shownAll (zs.map .str)).map fun t => t.length + 2).sum ≤ zs.length * (10 * n + 4)
  | [], _, _ => by simp [PyData.shownAll]
  | z :: zs, n, h => by
    have h1 := repr_le (h z List.mem_cons_self).1
    have h2 := (h z List.mem_cons_self).2
    have h3 := shown_strs_le (zs := zs) (n := n) fun y hy => h y (List.mem_cons_of_mem _ hy)
    simp only [List.map_cons, PyData.shownAll, PyData.shown, List.sum_cons, List.length_cons]
    have e : (zs.length + 1) * (10 * n + 4) = zs.length * (10 * n + 4) + (10 * n + 4) := by
      rw [Nat.add_mul, Nat.one_mul]
    rw [e]
    omega
theorem showable_strs : ∀ {zs : List Str}, PyData.showableAll (zs.map .str) = true
  | [] => by simp [PyData.showableAll]
  | z :: zs => by simp [PyData.showableAll, PyData.showable, showable_strs]
theorem nodict_strs : ∀ {zs : List Str}, PyData.hasDictAll (zs.map .str) = false
  | [] => by simp [PyData.hasDictAll]
  | z :: zs => by simp [PyData.hasDictAll, PyData.hasDict, nodict_strs]
/-! ### the last item -/
theorem ixN_snoc {α : Type} (xs : List α) (x : α) : ixN (xs ++ [x]).length (-1) = some xs.length := by
  unfold ixN
  rw [if_neg (by omega), if_pos (by simp; omega)]
  rw [List.length_append, List.length_singleton]
  congr 1
  omega
theorem atI_snoc {α : Type} (xs : List α) (x : α) : atI (xs ++ [x]) (-1) = some x := by
  unfold atI
  rw [ixN_snoc, Option.bind_some]
  simp
theorem set_snoc {α : Type} (xs : List α) (x y : α) : (xs ++ [x]).set xs.length y = xs ++ [y] := by
  simp
theorem snoc_of {α : Type} {xs : List α} (h : xs ≠ []) : ∃ us l, xs = us ++ [l] := ⟨xs.dropLast, xs.getLast h, (List.dropLast_concat_getLast h).symm⟩
theorem sign_eq {s : Str} {k : Nat} (e : s = one k) (c : Nat) : decide ((⟨#[c]⟩ : Str) = s) = decide (c = k) := lit_eq e c
theorem S_one (c : Nat) : (⟨#[c]⟩ : Str) = SX.S [c] := rfl
theorem stepW_sep {k : Nat} {ws : List (List Nat)} : stepW k ws k = ws ++ [[]] := if_pos rfl
theorem stepW_other {k c : Nat} {us : List (List Nat)} {l : List Nat} (h : c ≠ k) : stepW k (us ++ [l]) c = us ++ [l ++ [c]] := by
  unfold stepW
  rw [if_neg h]
  simp
/-! ### join of words; changes beside -/
theorem mem_joinL (a : List Nat) (c : Nat) : ∀ ys : List (List Nat), c ∈ TL.joinL a ys → c ∈ a ∨ ∃ y ∈ ys, c ∈ y
  | [], h => by cases h
  | [y], h => .inr ⟨y, List.mem_cons_self, h⟩
  | y :: z :: r, h => by
    rcases List.mem_append.mp (show c ∈ y ++ (a ++ TL.joinL a (z :: r)) from h) with h | h
    · exact .inr ⟨y, List.mem_cons_self, h⟩
    · rcases List.mem_append.mp h with h | h
      · exact .inl h
      · rcases mem_joinL a c (z :: r) h with h | ⟨w, hw, h⟩
        · exact .inl h
        · exact .inr ⟨w, List.mem_cons_of_mem _ hw, h⟩
theorem len_joinL (a : List Nat) (n : Nat) : ∀ ys : List (List Nat), (∀ y ∈ ys, y.length ≤ n) → (TL.joinL a ys).length ≤ ys.length * (n + a.length)
  | [], _ => Nat.zero_le _
  | [y], h => by
    have := h y List.mem_cons_self
    show y.length ≤ 1 * _
    omega
  | y :: z :: r, h => by
    have h1 := h y List.mem_cons_self
    have h2 := len_joinL a n (z :: r) fun w hw => h w (List.mem_cons_of_mem _ hw)
    show (y ++ (a ++ TL.joinL a (z :: r))).length ≤ ((z :: r).length + 1) * _
    rw [List.length_append, List.length_append, Nat.add_mul, Nat.one_mul]
    omega
theorem x_joinSs {K : PySem.W.Frag} {H : Hp} {Q : VK} {p : Addr} {a : Str} {ws : List (List Nat)} (n : Nat) (hs : H p = some (.lst ((ws.map SX.S).map V.str))) (hn : ∀ y ∈ ws, y.length ≤ n) (hz : ws.length * (n + a.length) ≤ 1000000) (h : Q (.str (SX.S (TL.joinL a.cps.toList ws))) H) :
    rJoin K (.str a) [.ref p] H Q := by
  refine x_joinL (ys := ws.map SX.S) (.inl (.inl hs)) ?_ ?_
  · rw [SX.lens, List.length_map]
    have e : (ws.map fun x => x.length).sum ≤ ws.length * n := by
      clear hs hz h
      induction ws with
      | nil => simp
      | cons y r ih =>
        rw [List.map_cons, List.sum_cons, List.length_cons, Nat.add_mul, Nat.one_mul]
        have := hn y List.mem_cons_self
        have := ih fun z hz => hn z (List.mem_cons_of_mem _ hz)
        omega
    rw [Nat.mul_add] at hz
    omega
  · rw [← SX.S_tl a, SX.join_S] 
    exact h
theorem Chg.fresh {p f : Addr} {H H2 H3 : Hp} (c : Chg p H H2) (n : H f = none) (d : Chg f H2 H3) : Chg p H H3 := fun b o hb e => d b o (ne_of_none e n) (c b o hb e)
theorem BoxAt.chg {k : Nat} {H H' : Hp} {p f : Addr} (b : BoxAt k H p) (d : Chg f H H') (n : f ≠ p) : BoxAt k H' p := by
  obtain ⟨x, y, c, e, h⟩ := b
  exact ⟨x, y, c, d p _ (Ne.symm n) e, h⟩
/-! ### signs drawn one by one -/
theorem lcR_draw {K : PySem.W.Frag} {σ : L2.St} {H : Hp} {Q : VK} {g : TG} {te : TE} {vs : List Nat} {sg : Str} {p : Addr} {n k : Nat} {i j : Nat} (σ2 : Nat → L2.St) (m : Int) (hm : (sg.length : Int) = m) (m0 : 0 < m) (m1 : m ≤ 1000) (kg : okS sg)
    (bx : BoxAt (k + n) H p) (hn : n ≤ 100000) (hg : ∀ i H' (R : L2.St → Hp → Prop), R (σ2 i) H' → g (.int (0 + (i : Int))) (wipe σ vs) H' R) (hw : ∀ i, wipe (σ2 i) vs = wipe σ vs)
    (he : te = tOp (rIx K) (tVar i) (tCall (sp2 p_law_take) [] E0 (tCons (tVar j) (tCons (tC (.int m)) tNil)))) (hi : ∀ l, (σ2 l)[i]? = some (some (.str sg))) (hj : ∀ l, (σ2 l)[j]? = some (some (.ref p)))
    (h : ∀ d H' (cs : List Nat), H d = none → cs.length = n → okS ⟨cs.toArray⟩ → H' d = some (.lst ((cs.map one).map V.str)) → BoxAt k H' p → Chg p H H' → Q (.ref d) H') : LcR 0 n g tYes te vs σ H Q := by
  subst he
  intro d hd
  refine ⟨fun i H' => ∃ cs : List Nat, cs.length = i ∧ okS ⟨cs.toArray⟩ ∧ H' d = some (.lst ((cs.map one).map V.str)) ∧ BoxAt (k + n - i) H' p ∧ Chg p H H', ⟨[], rfl, okS_cs (by simp), upd_same, bx.upd hd, Chg.of (same_new hd)⟩, ?_, ?_⟩
  · rintro l H' hl ⟨cs, el, oz, ed, b3, c3⟩
    refine hg l H' _ ⟨hw l, ?_⟩
    refine x_yes ?_
    refine x_ifT ?_
    refine ⟨_, hi l, _, hj l, _, _, rfl, ?_⟩
    refine take_use (k := k + n - (l + 1)) (b3.le (by omega)) m0 (by omega) fun d2 H4 e0 e1 b4 c4 => ?_
    refine x_ixSr e0 (by omega) (by omega) fun c hc => ?_
    refine ⟨_, c4.at (bx.ne hd) ed, ?_, cs ++ [c], ?_, ?_, ?_, ?_, ?_⟩
    · rw [List.length_map, List.length_map, el]
      exact Nat.lt_of_lt_of_le (by omega : l < 1000000) (by decide)
    · rw [List.length_append, el]; rfl
    · rw [← str_app]
      exact okS_app oz (okS_one (kg c (List.mem_of_getElem? hc)))
    · rw [upd_same, List.map_append, List.map_append]; rfl
    · exact (b4.upd_of (bx.ne hd)).le (by omega)
    · exact (c3.trans c4).updN hd
  · rintro H' ⟨cs, el, oz, ed, b3, c3⟩
    exact h d H' cs hd el oz ed (b3.le (by omega)) c3
end SW


local macro_rules | `(tactic| walk_at "len") => `(tactic| first
  | assumption
  | (with_reducible exact Nat.le_of_ble_eq_true rfl)
  | ((with_reducible refine SW.cut_le ?_); (walk_at "len"))
  | (simp only [SW.len_append, SW.one_len, SW.len_cs]; (have := fun z lo hi => L2.cutS_length z lo hi); omega)
  | omega)
local macro_rules | `(tactic| walk_at "s1") => `(tactic| first
  | with_reducible refine SW.x_seq ?_
  | with_reducible refine SW.x_set ?_
  | with_reducible refine SW.x_sub ?_
  | with_reducible refine SW.x_gSub ?_
  | with_reducible refine SW.x_ret ?_
  | with_reducible refine SW.x_drop ?_
  | with_reducible refine SW.x_next ?_
  | with_reducible refine SW.x_brk ?_
  | with_reducible refine SW.x_cont ?_
  | with_reducible refine SW.x_ifS ?_
  | with_reducible refine SW.x_test ?_
  | with_reducible refine SW.x_B ?_
  | with_reducible refine SW.x_and ?_
  | with_reducible refine SW.x_or ?_
  | with_reducible refine SW.x_not ?_
  | with_reducible refine SW.x_andV ?_
  | with_reducible refine SW.x_orV ?_
  | with_reducible refine SW.x_notV ?_
  | with_reducible refine SW.x_if ?_
  | with_reducible refine SW.x_op ?_
  | with_reducible refine SW.x_un ?_
  | with_reducible refine SW.x_chain ?_
  | ((with_reducible apply SW.x_var); (focus exact rfl))
  | with_reducible refine SW.x_c ?_
  | with_reducible refine SW.x_nil ?_
  | with_reducible refine SW.x_cons ?_
  | with_reducible refine SW.x_lst2 ?_
  | with_reducible refine SW.x_tup2 ?_
  | ((with_reducible apply SW.x_lstZ); (focus exact Nat.le_of_ble_eq_true rfl))
  | ((with_reducible apply SW.x_tupZ); (focus exact Nat.le_of_ble_eq_true rfl))
  | with_reducible refine SW.x_dnewZ ?_
  | ((with_reducible apply SW.x_dispV); (focus exact rfl))
  | with_reducible refine SW.x_dispC ?_
  | with_reducible refine SW.x_CB ?_
  | with_reducible refine SW.x_call ?_
  | with_reducible refine SW.x_sl ?_
  | with_reducible refine SW.x_noPart ?_
  | with_reducible refine SW.x_part ?_
  | with_reducible refine SW.x_bl ?_
  | with_reducible refine SW.x_int ?_
  | with_reducible refine SW.x_rI0 ?_
  | with_reducible refine SW.x_rU ?_
  | with_reducible refine SW.x_plusI ?_
  | with_reducible refine SW.x_eqGI ?_
  | with_reducible refine SW.x_neGI ?_
  | with_reducible refine SW.x_eqGS ?_
  | with_reducible refine SW.x_neGS ?_
  | ((with_reducible apply SW.x_modP); (focus omega))
  | ((with_reducible apply SW.x_divP); (focus omega); (focus omega))
  | ((with_reducible apply SW.x_mulP); (focus omega))
  | ((with_reducible apply SW.x_powP); (focus omega); (focus omega); (focus omega))
  | ((with_reducible apply SW.x_ixL); (focus assumption); (focus exact rfl))
  | ((with_reducible apply SW.x_ixT); (focus assumption); (focus exact rfl))
  | ((with_reducible apply SW.x_setL); (focus assumption); (focus exact rfl))
  | ((with_reducible apply SW.x_plusLZ); (focus assumption); (focus assumption); (focus exact Nat.le_of_ble_eq_true rfl))
  | ((with_reducible apply SW.x_lenL); (focus assumption))
  | ((with_reducible apply SW.x_sz); (focus exact Nat.le_of_ble_eq_true rfl))
  | with_reducible refine SW.x_max2 ?_
  | with_reducible refine SW.x_min2 ?_
  | with_reducible refine SW.x_abs ?_
  | with_reducible refine SW.x_forR1 ?_
  | with_reducible refine SW.x_forR2 ?_
  | with_reducible refine SW.x_forL ?_
  | with_reducible refine SW.x_forS ?_
  | with_reducible refine SW.x_lcR1 ?_
  | with_reducible refine SW.x_lcL ?_
  | with_reducible refine SW.x_lcS ?_
  | ((with_reducible apply SW.x_rngK1); (focus omega))
  | ((with_reducible apply SW.x_rngK2); (focus omega))
  | ((with_reducible apply SW.x_lcK1); (focus omega))
  | with_reducible refine SW.x_strK ?_
  | with_reducible refine SW.x_lcKS ?_
  | with_reducible refine SW.x_gName ?_
  | with_reducible refine SW.x_yes ?_
  | ((with_reducible apply SW.x_wipe); (focus exact rfl))
  | with_reducible refine SW.x_ifT ?_
  | with_reducible refine SW.x_ifF ?_
  | with_reducible refine SW.x_ifNT ?_
  | with_reducible refine SW.x_ifNF ?_
  | with_reducible refine SW.x_ltS ?_
  | with_reducible refine SW.x_leS ?_
  | with_reducible refine SW.x_gtS ?_
  | with_reducible refine SW.x_geS ?_
  | with_reducible refine SW.x_inGS ?_
  | with_reducible refine SW.isi_int_int ?_
  | with_reducible refine SW.isi_int_bool ?_
  | with_reducible refine SW.isi_int_str ?_
  | with_reducible refine SW.isi_int_list ?_
  | with_reducible refine SW.isi_int_tuple ?_
  | with_reducible refine SW.isi_int_dict ?_
  | with_reducible refine SW.isi_bl_int ?_
  | with_reducible refine SW.isi_bl_bool ?_
  | with_reducible refine SW.isi_bl_str ?_
  | with_reducible refine SW.isi_bl_list ?_
  | with_reducible refine SW.isi_bl_tuple ?_
  | with_reducible refine SW.isi_bl_dict ?_
  | with_reducible refine SW.isi_str_int ?_
  | with_reducible refine SW.isi_str_bool ?_
  | with_reducible refine SW.isi_str_str ?_
  | with_reducible refine SW.isi_str_list ?_
  | with_reducible refine SW.isi_str_tuple ?_
  | with_reducible refine SW.isi_str_dict ?_
  | with_reducible refine SW.isi_non_int ?_
  | with_reducible refine SW.isi_non_bool ?_
  | with_reducible refine SW.isi_non_str ?_
  | with_reducible refine SW.isi_non_list ?_
  | with_reducible refine SW.isi_non_tuple ?_
  | with_reducible refine SW.isi_non_dict ?_
  | with_reducible refine SW.x_bm ?_
  | with_reducible refine SW.x_bm0 ?_
  | ((with_reducible apply SW.x_tyL); (focus assumption))
  | ((with_reducible apply SW.x_app); (focus assumption); (focus first | assumption | omega | exact Nat.le_of_ble_eq_true rfl))
  | ((with_reducible apply SW.x_rev); (focus assumption))
  | with_reducible refine SW.x_isN_non ?_
  | with_reducible refine SW.x_isN_ref ?_
  | with_reducible refine SW.x_isN_int ?_
  | with_reducible refine SW.x_isN_str ?_
  | with_reducible refine SW.x_isN_bl ?_
  | with_reducible refine SW.x_notN_non ?_
  | with_reducible refine SW.x_notN_ref ?_
  | with_reducible refine SW.x_notN_int ?_
  | with_reducible refine SW.x_notN_str ?_
  | with_reducible refine SW.x_notN_bl ?_
  | with_reducible refine SW.x_find ?_
  | with_reducible refine SW.x_starts ?_
  | with_reducible refine SW.x_strS ?_
  | with_reducible refine SW.x_m1 ?_
  | ((with_reducible apply SW.x_lenZ); (focus walk_at "len"))
  | ((with_reducible apply SW.x_slZ); (focus walk_at "len"))
  | ((with_reducible apply SW.x_plusZ); (focus walk_at "len"); (focus walk_at "len"))
  | with_reducible refine SW.x_isStr ?_
  | with_reducible refine SW.x_exv2 ?_
  | with_reducible refine SW.x_exvZ ?_
  | ((with_reducible apply SW.x_small); (focus exact Nat.le_of_ble_eq_true rfl))
  | ((with_reducible apply SW.x_ixL); (focus exact L2.upd_same); (focus exact rfl))
  | with_reducible refine SW.x_sp1 ?_
  | with_reducible refine SW.x_sp2 ?_
  | with_reducible refine SW.x_sp3 ?_
  | with_reducible refine SW.x_sp0 ?_)
local macro_rules | `(tactic| walk_at "s") => `(tactic| repeat walk_at "s1")

namespace SW
open PySem PySem.Spec PyProof.Rows L2
def top (i : Nat) : Stmt := PySem.Challenge.pw_stonewalks_k02_numbers_and_words.main.body.getD i (.Pass ⟨0, 0, 0, 0⟩)
def inClass (s : Stmt) (j : Nat) : Stmt := match s with
  | .ClassDef (body := b) .. => b.getD j (.Pass ⟨0, 0, 0, 0⟩)
  | _ => .Pass ⟨0, 0, 0, 0⟩
abbrev s_number_of : Stmt := top 3
abbrev s_words_of : Stmt := top 4
abbrev s_NoNumber_init : Stmt := inClass (top 7) 0
abbrev s_law_cell : Stmt := top 9
abbrev s_law_box : Stmt := top 10
abbrev s_law_take : Stmt := top 11
abbrev s_law_signs : Stmt := top 12
abbrev s_law_spoilt : Stmt := top 13
abbrev s_law_figures : Stmt := top 14
abbrev s_law_row : Stmt := top 15
abbrev s_law_number_due : Stmt := top 16
abbrev s_law_words_due : Stmt := top 17
abbrev s_law : Stmt := top 18
structure Txt (K : PySem.W.Frag) (mg : Str → Option Value) : Prop where
  nf_NoNumber_found : PySem.W.findIn K (.ref (He.ga K "NoNumber")) "found" = some none
  b_StoneError : BiniC K (He.ga K "StoneError") "ValueError.__init__"
  n_all : mg "all" = none
  n_int : mg "int" = none
  n_isinstance : mg "isinstance" = none
  n_len : mg "len" = none
  n_max : mg "max" = none
  n_min : mg "min" = none
  n_range : mg "range" = none
  n_repr : mg "repr" = none
  n_str : mg "str" = none
  g_FIGURES : ∃ t, mg "FIGURES" = some (.str "0123456789" t)
  g_MOST_FIGURES : ∃ t, mg "MOST_FIGURES" = some (.int 60 t)
  g_StoneError : mg "StoneError" = some (.ref (He.ga K "StoneError"))
  g_NoNumber : mg "NoNumber" = some (.ref (He.ga K "NoNumber"))
  x_NoNumber : XcC K (He.ga K "NoNumber")
  i_NoNumber : IniC K (He.ga K "NoNumber") (He.ma K (He.ga K "NoNumber") "__init__")
  off_NoNumber : noneOf K (.ref (He.ga K "NoNumber")) ["int", "bool", "str", "list", "tuple", "dict"]
  g_number_of : mg "number_of" = some (.ref (He.ga K "number_of"))
  g_words_of : mg "words_of" = some (.ref (He.ga K "words_of"))
  g_law_cell : mg "_law_cell" = some (.ref (He.ga K "_law_cell"))
  g_law_box : mg "_law_box" = some (.ref (He.ga K "_law_box"))
  g_law_take : mg "_law_take" = some (.ref (He.ga K "_law_take"))
  g_law_signs : mg "_law_signs" = some (.ref (He.ga K "_law_signs"))
  g_law_spoilt : mg "_law_spoilt" = some (.ref (He.ga K "_law_spoilt"))
  g_law_figures : mg "_law_figures" = some (.ref (He.ga K "_law_figures"))
  g_law_row : mg "_law_row" = some (.ref (He.ga K "_law_row"))
  g_law_number_due : mg "_law_number_due" = some (.ref (He.ga K "_law_number_due"))
  g_law_words_due : mg "_law_words_due" = some (.ref (He.ga K "_law_words_due"))
  g_law : mg "law" = some (.ref (He.ga K "law"))
  d_number_of : ∃ fd, FunD K "number_of" "number_of" (defArgs s_number_of) (defBody s_number_of) (defScope s_number_of) [] [] (He.ga K "number_of") fd
  d_words_of : ∃ fd, FunD K "words_of" "words_of" (defArgs s_words_of) (defBody s_words_of) (defScope s_words_of) [] [] (He.ga K "words_of") fd
  d_NoNumber_init : ∃ fd, FunD K "__init__" "NoNumber.__init__" (defArgs s_NoNumber_init) (defBody s_NoNumber_init) (defScope s_NoNumber_init) [] [] (He.ma K (He.ga K "NoNumber") "__init__") fd
  d_law_cell : ∃ fd, FunD K "_law_cell" "_law_cell" (defArgs s_law_cell) (defBody s_law_cell) (defScope s_law_cell) [] [] (He.ga K "_law_cell") fd
  d_law_box : ∃ fd, FunD K "_law_box" "_law_box" (defArgs s_law_box) (defBody s_law_box) (defScope s_law_box) [] [] (He.ga K "_law_box") fd
  d_law_take : ∃ fd, FunD K "_law_take" "_law_take" (defArgs s_law_take) (defBody s_law_take) (defScope s_law_take) [] [] (He.ga K "_law_take") fd
  d_law_signs : ∃ fd, FunD K "_law_signs" "_law_signs" (defArgs s_law_signs) (defBody s_law_signs) (defScope s_law_signs) [] [] (He.ga K "_law_signs") fd
  d_law_spoilt : ∃ fd, FunD K "_law_spoilt" "_law_spoilt" (defArgs s_law_spoilt) (defBody s_law_spoilt) (defScope s_law_spoilt) [] [] (He.ga K "_law_spoilt") fd
  d_law_figures : ∃ fd, FunD K "_law_figures" "_law_figures" (defArgs s_law_figures) (defBody s_law_figures) (defScope s_law_figures) [] [] (He.ga K "_law_figures") fd
  d_law_row : ∃ fd, FunD K "_law_row" "_law_row" (defArgs s_law_row) (defBody s_law_row) (defScope s_law_row) [] [] (He.ga K "_law_row") fd
  d_law_number_due : ∃ fd, FunD K "_law_number_due" "_law_number_due" (defArgs s_law_number_due) (defBody s_law_number_due) (defScope s_law_number_due) [] [] (He.ga K "_law_number_due") fd
  d_law_words_due : ∃ fd, FunD K "_law_words_due" "_law_words_due" (defArgs s_law_words_due) (defBody s_law_words_due) (defScope s_law_words_due) [] [] (He.ga K "_law_words_due") fd
  d_law : ∃ fd, FunD K "law" "law" (defArgs s_law) (defBody s_law) (defScope s_law) [] [] (He.ga K "law") fd
section
variable {P : Program} {w : World} {K : PySem.W.Frag} {mg : Str → Option Value} {base : Heap}

/-! number_of -/
/-- the text writes a number plainly: one to sixty figures, no nought ahead -/
def numOk (cs : List Nat) : Bool := decide (1 ≤ cs.length) && (decide (cs.length ≤ 60) && ((cs.all fun c => decide (48 ≤ c) && decide (c ≤ 57)) && !(decide (cs.head? = some 48) && decide (1 < cs.length))))
def numV (v : V) : V := match v with
  | .str z => if numOk z.cps.toList = true then .int ((NumText.digitsVal z.cps.toList : Nat) : Int) else .non
  | _ => .non
def p_number_of (K : PySem.W.Frag) : P1 := fun a H Q _ => Th K H a ∧ ∀ H', Same H H' → Q (numV a) H'
theorem sc_number_of : FnScope ["thing", "sign"] ["thing"] (defScope s_number_of) := ⟨rfl, rfl, rfl, by decide +kernel, rfl, by decide +kernel, by decide +kernel⟩
theorem c_number_of (T : Txt K mg) : CalX P w K mg base 1 "number_of" (sp1 (p_number_of K)) [] := by
  obtain ⟨fd, F⟩ := T.d_number_of
  refine ⟨_, fd, ["thing"], _, FunD.ok F sc_number_of len1 (fun cdv A outer s H vs Q E hr h => ?_), T.g_number_of, F.kp, FunD.bindsN F (fun _ _ _ _ _ _ us hl => match us, hl with | [_], _ => rfl), .nil⟩
  refine ⟨_, (pss_cons (ps_if (PW.pt (pw_or (pt_not (pt_val (pe_callB (call_isiXK (K := K)) (by rfl) T.n_isinstance (by decide +kernel) (pa_cons (pv 0) (pa_cons (pe_bltn (v := .ty "str") (by rfl) T.n_str (by decide +kernel) rfl) pa_nil))))) (pw_or1 (pt_not (pt_chain op_le op_le pe_int (pe_callB (call_lenK (K := K)) (by rfl) T.n_len (by decide +kernel) (pa_cons (pv 0) pa_nil)) (pe_gi T.g_MOST_FIGURES)))))) (pss_one (ps_ret pe_non)) pss_nil)
      (pss_cons (ps_if (pt_not (pt_val (pe_callB (cr_allK (K := K)) (by rfl) T.n_all (by decide +kernel) (pa_cons (pe_lc (own := [("sign", 1)]) rfl sc_number_of.nd (pi_str (pv 0)) (blkOk_by (own := [("sign", 1)]) (N := ["thing", "sign"]) (sc := defScope s_number_of) (by decide +kernel)) (fun _ _ _ _ _ => (pg_name (i := 1) sc_number_of.nd rfl (by first | exact Or.inl rfl | exact Or.inr rfl))) (fun _ _ _ _ _ => pts_nil) (fun _ _ _ _ _ => (pe_cmpR (op_inGK (K := K)) (pv 1) (pe_gs T.g_FIGURES) (by rfl)))) pa_nil)))) (pss_one (ps_ret pe_non)) pss_nil)
      (pss_cons (ps_if (PW.pt (pw_and (pt_cmpR (op_eqGK (K := K) (hu64 hr)) (pe_ix (ix_seqK (K := K)) (pv 0) pe_int (fun _ _ => rfl)) pe_str (nomark _)) (pw_and1 (pt_cmpR (op_neGK (K := K) (hu64 hr)) (pv 0) pe_str (nomark _))))) (pss_one (ps_ret pe_non)) pss_nil)
      (pss_one (ps_ret (pe_callTy call_intSX (by rfl) T.n_int (by decide +kernel) (pa_cons (pv 0) pa_nil))))))), ?_⟩
  obtain ⟨v, rfl, th, hQ⟩ := h
  refine entry (σ0 := [some _, none]) rfl ?_
  try dsimp only [cxOf]
  walk_at "s"
  have no : ∀ {v : V}, numV v = .non → (∀ H', Same H H' → Q (numV v) H') → Q .non H := fun {v} e q => e ▸ q H fun _ _ h => h
  rcases th with ⟨n, rfl⟩ | ⟨z, rfl, hz, kz⟩ | ⟨b, rfl⟩ | rfl | ⟨p, rfl, o⟩
  · walk_at "s"
    exact no rfl hQ
  · have hz2 : z.length ≤ 1000000 := by omega
    walk_at "s"
    have off : numOk z.cps.toList = false → numV (.str z) = .non := fun h => by
      show (if numOk z.cps.toList = true then _ else _) = _
      rw [if_neg (by rw [h]; exact Bool.false_ne_true)]
    have hl : z.length = z.cps.toList.length := len_def z
    refine x_dec (fun c1 => ?_) fun c1 => ?_
    · walk_at "s"
      refine x_decN (fun c2 => ?_) fun c2 => ?_
      · walk_at "s"
        refine no (off ?_) hQ
        unfold numOk
        rw [decide_eq_false (p := z.cps.toList.length ≤ 60) (by omega), Bool.false_and, Bool.and_false]
      · walk_at "s"
        refine lcS_pure (fun c => [some (.str z), some (.str ⟨#[c]⟩)]) (fun c => .bl (decide (c ∈ ("0123456789" : Str).cps.toList))) (fun _ => true) hz2 (fun _ _ _ h => h) (fun _ => rfl) (fun _ _ _ _ _ h => h) (fun c H' R _ _ _ h => ?_) fun d H' hd s1 ed => ?_
        · walk_at "s"
          exact h
        walk_at "s"
        refine x_allF ed ?_
        walk_at "s"
        have ef : (fun c => decide (c ∈ ("0123456789" : Str).cps.toList)) = fun c => decide (48 ≤ c) && decide (c ≤ 57) := funext in_figures
        rw [ef]
        cases ha : z.cps.toList.all fun c => decide (48 ≤ c) && decide (c ≤ 57) with
        | false =>
          walk_at "s"
          have e := hQ H' s1
          rw [off (by unfold numOk; rw [ha, Bool.false_and, Bool.and_false, Bool.and_false])] at e
          exact e
        | true =>
          walk_at "s"
          refine x_ixSr (by omega) (by omega) hz2 fun c hc => ?_
          walk_at "s"
          rw [lit_eq (k := 48) (by decide +kernel)]
          have hd0 : z.cps.toList.head? = some c := by rw [← hc]; cases z.cps.toList <;> rfl
          have e0 : numOk z.cps.toList = !(decide (c = 48) && decide (1 < z.cps.toList.length)) := by
            unfold numOk
            rw [decide_eq_true (by omega : 1 ≤ z.cps.toList.length), decide_eq_true (by omega : z.cps.toList.length ≤ 60), ha, hd0, Bool.true_and, Bool.true_and, Bool.true_and]
            simp
          have digs : NumText.AllDigits z.cps.toList := fun c hc => by
            have := List.all_eq_true.mp ha c hc
            simpa using this
          have fin : numOk z.cps.toList = true → rIntS [.str z] H' Q := fun h => by
            refine x_intS (PySem.intText_digits digs (fun e => by rw [e] at hl; simp at hl; omega) (by omega)) (by omega) ?_
            have e := hQ H' s1
            have e2 : numV (.str z) = .int ((NumText.digitsVal z.cps.toList : Nat) : Int) := if_pos h
            rw [e2] at e
            exact e
          refine x_dec (fun h0 => ?_) fun h0 => ?_
          · walk_at "s"
            refine x_decN (fun h1 => ?_) fun h1 => ?_
            · walk_at "s"
              have e := hQ H' s1
              rw [off (by
                rw [e0, decide_eq_true h0, decide_eq_true (?_ : 1 < z.cps.toList.length)]
                · rfl
                · rcases Nat.lt_or_ge 1 z.cps.toList.length with h | h
                  · exact h
                  · refine absurd ?_ h1
                    have e1 : (Str.ofString "0") = one 48 := by decide +kernel
                    rw [e1, str_eq_one]
                    match hh : z.cps.toList, hd0 with
                    | [d], hd0 => rw [← h0]; exact congrArg (fun x => [x]) (Option.some.inj hd0)
                    | _ :: _ :: _, _ => rw [hh] at h; simp at h)] at e
              exact e
            · walk_at "s"
              refine fin ?_
              rw [e0, h1, decide_eq_true h0]
              decide +kernel
          · walk_at "s"
            refine fin ?_
            rw [e0, decide_eq_false h0]
            rfl
    · walk_at "s"
      refine no (off ?_) hQ
      unfold numOk
      rw [decide_eq_false (p := 1 ≤ z.cps.toList.length) (by omega), Bool.false_and]
  · walk_at "s"
    exact no rfl hQ
  · walk_at "s"
    exact no rfl hQ
  · refine x_odd o (by decide +kernel) ?_
    walk_at "s"
    exact no rfl hQ

/-! words_of -/
/-- the words of a text, one blank between any two, or none -/
def wordsO (v : V) : Option (List (List Nat)) := match v with
  | .str z => if 10 ∈ z.cps.toList then none else if [] ∈ z.cps.toList.foldl (stepW 32) [[]] then none else some (z.cps.toList.foldl (stepW 32) [[]])
  | _ => none
def WordsQ (o : Option (List (List Nat))) (H : Hp) (Q : VK) : Prop := match o with
  | none => ∀ H', Same H H' → Q .non H'
  | some ws => ∀ p H', H p = none → Same H H' → H' p = some (.lst ((ws.map SX.S).map V.str)) → Q (.ref p) H'
def p_words_of (K : PySem.W.Frag) : P1 := fun a H Q _ => Th K H a ∧ WordsQ (wordsO a) H Q
theorem wordsQ_none {o : Option (List (List Nat))} {H : Hp} {Q : VK} (e : o = none) (h : WordsQ o H Q) : ∀ H', Same H H' → Q .non H' := by
  subst e; exact h
theorem wordsQ_some {o : Option (List (List Nat))} {H : Hp} {Q : VK} {ws : List (List Nat)} (e : o = some ws) (h : WordsQ o H Q) : ∀ p H', H p = none → Same H H' → H' p = some (.lst ((ws.map SX.S).map V.str)) → Q (.ref p) H' := by
  subst e; exact h
theorem S_mem {a : List Nat} {ws : List (List Nat)} : SX.S a ∈ ws.map SX.S ↔ a ∈ ws := ⟨fun h => by
  obtain ⟨b, hb, e⟩ := List.mem_map.mp h
  rw [← SX.S_inj e]; exact hb, fun h => List.mem_map.mpr ⟨a, h, rfl⟩⟩
theorem sc_words_of : FnScope ["thing", "words"] ["thing"] (defScope s_words_of) := ⟨rfl, rfl, rfl, by decide +kernel, rfl, by decide +kernel, by decide +kernel⟩
theorem c_words_of (T : Txt K mg) : CalX P w K mg base 1 "words_of" (sp1 (p_words_of K)) [] := by
  obtain ⟨fd, F⟩ := T.d_words_of
  refine ⟨_, fd, ["thing"], _, FunD.ok F sc_words_of len1 (fun cdv A outer s H vs Q E hr h => ?_), T.g_words_of, F.kp, FunD.bindsN F (fun _ _ _ _ _ _ us hl => match us, hl with | [_], _ => rfl), .nil⟩
  refine ⟨_, (pss_cons (ps_if (PW.pt (pw_or (pt_not (pt_val (pe_callB (call_isiXK (K := K)) (by rfl) T.n_isinstance (by decide +kernel) (pa_cons (pv 0) (pa_cons (pe_bltn (v := .ty "str") (by rfl) T.n_str (by decide +kernel) rfl) pa_nil))))) (pw_or1 (pt_cmpR (op_inGK (K := K)) pe_str (pv 0) (by rfl))))) (pss_one (ps_ret pe_non)) pss_nil)
      (pss_cons (ps_set (i := 1) sc_words_of.nd rfl (by first | exact Or.inl rfl | exact Or.inr rfl) (pe_m1 PySem.F.slot_str_split PySem.F.type_str_split mt_splitX (pv 0) pe_str))
      (pss_cons (ps_if (pt_cmpR (op_inGK (K := K)) pe_str (pv 1) (by rfl)) (pss_one (ps_ret pe_non)) pss_nil)
      (pss_one (ps_ret (pv 1)))))), ?_⟩
  obtain ⟨v, rfl, th, hQ⟩ := h
  refine entry (σ0 := [some _, none]) rfl ?_
  try dsimp only [cxOf]
  walk_at "s"
  rcases th with ⟨n, rfl⟩ | ⟨z, rfl, hz, kz⟩ | ⟨b, rfl⟩ | rfl | ⟨p, rfl, o⟩
  · walk_at "s"
    exact wordsQ_none rfl hQ _ fun _ _ h => h
  · have hz2 : z.length ≤ 1000000 := by omega
    walk_at "s"
    refine x_inGL (c := 10) (by decide +kernel) ?_
    walk_at "s"
    refine x_dec (fun h10 => ?_) fun h10 => ?_
    · walk_at "s"
      exact wordsQ_none (if_pos h10) hQ _ fun _ _ h => h
    · walk_at "s"
      refine x_splitZ (by decide +kernel) hz2 fun p H1 hp s1 ep => ?_
      have eb : Str.ofString " " = ⟨#[32]⟩ := by decide +kernel
      rw [eb, split_sign (by decide)] at ep
      walk_at "s"
      refine x_inSq (.inl (.inl (.inl ep))) rfl (flat_strs _) ?_
      rw [inV_str]
      walk_at "s"
      have ee : Str.ofString "" = SX.S [] := by decide +kernel
      refine x_dec (fun hm => ?_) fun hm => ?_
      · walk_at "s"
        rw [ee, S_mem] at hm
        exact wordsQ_none (by show (if _ then _ else if _ then _ else _) = _; rw [if_neg h10, if_pos hm]) hQ _ s1
      · walk_at "s"
        rw [ee, S_mem] at hm
        exact wordsQ_some (by show (if _ then _ else if _ then _ else _) = _; rw [if_neg h10, if_neg hm]) hQ p _ hp s1 ep
  · walk_at "s"
    exact wordsQ_none rfl hQ _ fun _ _ h => h
  · walk_at "s"
    exact wordsQ_none rfl hQ _ fun _ _ h => h
  · refine x_odd o (by decide +kernel) ?_
    walk_at "s"
    exact wordsQ_none rfl hQ _ fun _ _ h => h

/-! NoNumber_init -/
theorem sc_NoNumber_init : FnScope ["self", "found"] ["self", "found"] (defScope s_NoNumber_init) := ⟨rfl, rfl, rfl, by decide +kernel, rfl, by decide +kernel, by decide +kernel⟩
theorem m_NoNumber_init (T : Txt K mg) : ExcX P w K mg base 1 "NoNumber" (He.ga K "NoNumber") (sp2 (p_xini (He.ga K "NoNumber") "found")) [] := by
  obtain ⟨fd, F⟩ := T.d_NoNumber_init
  refine ⟨_, fd, ["self", "found"], _, T.x_NoNumber, T.i_NoNumber, FunD.ok F sc_NoNumber_init len2 (fun cdv A outer s H vs Q E hr h => ?_), T.g_NoNumber, FunD.bindsN F (fun _ _ _ _ _ _ us hl => match us, hl with | [_, _], _ => rfl), .nil⟩
  refine ⟨_, (pss_cons (ps_expr (pe_ocinit T.g_StoneError T.b_StoneError (pa_cons (pv 0) (pa_cons pe_str pa_nil))))
      (pss_one (ps_ost (pv 0) (pv 1)))), ?_⟩
  obtain ⟨_, b, rfl, e, rfl, he, hQ⟩ := h
  refine entry (σ0 := [some _, some _]) rfl ?_
  try dsimp only [cxOf]
  walk_at "s"
  refine x_veI ?_
  walk_at "s"
  refine veI1 T.x_NoNumber.o ?_ he ?_
  · exact Nat.le_of_ble_eq_true rfl
  refine x_ost ?_
  walk_at "s"
  exact ost1 T.x_NoNumber.o T.nf_NoNumber_found he fun H' x c => hQ _ x c

/-! law_cell -/
theorem sc_law_cell : FnScope ["script", "k"] ["script", "k"] (defScope s_law_cell) := ⟨rfl, rfl, rfl, by decide +kernel, rfl, by decide +kernel, by decide +kernel⟩
theorem c_law_cell (T : Txt K mg) : CalX P w K mg base 1 "_law_cell" (sp2 (p_law_cell K)) [] := by
  obtain ⟨fd, F⟩ := T.d_law_cell
  refine ⟨_, fd, ["script", "k"], _, FunD.ok F sc_law_cell len2 (fun cdv A outer s H vs Q E hr h => ?_), T.g_law_cell, F.kp, FunD.bindsN F (fun _ _ _ _ _ _ us hl => match us, hl with | [_, _], _ => rfl), .nil⟩
  refine ⟨_, (pss_cons (ps_if (pt_cmpR op_lt (pv 1) (pe_callB (call_lenK (K := K)) (by rfl) T.n_len (by decide +kernel) (pa_cons (pv 0) pa_nil)) (nomark _)) (pss_one (ps_ret (pe_ix (ix_seqK (K := K)) (pv 0) (pv 1) (fun _ _ => rfl)))) pss_nil)
      (pss_one (ps_ret (pe_op (op_plusK (K := K)) (pe_op op_mulX pe_int (pv 1)) pe_int)))), ?_⟩
  obtain ⟨_, _, rfl, p, ns, k, rfl, rfl, hk, hS, hQ⟩ := h
  refine entry (σ0 := [some _, some _]) rfl ?_
  try dsimp only [cxOf]
  walk_at "s"
  refine x_dec (fun c => ?_) fun c => ?_
  · walk_at "s"
    refine x_ixLS (v := .int (ns[k]?.getD 0)) hS ?_ (hQ _)
    · apply atI_nat
      rw [List.length_map] at c
      have : k < ns.length := by omega
      simp [this]
  · walk_at "s"
    exact hQ _

/-! law_box -/
theorem sc_law_box : FnScope ["cell"] ["cell"] (defScope s_law_box) := ⟨rfl, rfl, rfl, by decide +kernel, rfl, by decide +kernel, by decide +kernel⟩
theorem c_law_box (T : Txt K mg) : CalX P w K mg base 1 "_law_box" (sp1 p_law_box) [] := by
  obtain ⟨fd, F⟩ := T.d_law_box
  refine ⟨_, fd, ["cell"], _, FunD.ok F sc_law_box len1 (fun cdv A outer s H vs Q E hr h => ?_), T.g_law_box, F.kp, FunD.bindsN F (fun _ _ _ _ _ _ us hl => match us, hl with | [_], _ => rfl), .nil⟩
  refine ⟨_, (pss_one (ps_ret (pe_lst (pa_cons (pe_callB (call_max2X rfl) (by rfl) T.n_max (by decide +kernel) (pa_cons pe_int (pa_cons (pe_op op_sub (pv 0) (pe_op op_pow pe_int pe_int)) pa_nil))) (pa_cons (pe_op op_modN (pv 0) pe_int) (pa_cons pe_int pa_nil)))))), ?_⟩
  obtain ⟨_, rfl, n, rfl, hQ⟩ := h
  refine entry (σ0 := [some _]) rfl ?_
  try dsimp only [cxOf]
  walk_at "s"
  intro p H' hp s1 e1
  refine hQ _ _ hp s1 ⟨_, _, _, e1, ?_, ?_, ?_, ?_⟩ <;> omega

/-! law_take -/
theorem sc_law_take : FnScope ["box", "many", "digit", "number"] ["box", "many"] (defScope s_law_take) := ⟨rfl, rfl, rfl, by decide +kernel, rfl, by decide +kernel, by decide +kernel⟩
theorem c_law_take (T : Txt K mg) : CalX P w K mg base 1 "_law_take" (sp2 p_law_take) [] := by
  obtain ⟨fd, F⟩ := T.d_law_take
  refine ⟨_, fd, ["box", "many"], _, FunD.ok F sc_law_take len2 (fun cdv A outer s H vs Q E hr h => ?_), T.g_law_take, F.kp, FunD.bindsN F (fun _ _ _ _ _ _ us hl => match us, hl with | [_, _], _ => rfl), .nil⟩
  refine ⟨_, (pss_cons (ps_if (pt_cmpR op_gt (pe_ix (ix_seqK (K := K)) (pv 0) pe_int (fun _ _ => rfl)) pe_int (nomark _)) (pss_cons (ps_set (i := 2) sc_law_take.nd rfl (by first | exact Or.inl rfl | exact Or.inr rfl) (pe_op op_modN (pe_ix (ix_seqK (K := K)) (pv 0) pe_int (fun _ _ => rfl)) (pv 1)))
      (pss_cons (ps_asg (pe_op op_fdivX (pe_ix (ix_seqK (K := K)) (pv 0) pe_int (fun _ _ => rfl)) (pv 1)) (pg_sub (pv 0) pe_int set_list))
      (pss_one (ps_ret (pv 2))))) pss_nil)
      (pss_cons (ps_asg (pe_op (op_plusK (K := K)) (pe_ix (ix_seqK (K := K)) (pv 0) pe_int (fun _ _ => rfl)) pe_int) (pg_sub (pv 0) pe_int set_list))
      (pss_cons (ps_set (i := 3) sc_law_take.nd rfl (by first | exact Or.inl rfl | exact Or.inr rfl) (pe_op op_modN (pe_op op_pow (pe_op (op_plusK (K := K)) (pe_op (op_plusK (K := K)) (pe_ix (ix_seqK (K := K)) (pv 0) pe_int (fun _ _ => rfl)) (pe_op op_mulX pe_int (pe_ix (ix_seqK (K := K)) (pv 0) pe_int (fun _ _ => rfl)))) pe_int) pe_int) pe_int))
      (pss_cons (ps_set (i := 3) sc_law_take.nd rfl (by first | exact Or.inl rfl | exact Or.inr rfl) (pe_op op_modN (pe_op op_pow (pe_op (op_plusK (K := K)) (pv 3) (pe_op op_mulX pe_int (pe_ix (ix_seqK (K := K)) (pv 0) pe_int (fun _ _ => rfl)))) pe_int) pe_int))
      (pss_one (ps_ret (pe_op op_modN (pe_op op_fdivX (pv 3) pe_int) (pv 1)))))))), ?_⟩
  obtain ⟨_, _, rfl, p, m, k, rfl, rfl, m0, m1, bx, hQ⟩ := h
  refine entry (σ0 := [some _, some _, none, none]) rfl ?_
  try dsimp only [cxOf]
  obtain ⟨x, y, c, hb, y0, y1, c0, c1⟩ := bx
  walk_at "s"
  refine x_dec (fun hx => ?_) fun hx => ?_
  · walk_at "s"
    refine hQ _ _ (Int.emod_nonneg _ (by omega)) (Int.emod_lt_of_pos _ m0) ⟨_, _, _, upd_same, y0, y1, c0, by omega⟩ Chg.upd
  · walk_at "s"
    refine hQ _ _ (Int.emod_nonneg _ (by omega)) (Int.emod_lt_of_pos _ m0) ⟨_, _, _, upd_same, y0, y1, ?_, ?_⟩ Chg.upd <;> omega

/-! law_signs -/
def p_law_signs : P0 := fun H Q _ => ∀ z : Str, z.length = 95 → okS z → Q (.str z) H
theorem sc_law_signs : FnScope ["signs"] [] (defScope s_law_signs) := ⟨rfl, rfl, rfl, by decide +kernel, rfl, by decide +kernel, by decide +kernel⟩
theorem c_law_signs (T : Txt K mg) : CalX P w K mg base 1 "_law_signs" (sp0 p_law_signs) [] := by
  obtain ⟨fd, F⟩ := T.d_law_signs
  refine ⟨_, fd, [], _, FunD.ok F sc_law_signs len0 (fun cdv A outer s H vs Q E hr h => ?_), T.g_law_signs, F.kp, FunD.bindsN F (fun _ _ _ _ _ _ us hl => match us, hl with | [], _ => rfl), .nil⟩
  refine ⟨_, (pss_cons (ps_set (i := 0) sc_law_signs.nd rfl (by first | exact Or.inl rfl | exact Or.inr rfl) pe_str)
      (pss_one (ps_ret (pe_op (op_plusK (K := K)) (pv 0) pe_str)))), ?_⟩
  obtain ⟨rfl, hQ⟩ := h
  refine entry (σ0 := [none]) rfl ?_
  try dsimp only [cxOf]
  walk_at "s"
  exact hQ _ (by decide +kernel) (okS_app (okS_ofString _) (okS_ofString _))

/-! law_spoilt -/
def p_law_spoilt : P3 := fun a b c H Q _ => ∃ (p : Addr) (z : Str) (way : Int) (k : Nat), a = .ref p ∧ b = .str z ∧ c = .int way ∧ z.length ≤ 200 ∧ okS z ∧ BoxAt (k + 10) H p ∧ ∀ y H', y.length ≤ 401 → okS y → BoxAt k H' p → Chg p H H' → Q (.str y) H'
theorem sc_law_spoilt : FnScope ["box", "text", "way", "at", "sign"] ["box", "text", "way"] (defScope s_law_spoilt) := ⟨rfl, rfl, rfl, by decide +kernel, rfl, by decide +kernel, by decide +kernel⟩
theorem c_law_spoilt (T : Txt K mg) : CalX P w K mg base 2 "_law_spoilt" (sp3 p_law_spoilt) [] := by
  obtain ⟨fd, F⟩ := T.d_law_spoilt
  refine ⟨_, fd, ["box", "text", "way"], _, FunD.ok F sc_law_spoilt len3 (fun cdv A outer s H vs Q E hr h => ?_), T.g_law_spoilt, F.kp, FunD.bindsN F (fun _ _ _ _ _ _ us hl => match us, hl with | [_, _, _], _ => rfl), .nil⟩
  refine ⟨_, (pss_cons (ps_set (i := 3) sc_law_spoilt.nd rfl (by first | exact Or.inl rfl | exact Or.inr rfl) (pe_ix (ix_seqK (K := K)) (pe_lst (pa_cons pe_int (pa_cons (pe_callB (call_lenK (K := K)) (by rfl) T.n_len (by decide +kernel) (pa_cons (pv 1) pa_nil)) (pa_cons (pe_x (c_law_take T) hr (by decide) passL (pa_cons (pv 0) (pa_cons (pe_op (op_plusK (K := K)) (pe_callB (call_lenK (K := K)) (by rfl) T.n_len (by decide +kernel) (pa_cons (pv 1) pa_nil)) pe_int) pa_nil))) pa_nil)))) (pe_x (c_law_take T) hr (by decide) passL (pa_cons (pv 0) (pa_cons pe_int pa_nil))) (fun _ _ => rfl)))
      (pss_cons (ps_set (i := 4) sc_law_spoilt.nd rfl (by first | exact Or.inl rfl | exact Or.inr rfl) (pe_ix (ix_seqK (K := K)) (pe_lst (pa_cons (pe_ix (ix_seqK (K := K)) (pe_x0 (c_law_signs T) hr (by decide) passL) (pe_x (c_law_take T) hr (by decide) passL (pa_cons (pv 0) (pa_cons pe_int pa_nil))) (fun _ _ => rfl)) (pa_cons pe_str (pa_cons pe_str (pa_cons pe_str pa_nil))))) (pe_x (c_law_take T) hr (by decide) passL (pa_cons (pv 0) (pa_cons pe_int pa_nil))) (fun _ _ => rfl)))
      (pss_cons (ps_if (pt_cmpR (op_eqGK (K := K) (hu64 hr)) (pv 2) pe_int (nomark _)) (pss_one (ps_ret (pe_op (op_plusK (K := K)) (pe_op (op_plusK (K := K)) (pe_slice (sl_anyK (K := K)) (pv 1) po_none (po_some (pv 3))) (pv 4)) (pe_slice (sl_anyK (K := K)) (pv 1) (po_some (pv 3)) po_none)))) pss_nil)
      (pss_cons (ps_if (pt_cmpR (op_eqGK (K := K) (hu64 hr)) (pv 2) pe_int (nomark _)) (pss_one (ps_ret (pe_op (op_plusK (K := K)) (pe_slice (sl_anyK (K := K)) (pv 1) po_none (po_some (pv 3))) (pe_slice (sl_anyK (K := K)) (pv 1) (po_some (pe_op (op_plusK (K := K)) (pv 3) pe_int)) po_none)))) pss_nil)
      (pss_cons (ps_if (pt_cmpR (op_eqGK (K := K) (hu64 hr)) (pv 2) pe_int (nomark _)) (pss_one (ps_ret (pe_op (op_plusK (K := K)) (pe_op (op_plusK (K := K)) (pe_slice (sl_anyK (K := K)) (pv 1) po_none (po_some (pv 3))) (pv 4)) (pe_slice (sl_anyK (K := K)) (pv 1) (po_some (pe_op (op_plusK (K := K)) (pv 3) pe_int)) po_none)))) pss_nil)
      (pss_one (ps_ret (pv 1)))))))), ?_⟩
  obtain ⟨_, _, _, rfl, p, z, way, k, rfl, rfl, rfl, hz, kz, bx, hQ⟩ := h
  refine entry (σ0 := [some _, some _, some _, none, none]) rfl ?_
  try dsimp only [cxOf]
  have hz2 : z.length ≤ 1000000 := by omega
  walk_at "s"
  refine take_use (k := k + 9) (bx.le (by omega)) (by omega) (by omega) fun n H1 n0 n1 bx1 ch1 => ?_
  walk_at "s"
  intro q1 H2 hq1 s2 e1
  walk_at "s"
  refine take_use (k := k + 8) ((bx1.same s2).le (by omega)) (by omega) (by omega) fun d H3 d0 d1 bx3 ch3 => ?_
  obtain ⟨at_, eat⟩ : ∃ at_ : Int, atI [V.int 0, V.int (z.length : Int), V.int n] d = some (.int at_) := by
    rcases (by omega : d = 0 ∨ d = 1 ∨ d = 2) with rfl | rfl | rfl
    · exact ⟨_, rfl⟩
    · exact ⟨_, rfl⟩
    · exact ⟨_, rfl⟩
  refine x_ixL (ch3.at (bx1.ne hq1) e1) eat ?_
  walk_at "s"
  intro zs hzs kzs
  walk_at "s"
  refine take_use (k := k + 7) (bx3.le (by omega)) (by omega) (by omega) fun m H4 m0 m1 bx4 ch4 => ?_
  refine x_ixSr m0 (by omega) (by omega) fun c hc => ?_
  have kc : okS (one c) := okS_one (kzs c (List.mem_of_getElem? hc))
  walk_at "s"
  intro q2 H5 hq2 s5 e2
  walk_at "s"
  refine take_use (k := k + 6) ((bx4.same s5).le (by omega)) (by omega) (by omega) fun d4 H6 d40 d41 bx6 ch6 => ?_
  obtain ⟨sg, esg, lsg, ksg⟩ : ∃ sg : Str, atI [V.str (one c), V.str (Str.ofString " "), V.str (Str.ofString "0"), V.str (Str.ofString "-")] d4 = some (.str sg) ∧ sg.length ≤ 1 ∧ okS sg := by
    rcases (by omega : d4 = 0 ∨ d4 = 1 ∨ d4 = 2 ∨ d4 = 3) with rfl | rfl | rfl | rfl
    · exact ⟨one c, rfl, Nat.le_refl 1, kc⟩
    · exact ⟨_, rfl, by decide +kernel, okS_ofString _⟩
    · exact ⟨_, rfl, by decide +kernel, okS_ofString _⟩
    · exact ⟨_, rfl, by decide +kernel, okS_ofString _⟩
  refine x_ixL (ch6.at (bx4.ne hq2) e2) esg ?_
  have cc : Chg p H H6 := ((((ch1.trans (Chg.of s2)).trans ch3).trans ch4).trans (Chg.of s5)).trans ch6
  have bb : BoxAt k H6 p := bx6.le (by omega)
  have q1' : ∀ lo hi, (cutS z lo hi).length ≤ 200 := fun lo hi => cut_le hz
  have q3 : ∀ lo, (cutS z none lo ++ sg).length ≤ 201 := fun lo => app_le (q1' none lo) lsg (by decide)
  have q4 : ∀ lo, (cutS z none lo ++ sg).length ≤ 1000000 := fun lo => Nat.le_trans (q3 lo) (by decide)
  have q5 : ∀ lo hi, (cutS z lo hi).length ≤ 1000000 := fun lo hi => Nat.le_trans (q1' lo hi) (by decide)
  have q6 : sg.length ≤ 1000000 := by omega
  walk_at "s"
  refine x_dec (fun _ => ?_) fun _ => ?_
  · walk_at "s"
    exact x_plusZ (q4 _) (q5 _ _) (hQ _ _ (app_le (q3 _) (q1' _ _) (by decide)) (okS_app (okS_app (okS_cut kz) ksg) (okS_cut kz)) bb cc)
  · walk_at "s"
    refine x_dec (fun _ => ?_) fun _ => ?_
    · walk_at "s"
      exact hQ _ _ (app_le (q1' _ _) (q1' _ _) (by decide)) (okS_app (okS_cut kz) (okS_cut kz)) bb cc
    · walk_at "s"
      refine x_dec (fun _ => ?_) fun _ => ?_
      · walk_at "s"
        exact x_plusZ (q4 _) (q5 _ _) (hQ _ _ (app_le (q3 _) (q1' _ _) (by decide)) (okS_app (okS_app (okS_cut kz) ksg) (okS_cut kz)) bb cc)
      · walk_at "s"
        exact hQ _ _ (by omega) kz bb cc

/-! law_figures -/
def p_law_figures : P1 := fun a H Q _ => ∃ (p : Addr) (k : Nat), a = .ref p ∧ BoxAt (k + 70) H p ∧ ∀ y H', y.length ≤ 100 → okS y → BoxAt k H' p → Chg p H H' → Q (.str y) H'
theorem sc_law_figures : FnScope ["box", "way", "size", "found", "k"] ["box"] (defScope s_law_figures) := ⟨rfl, rfl, rfl, by decide +kernel, rfl, by decide +kernel, by decide +kernel⟩
theorem c_law_figures (T : Txt K mg) : CalX P w K mg base 2 "_law_figures" (sp1 p_law_figures) [] := by
  obtain ⟨fd, F⟩ := T.d_law_figures
  refine ⟨_, fd, ["box"], _, FunD.ok F sc_law_figures len1 (fun cdv A outer s H vs Q E hr h => ?_), T.g_law_figures, F.kp, FunD.bindsN F (fun _ _ _ _ _ _ us hl => match us, hl with | [_], _ => rfl), .nil⟩
  refine ⟨_, (pss_cons (ps_set (i := 1) sc_law_figures.nd rfl (by first | exact Or.inl rfl | exact Or.inr rfl) (pe_x (c_law_take T) hr (by decide) passL (pa_cons (pv 0) (pa_cons pe_int pa_nil))))
      (pss_cons (ps_set (i := 2) sc_law_figures.nd rfl (by first | exact Or.inl rfl | exact Or.inr rfl) (pe_ix (ix_seqK (K := K)) (pe_lst (pa_cons (pe_x (c_law_take T) hr (by decide) passL (pa_cons (pv 0) (pa_cons pe_int pa_nil))) (pa_cons (pe_x (c_law_take T) hr (by decide) passL (pa_cons (pv 0) (pa_cons pe_int pa_nil))) (pa_cons (pe_op (op_plusK (K := K)) pe_int (pe_x (c_law_take T) hr (by decide) passL (pa_cons (pv 0) (pa_cons pe_int pa_nil)))) pa_nil)))) (pv 1) (fun _ _ => rfl)))
      (pss_cons (ps_set (i := 3) sc_law_figures.nd rfl (by first | exact Or.inl rfl | exact Or.inr rfl) (pe_joinK (K := K) pe_str (pe_lc (own := [("k", 4)]) rfl sc_law_figures.nd (pi_range1 (by rfl) T.n_range (pa_cons (pv 2) pa_nil)) (blkOk_by (own := [("k", 4)]) (N := ["box", "way", "size", "found", "k"]) (sc := defScope s_law_figures) (by decide +kernel)) (fun _ _ _ _ _ => (pg_name (i := 4) sc_law_figures.nd rfl (by first | exact Or.inl rfl | exact Or.inr rfl))) (fun _ _ _ _ _ => pts_nil) (fun _ _ _ _ _ => (pe_ix (ix_seqK (K := K)) pe_str (pe_x (c_law_take T) hr (by decide) passL (pa_cons (pv 0) (pa_cons pe_int pa_nil))) (fun _ _ => rfl))))))
      (pss_one (ps_ret (pe_ifExp (pt_cmpR op_gt (pe_x (c_law_take T) hr (by decide) passL (pa_cons (pv 0) (pa_cons pe_int pa_nil))) pe_int (nomark _)) (pv 3) (pe_op (op_plusK (K := K)) pe_str (pe_slice (sl_anyK (K := K)) (pv 3) po_none (po_some pe_int))))))))), ?_⟩
  obtain ⟨_, rfl, p, k, rfl, bx, hQ⟩ := h
  refine entry (σ0 := [some _, none, none, none, none]) rfl ?_
  try dsimp only [cxOf]
  walk_at "s"
  refine take_use (k := k + 69) (bx.le (by omega)) (by omega) (by omega) fun way H1 w0 w1 bx1 ch1 => ?_
  walk_at "s"
  refine take_use (k := k + 68) (bx1.le (by omega)) (by omega) (by omega) fun n1 H2 n10 n11 bx2 ch2 => ?_
  walk_at "s"
  refine take_use (k := k + 67) (bx2.le (by omega)) (by omega) (by omega) fun n2 H3 n20 n21 bx3 ch3 => ?_
  walk_at "s"
  refine take_use (k := k + 66) (bx3.le (by omega)) (by omega) (by omega) fun n3 H4 n30 n31 bx4 ch4 => ?_
  walk_at "s"
  intro q1 H5 hq1 s5 e1
  have b5 := bx4.same s5
  walk_at "s"
  obtain ⟨sz, esz, sz0, sz1⟩ : ∃ sz : Int, atI [V.int n1, V.int n2, V.int (58 + n3)] way = some (.int sz) ∧ 0 ≤ sz ∧ sz ≤ 62 := by
    rcases (by omega : way = 0 ∨ way = 1 ∨ way = 2) with rfl | rfl | rfl
    · exact ⟨_, rfl, by omega, by omega⟩
    · exact ⟨_, rfl, by omega, by omega⟩
    · exact ⟨_, rfl, by omega, by omega⟩
  refine x_ixL e1 esz ?_
  walk_at "s"
  intro d hd
  refine ⟨fun i H' => ∃ cs : List Nat, cs.length = i ∧ okS ⟨cs.toArray⟩ ∧ H' d = some (.lst ((cs.map one).map V.str)) ∧ BoxAt (k + 66 - i) H' p ∧ Chg p H5 H', ⟨[], rfl, okS_cs (by simp), upd_same, b5.upd hd, Chg.of (same_new hd)⟩, ?_, ?_⟩
  · rintro i H' hi ⟨cs, el, oz, ed, b3, c3⟩
    walk_at "s"
    refine take_use (k := k + 66 - (i + 1)) (b3.le (by omega)) (by omega) (by omega) fun d2 H4 e0 e1 b4 c4 => ?_
    refine x_ixSr e0 e1 (by decide +kernel) fun c hc => ?_
    refine ⟨_, c4.at (b5.ne hd) ed, ?_, cs ++ [c], ?_, ?_, ?_, ?_, ?_⟩
    · rw [List.length_map, List.length_map, el]
      exact Nat.lt_of_lt_of_le (by omega : i < 1000) (by decide)
    · rw [List.length_append, el]; rfl
    · rw [← str_app]
      exact okS_app oz (okS_one (okS_ofString _ c (List.mem_of_getElem? hc)))
    · rw [upd_same, List.map_append, List.map_append]; rfl
    · exact (b4.upd_of (b5.ne hd)).le (by omega)
    · exact (c3.trans c4).updN hd
  · rintro H' ⟨cs, el, oz, ed, b3, c3⟩
    walk_at "s"
    refine x_joinCs ed (by omega) ?_
    obtain ⟨z, ez, hz, kz⟩ : ∃ z : Str, z = ⟨cs.toArray⟩ ∧ z.length ≤ 62 ∧ okS z := ⟨_, rfl, by rw [len_cs]; omega, oz⟩
    rw [← ez]
    have hz2 : z.length ≤ 1000000 := by omega
    have c5 : Chg p H H5 := (((ch1.trans ch2).trans ch3).trans ch4).trans (Chg.of s5)
    walk_at "s"
    refine take_use (k := k + 3) (b3.le (by omega)) (by omega) (by omega) fun at_ H6 a0 a1 b6 c6 => ?_
    have cc := (c5.trans c3).trans c6
    have bb : BoxAt k H6 p := b6.le (by omega)
    walk_at "s"
    refine x_dec (fun _ => ?_) fun _ => ?_
    · walk_at "s"
      exact hQ _ _ (by omega) kz bb cc
    · walk_at "s"
      exact hQ _ _ (app_le (m := 1) (n := 62) (by decide +kernel) (cut_le hz) (by decide)) (okS_app (okS_ofString _) (okS_cut kz)) bb cc

/-! law_row -/
def p_law_row : P1 := fun a H Q _ => ∃ (p : Addr) (k : Nat), a = .ref p ∧ BoxAt (k + 60) H p ∧ ∀ y H', y.length ≤ 100 → okS y → BoxAt k H' p → Chg p H H' → Q (.str y) H'
theorem sc_law_row : FnScope ["box", "signs", "found", "k", "turn"] ["box"] (defScope s_law_row) := ⟨rfl, rfl, rfl, by decide +kernel, rfl, by decide +kernel, by decide +kernel⟩
theorem c_law_row (T : Txt K mg) : CalX P w K mg base 2 "_law_row" (sp1 p_law_row) [] := by
  obtain ⟨fd, F⟩ := T.d_law_row
  refine ⟨_, fd, ["box"], _, FunD.ok F sc_law_row len1 (fun cdv A outer s H vs Q E hr h => ?_), T.g_law_row, F.kp, FunD.bindsN F (fun _ _ _ _ _ _ us hl => match us, hl with | [_], _ => rfl), .nil⟩
  refine ⟨_, (pss_cons (ps_set (i := 1) sc_law_row.nd rfl (by first | exact Or.inl rfl | exact Or.inr rfl) (pe_slice (sl_anyK (K := K)) (pe_x0 (c_law_signs T) hr (by decide) passL) (po_some pe_int) (po_some pe_int)))
      (pss_cons (ps_set (i := 2) sc_law_row.nd rfl (by first | exact Or.inl rfl | exact Or.inr rfl) (pe_lst pa_nil))
      (pss_cons (ps_for (passes_of rfl) rfl (pi_range1 (by rfl) T.n_range (pa_cons (pe_x (c_law_take T) hr (by decide) passL (pa_cons (pv 0) (pa_cons pe_int pa_nil))) pa_nil)) (pg_name (i := 3) sc_law_row.nd rfl (by first | exact Or.inl rfl | exact Or.inr rfl))
      (pss_one (ps_expr (pe_bm PySem.F.plainAttrs_list PySem.F.slot_list_append PySem.F.type_list_append mt_append (pv 2) (pa_cons (pe_joinK (K := K) pe_str (pe_lc (own := [("turn", 4)]) rfl sc_law_row.nd (pi_range1 (by rfl) T.n_range (pa_cons (pe_op (op_plusK (K := K)) pe_int (pe_x (c_law_take T) hr (by decide) passL (pa_cons (pv 0) (pa_cons pe_int pa_nil)))) pa_nil)) (blkOk_by (own := [("turn", 4)]) (N := ["box", "signs", "found", "k", "turn"]) (sc := defScope s_law_row) (by decide +kernel)) (fun _ _ _ _ _ => (pg_name (i := 4) sc_law_row.nd rfl (by first | exact Or.inl rfl | exact Or.inr rfl))) (fun _ _ _ _ _ => pts_nil) (fun _ _ _ _ _ => (pe_ix (ix_seqK (K := K)) (pv 1) (pe_x (c_law_take T) hr (by decide) passL (pa_cons (pv 0) (pa_cons pe_int pa_nil))) (fun _ _ => rfl))))) pa_nil)))))
      (pss_one (ps_ret (pe_joinK (K := K) pe_str (pv 2))))))), ?_⟩
  obtain ⟨_, rfl, p, k, rfl, bx, hQ⟩ := h
  refine entry (σ0 := [some _, none, none, none, none]) rfl ?_
  try dsimp only [cxOf]
  walk_at "s"
  intro zs hzs kzs
  walk_at "s"
  have lsg : (cutS zs (some 1) (some 94)).length = 93 := by
    unfold cutS
    rw [hzs]
    show (((zs.cps.toList.drop 1).take 93).toArray).size = 93
    rw [List.size_toArray, List.length_take, List.length_drop, ← len_def, hzs]
    decide
  have ksg : okS (cutS zs (some 1) (some 94)) := okS_cut kzs
  generalize cutS zs (some 1) (some 94) = sg at lsg ksg
  intro f H1 hf s1 ef
  walk_at "s"
  refine take_use (k := k + 59) ((bx.same s1).le (by omega)) (by omega) (by omega) fun n H2 n0 n1 bx2 ch2 => ?_
  have nf : f ≠ p := bx.ne hf
  walk_at "s"
  refine ⟨fun i σ' H' => ∃ (ws : List (List Nat)) (a b : Option V), σ' = [some (.ref p), some (.str sg), some (.ref f), a, b] ∧ ws.length = i ∧ (∀ w ∈ ws, w.length ≤ 5 ∧ okS (SX.S w)) ∧ H' f = some (.lst ((ws.map SX.S).map V.str)) ∧
    BoxAt (k + 59 - 7 * i) H' p ∧ Chg p H H', ⟨[], _, _, rfl, rfl, by simp, ch2.at nf ef, bx2, (Chg.of s1).trans ch2⟩, ?_, ?_⟩
  · rintro i σ' H' hi ⟨ws, a, b, rfl, el, ow, ew, bw, cw⟩
    walk_at "s"
    refine take_use (k := k + 58 - 7 * i) (bw.le (by omega)) (by omega) (by omega) fun d H3 d0 d1 bx3 ch3 => ?_
    walk_at "s"
    refine lcR_draw (k := k + 58 - 7 * i - (1 + d).toNat) (σ2 := fun l => [some (.ref p), some (.str sg), some (.ref f), some (.int (0 + (i : Int))), some (.int (0 + (l : Int)))]) (i := 1) (j := 0) 93 (by rw [lsg]; rfl) (by omega) (by omega) ksg (bx3.le (by omega)) (by omega)
      (fun _ _ _ h => h) (fun _ => rfl) rfl (fun _ => rfl) (fun _ => rfl) fun dd H4 cs hdd lcs ocs edd b4 c4 => ?_
    walk_at "s"
    refine x_joinCs edd (by omega) ?_
    have e4 := c4.at nf (ch3.at nf ew)
    have wz : ((ws.map SX.S).map V.str).length ≤ 1000000 := by
      rw [List.length_map, List.length_map, el]
      omega
    walk_at "s"
    intro H5 c5 e5
    refine ⟨ws ++ [cs], _, _, rfl, by rw [List.length_append, el]; rfl, ?_, ?_, ?_, ?_⟩
    · intro w hw
      rcases List.mem_append.mp hw with hw | hw
      · exact ow w hw
      · rw [List.mem_singleton.mp hw]
        exact ⟨by omega, ocs⟩
    · rw [e5, List.map_append, List.map_append]
      rfl
    · exact (b4.chg c5 nf).le (by omega)
    · exact Chg.fresh ((cw.trans ch3).trans c4) hf c5
  · rintro σ' H' ⟨ws, a, b, rfl, el, ow, ew, bw, cw⟩
    walk_at "s"
    refine x_joinSs 5 ew (fun y hy => (ow y hy).1) (by
      have e : (Str.ofString " ").length = 1 := by decide +kernel
      rw [e, el]; omega) ?_
    have e : (Str.ofString " ").cps.toList = [32] := by decide +kernel
    rw [e]
    refine hQ _ _ ?_ ?_ (bw.le (by omega)) cw
    · rw [SX.S_len]
      have := len_joinL [32] 5 ws fun y hy => (ow y hy).1
      rw [el] at this
      have e2 : ([32] : List Nat).length = 1 := rfl
      rw [e2] at this
      omega
    · refine okS_cs fun c hc => ?_
      rcases mem_joinL [32] c ws hc with h | ⟨w, hw, h⟩
      · rw [List.mem_singleton.mp h]; decide
      · exact (ow w hw).2 c h

/-! law_number_due -/
theorem digitsVal_snoc (cs : List Nat) (c : Nat) : NumText.digitsVal (cs ++ [c]) = NumText.digitsVal cs * 10 + (c - 48) := by
  unfold NumText.digitsVal
  rw [List.foldl_append]
  rfl
theorem sc_law_number_due : FnScope ["thing", "number", "sign", "at"] ["thing"] (defScope s_law_number_due) := ⟨rfl, rfl, rfl, by decide +kernel, rfl, by decide +kernel, by decide +kernel⟩
theorem c_law_number_due (T : Txt K mg) : CalX P w K mg base 1 "_law_number_due" (sp1 (p_number_of K)) [] := by
  obtain ⟨fd, F⟩ := T.d_law_number_due
  refine ⟨_, fd, ["thing"], _, FunD.ok F sc_law_number_due len1 (fun cdv A outer s H vs Q E hr h => ?_), T.g_law_number_due, F.kp, FunD.bindsN F (fun _ _ _ _ _ _ us hl => match us, hl with | [_], _ => rfl), .nil⟩
  refine ⟨_, (pss_cons (ps_if (PW.pt (pw_or (pt_not (pt_val (pe_callB (call_isiXK (K := K)) (by rfl) T.n_isinstance (by decide +kernel) (pa_cons (pv 0) (pa_cons (pe_bltn (v := .ty "str") (by rfl) T.n_str (by decide +kernel) rfl) pa_nil))))) (pw_or (pt_cmpR (op_eqGK (K := K) (hu64 hr)) (pe_callB (call_lenK (K := K)) (by rfl) T.n_len (by decide +kernel) (pa_cons (pv 0) pa_nil)) pe_int (nomark _)) (pw_or1 (pt_cmpR op_gt (pe_callB (call_lenK (K := K)) (by rfl) T.n_len (by decide +kernel) (pa_cons (pv 0) pa_nil)) pe_int (nomark _)))))) (pss_one (ps_ret pe_non)) pss_nil)
      (C8.pss_cut (ps_if (PW.pt (pw_and (pt_cmpR (op_eqGK (K := K) (hu64 hr)) (pe_ix (ix_seqK (K := K)) (pv 0) pe_int (fun _ _ => rfl)) pe_str (nomark _)) (pw_and1 (pt_cmpR op_gt (pe_callB (call_lenK (K := K)) (by rfl) T.n_len (by decide +kernel) (pa_cons (pv 0) pa_nil)) pe_int (nomark _))))) (pss_one (ps_ret pe_non)) pss_nil)
      (pss_cons (ps_set (i := 1) sc_law_number_due.nd rfl (by first | exact Or.inl rfl | exact Or.inr rfl) pe_int)
      (pss_cons (ps_for (passes_of rfl) rfl (pi_str (pv 0)) (pg_name (i := 2) sc_law_number_due.nd rfl (by first | exact Or.inl rfl | exact Or.inr rfl))
      (pss_cons (ps_set (i := 3) sc_law_number_due.nd rfl (by first | exact Or.inl rfl | exact Or.inr rfl) (pe_m1 PySem.F.slot_str_find PySem.F.type_str_find mt_findX pe_str (pv 2)))
      (pss_cons (ps_if (pt_cmpR op_lt (pv 3) pe_int (nomark _)) (pss_one (ps_ret pe_non)) pss_nil)
      (pss_one (ps_set (i := 1) sc_law_number_due.nd rfl (by first | exact Or.inl rfl | exact Or.inr rfl) (pe_op (op_plusK (K := K)) (pe_op op_mulX pe_int (pv 1)) (pv 3)))))))
      (pss_one (ps_ret (pv 1))))))), ?_⟩
  obtain ⟨v, rfl, th, hQ⟩ := h
  refine entry (σ0 := [some _, none, none, none]) rfl ?_
  try dsimp only [cxOf]
  walk_at "s"
  have no : ∀ {v : V}, numV v = .non → (∀ H', Same H H' → Q (numV v) H') → Q .non H := fun {v} e q => e ▸ q H fun _ _ h => h
  rcases th with ⟨n, rfl⟩ | ⟨z, rfl, hz, kz⟩ | ⟨b, rfl⟩ | rfl | ⟨p, rfl, o⟩
  · walk_at "s"
    exact no rfl hQ
  · have hz2 : z.length ≤ 1000000 := by omega
    walk_at "s"
    have off : numOk z.cps.toList = false → numV (.str z) = .non := fun h => by
      show (if numOk z.cps.toList = true then _ else _) = _
      rw [if_neg (by rw [h]; exact Bool.false_ne_true)]
    have hl : z.length = z.cps.toList.length := len_def z
    refine x_dec (fun c1 => ?_) fun c1 => ?_
    · walk_at "s"
      refine no (off ?_) hQ
      unfold numOk
      rw [decide_eq_false (p := 1 ≤ z.cps.toList.length) (by omega), Bool.false_and]
    · walk_at "s"
      refine x_dec (fun c2 => ?_) fun c2 => ?_
      · walk_at "s"
        refine no (off ?_) hQ
        unfold numOk
        rw [decide_eq_false (p := z.cps.toList.length ≤ 60) (by omega), Bool.false_and, Bool.and_false]
      · walk_at "s"
        refine ⟨fun σ' H' => σ' = [some (.str z), none, none, none] ∧ Same H H' ∧ ¬ (z.cps.toList.head? = some 48 ∧ 1 < z.cps.toList.length), ?_, ?_⟩
        · walk_at "s"
          refine x_ixSr (by omega) (by omega) hz2 fun c hc => ?_
          walk_at "s"
          rw [lit_eq (k := 48) (by decide +kernel)]
          have hd0 : z.cps.toList.head? = some c := by rw [← hc]; cases z.cps.toList <;> rfl
          refine x_dec (fun h0 => ?_) fun h0 => ?_
          · walk_at "s"
            refine x_dec (fun h1 => ?_) fun h1 => ?_
            · walk_at "s"
              refine no (off ?_) hQ
              unfold numOk
              rw [hd0, h0, decide_eq_true (p := 1 < z.cps.toList.length) (by omega)]
              simp
            · walk_at "s"
              exact ⟨rfl, fun _ _ h => h, fun h => by omega⟩
          · walk_at "s"
            exact ⟨rfl, fun _ _ h => h, fun h => h0 (by rw [hd0] at h; exact Option.some.inj h.1)⟩
        · rintro σ' H0 ⟨rfl, s0, hh⟩
          walk_at "s"
          refine ⟨fun i σ' H' => Same H H' ∧ ∃ a b, σ' = [some (.str z), some (.int ((NumText.digitsVal (z.cps.toList.take i) : Nat) : Int)), a, b] ∧ (z.cps.toList.take i).all (fun c => decide (48 ≤ c) && decide (c ≤ 57)) = true, ⟨s0, _, _, rfl, rfl⟩, ?_, ?_⟩
          · rintro i c σ' H' hc ⟨s1, a, b, rfl, ha⟩
            walk_at "s"
            rw [find_figure]
            have htake : z.cps.toList.take (i + 1) = z.cps.toList.take i ++ [c] := by rw [List.take_add_one, hc]; rfl
            by_cases hcc : 48 ≤ c ∧ c ≤ 57
            · rw [if_pos hcc]
              refine x_dec (fun h => absurd h (by omega)) fun _ => ?_
              walk_at "s"
              refine ⟨s1, some (.str ⟨#[c]⟩), some (.int ((c : Int) - 48)), ?_, ?_⟩
              · rw [htake, digitsVal_snoc]
                have e : (10 : Int) * ((NumText.digitsVal (z.cps.toList.take i) : Nat) : Int) + ((c : Int) - 48) = (((NumText.digitsVal (z.cps.toList.take i) * 10 + (c - 48) : Nat)) : Int) := by omega
                rw [← e]
                rfl
              · rw [htake, List.all_append, ha]
                simp [hcc]
            · rw [if_neg hcc]
              refine x_dec (fun _ => ?_) fun h => absurd (by omega) h
              walk_at "s"
              have eq := hQ H' s1
              have : (z.cps.toList.all fun c => decide (48 ≤ c) && decide (c ≤ 57)) = false := by
                rw [List.all_eq_false]
                exact ⟨c, List.mem_of_getElem? hc, by simpa using hcc⟩
              rw [off (by unfold numOk; rw [this, Bool.false_and, Bool.and_false, Bool.and_false])] at eq
              exact eq
          · rintro σ' H' ⟨s1, a, b, rfl, ha⟩
            walk_at "s"
            rw [hl, List.take_length] at ha ⊢
            have e := hQ H' s1
            have ok : numOk z.cps.toList = true := by
              unfold numOk
              rw [decide_eq_true (by omega : 1 ≤ z.cps.toList.length), decide_eq_true (by omega : z.cps.toList.length ≤ 60), ha]
              simp only [Bool.true_and, Bool.not_eq_true', Bool.and_eq_false_iff, decide_eq_false_iff_not]
              exact Classical.not_and_iff_not_or_not.mp hh
            have e2 : numV (.str z) = .int ((NumText.digitsVal z.cps.toList : Nat) : Int) := if_pos ok
            rw [e2] at e
            exact e
  · walk_at "s"
    exact no rfl hQ
  · walk_at "s"
    exact no rfl hQ
  · refine x_odd o (by decide +kernel) ?_
    walk_at "s"
    exact no rfl hQ

/-! law_words_due -/
theorem foldW_ne (k : Nat) : ∀ (cs : List Nat) (ws : List (List Nat)), ws ≠ [] → cs.foldl (stepW k) ws ≠ []
  | [], _, h => h
  | c :: cs, ws, _ => foldW_ne k cs (stepW k ws c) (by unfold stepW; split <;> simp)
theorem foldW_len (k : Nat) : ∀ (cs : List Nat) (ws : List (List Nat)), (cs.foldl (stepW k) ws).length ≤ ws.length + cs.length
  | [], ws => by show ws.length ≤ _; omega
  | c :: cs, ws => by
    have h := foldW_len k cs (stepW k ws c)
    have h2 : (stepW k ws c).length ≤ ws.length + 1 := by unfold stepW; split <;> simp
    rw [List.foldl_cons, List.length_cons]
    omega
theorem foldW_sum (k : Nat) : ∀ (cs : List Nat) (ws : List (List Nat)), ((cs.foldl (stepW k) ws).map List.length).sum ≤ (ws.map List.length).sum + cs.length
  | [], ws => Nat.le_refl _
  | c :: cs, ws => by
    have h := foldW_sum k cs (stepW k ws c)
    have h2 : ((stepW k ws c).map List.length).sum ≤ (ws.map List.length).sum + 1 := by
      unfold stepW
      split
      · simp
      · by_cases h3 : ws = []
        · subst h3; simp
        · obtain ⟨us, l, rfl⟩ := snoc_of h3
          simp
          omega
    rw [List.foldl_cons, List.length_cons]
    omega
theorem foldW_mem (k : Nat) : ∀ (cs : List Nat) (ws : List (List Nat)) (P : Nat → Prop), (∀ l ∈ ws, ∀ c ∈ l, P c) → (∀ c ∈ cs, P c) → ∀ l ∈ cs.foldl (stepW k) ws, ∀ c ∈ l, P c
  | [], _, _, h, _ => h
  | d :: cs, ws, P, h, hc => by
    refine foldW_mem k cs (stepW k ws d) P ?_ fun c hm => hc c (List.mem_cons_of_mem _ hm)
    unfold stepW
    split
    · intro l hl
      rcases List.mem_append.mp hl with hl | hl
      · exact h l hl
      · rw [List.mem_singleton.mp hl]
        intro c hm
        cases hm
    · intro l hl
      rcases List.mem_append.mp hl with hl | hl
      · exact h l (List.dropLast_subset _ hl)
      · rw [List.mem_singleton.mp hl]
        intro c hm
        rcases List.mem_append.mp hm with hm | hm
        · cases hg : ws.getLast? with
          | none => rw [hg] at hm; cases hm
          | some y => rw [hg] at hm; exact h y (List.mem_of_getLast? hg) c hm
        · rw [List.mem_singleton.mp hm]
          exact hc d List.mem_cons_self
theorem len_le_sum : ∀ {ls : List (List Nat)} {l : List Nat}, l ∈ ls → l.length ≤ (ls.map List.length).sum
  | [], _, h => by cases h
  | m :: ls, l, h => by
    rw [List.map_cons, List.sum_cons]
    rcases List.mem_cons.mp h with rfl | h
    · omega
    · have := len_le_sum h
      omega
theorem sc_law_words_due : FnScope ["thing", "words", "sign", "word"] ["thing"] (defScope s_law_words_due) := ⟨rfl, rfl, rfl, by decide +kernel, rfl, by decide +kernel, by decide +kernel⟩
theorem c_law_words_due (T : Txt K mg) : CalX P w K mg base 1 "_law_words_due" (sp1 (p_words_of K)) [] := by
  obtain ⟨fd, F⟩ := T.d_law_words_due
  refine ⟨_, fd, ["thing"], _, FunD.ok F sc_law_words_due len1 (fun cdv A outer s H vs Q E hr h => ?_), T.g_law_words_due, F.kp, FunD.bindsN F (fun _ _ _ _ _ _ us hl => match us, hl with | [_], _ => rfl), .nil⟩
  refine ⟨_, (pss_cons (ps_if (pt_not (pt_val (pe_callB (call_isiXK (K := K)) (by rfl) T.n_isinstance (by decide +kernel) (pa_cons (pv 0) (pa_cons (pe_bltn (v := .ty "str") (by rfl) T.n_str (by decide +kernel) rfl) pa_nil))))) (pss_one (ps_ret pe_non)) pss_nil)
      (pss_cons (ps_set (i := 1) sc_law_words_due.nd rfl (by first | exact Or.inl rfl | exact Or.inr rfl) (pe_lst (pa_cons pe_str pa_nil)))
      (pss_cons (ps_for (passes_of rfl) rfl (pi_str (pv 0)) (pg_name (i := 2) sc_law_words_due.nd rfl (by first | exact Or.inl rfl | exact Or.inr rfl))
      (pss_cons (ps_if (pt_cmpR (op_eqGK (K := K) (hu64 hr)) (pv 2) pe_str (nomark _)) (pss_one (ps_ret pe_non)) pss_nil)
      (pss_one (ps_if (pt_cmpR (op_eqGK (K := K) (hu64 hr)) (pv 2) pe_str (nomark _)) (pss_one (ps_expr (pe_bm PySem.F.plainAttrs_list PySem.F.slot_list_append PySem.F.type_list_append mt_append (pv 1) (pa_cons pe_str pa_nil)))) (pss_one (ps_asg (pe_op (op_plusK (K := K)) (pe_ix (ix_seqK (K := K)) (pv 1) (pe_un un_neg pe_int) (fun _ _ => rfl)) (pv 2)) (pg_sub (pv 1) (pe_un un_neg pe_int) set_list)))))))
      (pss_one (ps_ret (pe_ifExp (pt_cmpR (op_eqGK (K := K) (hu64 hr)) (pe_lc (own := [("word", 3)]) rfl sc_law_words_due.nd (pi_list (pv 1)) (blkOk_by (own := [("word", 3)]) (N := ["thing", "words", "sign", "word"]) (sc := defScope s_law_words_due) (by decide +kernel)) (fun _ _ _ _ _ => (pg_name (i := 3) sc_law_words_due.nd rfl (by first | exact Or.inl rfl | exact Or.inr rfl))) (fun _ _ _ _ _ => (pts_one (pt_cmpR (op_eqGK (K := K) (hu64 hr)) (pe_callB (call_lenK (K := K)) (by rfl) T.n_len (by decide +kernel) (pa_cons (pv 3) pa_nil)) pe_int (nomark _)))) (fun _ _ _ _ _ => (pv 3))) (pe_lst pa_nil) (nomark _)) (pv 1) pe_non)))))), ?_⟩
  obtain ⟨v, rfl, th, hQ⟩ := h
  refine entry (σ0 := [some _, none, none, none]) rfl ?_
  try dsimp only [cxOf]
  walk_at "s"
  rcases th with ⟨n, rfl⟩ | ⟨z, rfl, hz, kz⟩ | ⟨b, rfl⟩ | rfl | ⟨p, rfl, o⟩
  · walk_at "s"
    exact wordsQ_none rfl hQ _ fun _ _ h => h
  · have hz2 : z.length ≤ 1000000 := by omega
    have hl : z.length = z.cps.toList.length := len_def z
    walk_at "s"
    intro w H1 hw s1 ew
    walk_at "s"
    refine ⟨fun i σ' H' => Same H H' ∧ 10 ∉ z.cps.toList.take i ∧ ∃ a b, σ' = [some (.str z), some (.ref w), a, b] ∧ H' w = some (.lst ((((z.cps.toList.take i).foldl (stepW 32) [[]]).map SX.S).map V.str)), ⟨s1, by simp, _, _, rfl, by rw [ew]; exact congrArg (fun x => some (HO.lst [V.str x])) (by decide +kernel)⟩, ?_, ?_⟩
    · rintro i c σ' H' hc ⟨s2, h10, a, b, rfl, e2⟩
      walk_at "s"
      rw [sign_eq (k := 10) (by decide +kernel)]
      have htake : z.cps.toList.take (i + 1) = z.cps.toList.take i ++ [c] := by rw [List.take_add_one, hc]; rfl
      have wz : ((((z.cps.toList.take i).foldl (stepW 32) [[]]).map SX.S).map V.str).length ≤ 1000000 := by
        rw [List.length_map, List.length_map]
        have := foldW_len 32 (z.cps.toList.take i) [[]]
        have h2 : (z.cps.toList.take i).length ≤ z.cps.toList.length := by rw [List.length_take]; exact Nat.min_le_right _ _
        have h3 : ([[]] : List (List Nat)).length = 1 := rfl
        omega
      refine x_dec (fun hh => ?_) fun hh => ?_
      · walk_at "s"
        refine wordsQ_none (if_pos ?_) hQ _ s2
        rw [← hh]
        exact List.mem_of_getElem? hc
      · walk_at "s"
        rw [sign_eq (k := 32) (by decide +kernel)]
        have h11 : 10 ∉ z.cps.toList.take (i + 1) := by
          rw [htake]
          intro h
          rcases List.mem_append.mp h with h | h
          · exact h10 h
          · exact hh (List.mem_singleton.mp h).symm
        refine x_dec (fun hs => ?_) fun hs => ?_
        · walk_at "s"
          intro H3 c3 e3
          subst hs
          refine ⟨stay s2 hw c3, h11, _, _, rfl, ?_⟩
          rw [e3, htake, List.foldl_append]
          show some (HO.lst _) = some (HO.lst (((stepW 32 _ 32).map SX.S).map V.str))
          rw [stepW_sep, List.map_append, List.map_append]
          exact congrArg (fun x => some (HO.lst (_ ++ [V.str x]))) (by decide +kernel)
        · obtain ⟨us, l, eus⟩ := snoc_of (foldW_ne 32 (z.cps.toList.take i) [[]] (by simp))
          rw [eus, List.map_append, List.map_append] at e2
          have e2 : H' w = some (HO.lst ((us.map SX.S).map V.str ++ [V.str (SX.S l)])) := e2
          have lz : (SX.S l).length ≤ 1000000 := by
            have h1 := foldW_sum 32 (z.cps.toList.take i) [[]]
            rw [eus] at h1
            simp only [List.map_append, List.sum_append, List.map_cons, List.map_nil, List.sum_cons, List.sum_nil, List.length_nil] at h1
            have h2 : (z.cps.toList.take i).length ≤ z.cps.toList.length := by rw [List.length_take]; exact Nat.min_le_right _ _
            rw [SX.S_len]
            omega
          walk_at "s"
          refine x_ixL e2 (atI_snoc _ _) ?_
          walk_at "s"
          refine x_setLZ e2 (ixN_snoc _ _) fun H3 c3 e3 => ?_
          refine ⟨stay s2 hw c3, h11, _, _, rfl, ?_⟩
          rw [e3, htake, List.foldl_append, eus, set_snoc]
          show some (HO.lst _) = some (HO.lst (((stepW 32 _ c).map SX.S).map V.str))
          rw [stepW_other hs, List.map_append, List.map_append, S_one, SX.S_cat]
          rfl
    · rintro σ' H' ⟨s2, h10, a, b, rfl, e2⟩
      rw [hl, List.take_length] at h10 e2
      walk_at "s"
      have wz : (((z.cps.toList.foldl (stepW 32) [[]]).map SX.S).map V.str).length ≤ 1000000 := by
        rw [List.length_map, List.length_map]
        have := foldW_len 32 z.cps.toList [[]]
        have h3 : ([[]] : List (List Nat)).length = 1 := rfl
        omega
      have sl : ∀ l ∈ z.cps.toList.foldl (stepW 32) [[]], l.length ≤ 1000000 := fun l hm => by
        have h1 := foldW_sum 32 z.cps.toList [[]]
        have h2 : l.length ≤ ((z.cps.toList.foldl (stepW 32) [[]]).map List.length).sum := len_le_sum hm
        have h3 : (([[]] : List (List Nat)).map List.length).sum = 0 := rfl
        omega
      refine x_lcKL (.inl (.inl e2)) (lcL_pure (fun x => [some (.str z), some (.ref w), a, some x]) id (fun x => match x with
        | .str y => decide ((y.length : Int) = 0)
        | _ => false) (.inl (.inl e2)) wz (fun _ _ _ _ h => h) (fun _ _ => rfl) (fun x H3 R hx s3 h => ?_) (fun x H3 R hx _ s3 h => ?_) fun d H3 hd s3 ed => ?_)
      · obtain ⟨y, hy, rfl⟩ := List.mem_map.mp hx
        obtain ⟨l, hl2, rfl⟩ := List.mem_map.mp hy
        have lz : (SX.S l).length ≤ 1000000 := by rw [SX.S_len]; exact sl l hl2
        walk_at "s"
        exact h
      · walk_at "s"
        exact h
      · rw [List.map_id, List.filter_map] at ed
        walk_at "s"
        intro q H4 hq s4 eq
        refine x_eqStrs (ws := []) (s4 _ _ ed) eq (fun y hy => ?_) (by simp) ?_
        · obtain ⟨l, hl2, rfl⟩ := List.mem_map.mp (List.mem_filter.mp hy).1
          exact okS_cs (foldW_mem 32 z.cps.toList [[]] _ (by simp) kz l hl2)
        · have s5 : Same H H4 := (s2.trans s3).trans s4
          have em : decide (List.filter ((fun x => match x with
              | V.str y => decide ((y.length : Int) = 0)
              | _ => false) ∘ V.str) ((z.cps.toList.foldl (stepW 32) [[]]).map SX.S) = []) = !decide ([] ∈ z.cps.toList.foldl (stepW 32) [[]]) := by
            rw [← decide_not]
            refine decide_eq_decide.mpr ?_
            rw [List.filter_eq_nil_iff]
            constructor
            · intro h hm
              exact h (SX.S []) (List.mem_map.mpr ⟨[], hm, rfl⟩) (by decide +kernel)
            · intro h y hy
              obtain ⟨l, hl2, rfl⟩ := List.mem_map.mp hy
              intro e
              have e2 : ((SX.S l).length : Int) = 0 := of_decide_eq_true e
              rw [SX.S_len] at e2
              have : l = [] := List.length_eq_zero_iff.mp (by omega)
              rw [this] at hl2
              exact h hl2
          rw [em]
          walk_at "s"
          refine x_decN (fun hm => ?_) fun hm => ?_
          · walk_at "s"
            exact wordsQ_some (by show (if _ then _ else if _ then _ else _) = _; rw [if_neg h10, if_neg hm]) hQ w _ hw s5 (s4 _ _ (s3 _ _ e2))
          · walk_at "s"
            exact wordsQ_none (by show (if _ then _ else if _ then _ else _) = _; rw [if_neg h10, if_pos hm]) hQ _ s5
  · walk_at "s"
    exact wordsQ_none rfl hQ _ fun _ _ h => h
  · walk_at "s"
    exact wordsQ_none rfl hQ _ fun _ _ h => h
  · refine x_odd o (by decide +kernel) ?_
    walk_at "s"
    exact wordsQ_none rfl hQ _ fun _ _ h => h

/-! law -/
theorem digits_lt : ∀ (cs : List Nat) (acc : Nat), NumText.AllDigits cs → cs.foldl (fun acc c => acc * 10 + (c - 48)) acc < (acc + 1) * 10 ^ cs.length
  | [], acc, _ => by simp
  | c :: cs, acc, h => by
    have h1 := digits_lt cs (acc * 10 + (c - 48)) h.tail
    have h2 := h.head
    rw [List.foldl_cons, List.length_cons]
    refine Nat.lt_of_lt_of_le h1 ?_
    rw [Nat.pow_succ, Nat.mul_comm (10 ^ cs.length) 10, ← Nat.mul_assoc]
    exact Nat.mul_le_mul_right _ (by omega)
def numD (v : V) : PyData := match v with
  | .str z => if numOk z.cps.toList = true then .int ((NumText.digitsVal z.cps.toList : Nat) : Int) else .none
  | _ => .none
def wordsD (o : Option (List (List Nat))) : PyData := match o with
  | none => .none
  | some ws => .list ((ws.map SX.S).map .str)
def WordsAt (o : Option (List (List Nat))) (H : Hp) (v : V) : Prop := match o with
  | none => v = .non
  | some ws => ∃ p, v = .ref p ∧ H p = some (.lst ((ws.map SX.S).map V.str))
theorem dp_num {K : PySem.W.Frag} {H : Hp} (v : V) : Dp K H (numV v) (numD v) := by
  cases v with
  | str z =>
    show Dp K H (if _ then _ else _) (if _ then _ else _)
    split
    · exact .int _
    · exact .non
  | _ => exact .non
theorem num_small {cs : List Nat} (h : numOk cs = true) : NumText.digitsVal cs < 10 ^ 60 := by
  unfold numOk at h
  simp only [Bool.and_eq_true, decide_eq_true_eq] at h
  obtain ⟨h1, h2, h3, _⟩ := h
  have hd : NumText.AllDigits cs := fun c hc => by
    have := List.all_eq_true.mp h3 c hc
    simpa using this
  have := digits_lt cs 0 hd
  refine Nat.lt_of_lt_of_le this ?_
  rw [Nat.zero_add, Nat.one_mul]
  exact Nat.pow_le_pow_right (by decide) h2
theorem num_shown (v : V) : (numD v).showable = true ∧ (numD v).hasDict = false ∧ (numD v).depth = 0 ∧ (numD v).shown.length ≤ 100 := by
  have no : PyData.none.showable = true ∧ PyData.none.hasDict = false ∧ PyData.none.depth = 0 ∧ PyData.none.shown.length ≤ 100 := by decide +kernel
  cases v with
  | str z =>
    show (if _ then _ else _ : PyData).showable = true ∧ (if _ then _ else _ : PyData).hasDict = false ∧ (if _ then _ else _ : PyData).depth = 0 ∧ (if _ then _ else _ : PyData).shown.length ≤ 100
    by_cases h : numOk z.cps.toList = true
    · rw [if_pos h]
      have hs := num_small h
      have hl : ((NumText.digitsVal z.cps.toList : Nat) : Int).natAbs.log2 < 1920 := by
        rw [Int.natAbs_natCast]
        exact Nat.lt_of_lt_of_le (log2_lt (b := 200) (Nat.lt_of_lt_of_le hs (by decide)) (by decide)) (by decide)
      refine ⟨by simp only [PyData.showable]; exact decide_eq_true hl, by simp only [PyData.hasDict], by simp only [PyData.depth], ?_⟩
      simp only [PyData.shown]
      exact Nat.le_trans (toString_length_le (by omega) (k := 60) (by decide) (by omega)) (by decide)
    · rw [if_neg h]
      exact no
  | _ => exact no
theorem words_shown {v : V} {K : PySem.W.Frag} {H : Hp} (t : Th K H v) : (wordsD (wordsO v)).showable = true ∧ (wordsD (wordsO v)).hasDict = false ∧ (wordsD (wordsO v)).depth ≤ 1 ∧ (wordsD (wordsO v)).shown.length ≤ 12000000 := by
  have no : (wordsD none).showable = true ∧ (wordsD none).hasDict = false ∧ (wordsD none).depth ≤ 1 ∧ (wordsD none).shown.length ≤ 12000000 := by decide +kernel
  rcases t with ⟨n, rfl⟩ | ⟨z, rfl, hz, kz⟩ | ⟨b, rfl⟩ | rfl | ⟨p, rfl, o⟩
  · exact no
  · cases e : wordsO (.str z) with
    | none => exact no
    | some ws =>
      have ew : ws = z.cps.toList.foldl (stepW 32) [[]] := by
        have e2 : (if 10 ∈ z.cps.toList then none else if [] ∈ z.cps.toList.foldl (stepW 32) [[]] then none else some (z.cps.toList.foldl (stepW 32) [[]])) = some ws := e
        split at e2
        · cases e2
        · split at e2
          · cases e2
          · exact (Option.some.inj e2).symm
      have hl : z.length = z.cps.toList.length := len_def z
      have w1 : ws.length ≤ 1001 := by
        have := foldW_len 32 z.cps.toList [[]]
        rw [← ew] at this
        have h3 : ([[]] : List (List Nat)).length = 1 := rfl
        omega
      have w2 : ∀ y ∈ ws.map SX.S, okS y ∧ y.length ≤ 1000 := fun y hy => by
        obtain ⟨l, hm, rfl⟩ := List.mem_map.mp hy
        rw [ew] at hm
        refine ⟨okS_cs (foldW_mem 32 z.cps.toList [[]] _ (by simp) kz l hm), ?_⟩
        have h1 := foldW_sum 32 z.cps.toList [[]]
        have h2 := len_le_sum hm
        have h3 : (([[]] : List (List Nat)).map List.length).sum = 0 := rfl
        rw [SX.S_len]
        omega
      have s1 := shown_strs_le w2
      show (PyData.list _).showable = true ∧ (PyData.list _).hasDict = false ∧ (PyData.list _).depth ≤ 1 ∧ (PyData.list _).shown.length ≤ 12000000
      simp only [PyData.showable, PyData.hasDict, PyData.depth, PyData.shown, showable_strs, nodict_strs, depth_strs]
      refine ⟨trivial, trivial, by omega, Nat.le_trans (listText_le _) ?_⟩
      rw [List.length_map] at s1
      have s2 : ws.length * (10 * 1000 + 4) ≤ 1001 * (10 * 1000 + 4) := Nat.mul_le_mul_right _ w1
      omega
  · exact no
  · exact no
  · exact no
theorem dp_words {K : PySem.W.Frag} {H : Hp} {o : Option (List (List Nat))} {v : V} (h : WordsAt o H v) : Dp K H v (wordsD o) := by
  cases o with
  | none =>
    have e : v = .non := h
    subst e
    exact .non
  | some ws =>
    obtain ⟨p, rfl, e⟩ := (show ∃ p, v = .ref p ∧ H p = some (.lst ((ws.map SX.S).map V.str)) from h)
    exact .lst (.inl (.inl e)) dp_strs
theorem repr_found {K : PySem.W.Frag} {H G : Hp} {Q : VK} {q : Addr} {v w : V} (t : Th K G v) (hw : WordsAt (wordsO v) H w) (e : H q = some (.lst [numV v, w])) (h : Q (.str (PyData.shown (.list [numD v, wordsD (wordsO v)]))) H) : rRepr K [.ref q] H Q := by
  obtain ⟨n1, n2, n3, n4⟩ := num_shown v
  obtain ⟨w1, w2, w3, w4⟩ := words_shown t
  refine x_reprD (d := .list [numD v, wordsD (wordsO v)]) (.lst (.inl (.inl e)) (.cons (dp_num v) (.cons (dp_words hw) .nil))) ?_ ?_ ?_ ?_ h
  · simp only [PyData.showable, PyData.showableAll, n1, w1, Bool.and_self]
  · simp only [PyData.hasDict, PyData.hasDictAll, n2, w2, Bool.or_self]
  · simp only [PyData.depth, PyData.depthAll, n3]
    omega
  · simp only [PyData.shown, PyData.shownAll]
    refine Nat.le_trans (listText_le _) ?_
    simp only [List.map_cons, List.map_nil, List.sum_cons, List.sum_nil]
    rw [sizeLine_eq]
    omega
/-- words_of's way, once for both ends -/
theorem words_use {H : Hp} {Q : VK} {o : Option (List (List Nat))} (h : ∀ w H', WordsAt o H' w → Same H H' → (w = .non ∨ ∃ p, w = .ref p ∧ H p = none ∧ ∃ xs, H' p = some (.lst xs) ∧ xs.length ≤ 2000) → Q w H') (hz : ∀ ws, o = some ws → ws.length ≤ 2000) : WordsQ o H Q := by
  cases o with
  | none => exact fun H' s => h .non H' rfl s (.inl rfl)
  | some ws => exact fun p H' hp s e => h (.ref p) H' ⟨p, rfl, e⟩ s (.inr ⟨p, rfl, hp, _, e, by rw [List.length_map, List.length_map]; exact hz ws rfl⟩)
theorem WordsAt.keep {o : Option (List (List Nat))} {H H' : Hp} {v : V} (h : WordsAt o H v) (s : Same H H') : WordsAt o H' v := by
  cases o with
  | none => exact h
  | some ws =>
    obtain ⟨p, e1, e2⟩ := (show ∃ p, v = .ref p ∧ H p = some (.lst ((ws.map SX.S).map V.str)) from h)
    exact ⟨p, e1, s _ _ e2⟩
theorem words_few {v : V} {K : PySem.W.Frag} {H : Hp} (t : Th K H v) : ∀ ws, wordsO v = some ws → ws.length ≤ 2000 := fun ws e => by
  rcases t with ⟨n, rfl⟩ | ⟨z, rfl, hz, kz⟩ | ⟨b, rfl⟩ | rfl | ⟨p, rfl, o⟩
  · cases e
  · have e2 : (if 10 ∈ z.cps.toList then none else if [] ∈ z.cps.toList.foldl (stepW 32) [[]] then none else some (z.cps.toList.foldl (stepW 32) [[]])) = some ws := e
    have ew : ws = z.cps.toList.foldl (stepW 32) [[]] := by
      split at e2
      · cases e2
      · split at e2
        · cases e2
        · exact (Option.some.inj e2).symm
    have := foldW_len 32 z.cps.toList [[]]
    rw [← ew] at this
    have hl : z.length = z.cps.toList.length := len_def z
    have h3 : ([[]] : List (List Nat)).length = 1 := rfl
    omega
  · cases e
  · cases e
  · cases e
theorem sc_law : FnScope ["script", "k", "box", "ways", "row", "texts", "others", "thing", "turn", "words", "found"] ["script"] (defScope s_law) := ⟨rfl, rfl, rfl, by decide +kernel, rfl, by decide +kernel, by decide +kernel⟩
theorem c_law (T : Txt K mg) : ∃ fd, (∀ (s : Shared) (u : Value), BindsTo s fd ⟨[u], []⟩ [("script", u)]) ∧ ∀ base : Heap, FnG P w K mg base (L2.CX P w) 3 (He.ga K "law") fd ["script"] (sp1 (p_law K)) := by
  obtain ⟨fd, F⟩ := T.d_law
  have b := FunD.bindsA (ps := ["script"]) F (fun _ _ _ _ _ _ us hl => match us, hl with | [_], _ => rfl)
  refine ⟨fd, fun s v => b s [v] rfl, fun base => okG F sc_law len1 (fun cdv A outer s H vs Q E hG hr h => ?_)⟩
  refine ⟨_, (pss_cons (ps_for (passes_of rfl) rfl (pi_range1 (by rfl) T.n_range (pa_cons (pe_callB (call_max2X rfl) (by rfl) T.n_max (by decide +kernel) (pa_cons pe_int (pa_cons (pe_callB (call_min2X rfl) (by rfl) T.n_min (by decide +kernel) (pa_cons pe_int (pa_cons (pe_callB (call_lenK (K := K)) (by rfl) T.n_len (by decide +kernel) (pa_cons (pv 0) pa_nil)) pa_nil))) pa_nil))) pa_nil)) (pg_name (i := 1) sc_law.nd rfl (by first | exact Or.inl rfl | exact Or.inr rfl))
      (pss_cons (ps_set (i := 2) sc_law.nd rfl (by first | exact Or.inl rfl | exact Or.inr rfl) (pe_x (c_law_box T) hr (by decide) passL (pa_cons (pe_x (c_law_cell T) hr (by decide) passL (pa_cons (pv 0) (pa_cons (pv 1) pa_nil))) pa_nil)))
      (pss_cons (ps_set (i := 3) sc_law.nd rfl (by first | exact Or.inl rfl | exact Or.inr rfl) (pe_lst (pa_cons (pe_x (c_law_take T) hr (by decide) passL (pa_cons (pv 2) (pa_cons pe_int pa_nil))) (pa_cons (pe_x (c_law_take T) hr (by decide) passL (pa_cons (pv 2) (pa_cons pe_int pa_nil))) pa_nil))))
      (pss_cons (ps_set (i := 4) sc_law.nd rfl (by first | exact Or.inl rfl | exact Or.inr rfl) (pe_x (c_law_row T) hr (by decide) passL (pa_cons (pv 2) pa_nil)))
      (pss_cons (ps_set (i := 5) sc_law.nd rfl (by first | exact Or.inl rfl | exact Or.inr rfl) (pe_lst (pa_cons (pe_x (c_law_spoilt T) hr (by decide) passL (pa_cons (pv 2) (pa_cons (pe_x (c_law_figures T) hr (by decide) passL (pa_cons (pv 2) pa_nil)) (pa_cons (pe_ix (ix_seqK (K := K)) (pv 3) pe_int (fun _ _ => rfl)) pa_nil)))) (pa_cons (pe_x (c_law_spoilt T) hr (by decide) passL (pa_cons (pv 2) (pa_cons (pv 4) (pa_cons (pe_ix (ix_seqK (K := K)) (pv 3) pe_int (fun _ _ => rfl)) pa_nil)))) (pa_cons (pv 4) (pa_cons pe_str (pa_cons pe_str pa_nil)))))))
      (pss_cons (ps_set (i := 6) sc_law.nd rfl (by first | exact Or.inl rfl | exact Or.inr rfl) (pe_ix (ix_seqK (K := K)) (pe_lst (pa_cons pe_non (pa_cons pe_bl (pa_cons pe_int (pa_cons (pe_lst (pa_cons pe_str pa_nil)) (pa_cons (pe_tup (pa_cons pe_str pa_nil)) (pa_cons pe_dnewK (pa_cons (pe_exx (m_NoNumber_init T) hr (by decide) (pa_cons pe_str pa_nil)) (pa_cons (pe_disp (pps_cons pe_str pe_str pps_nil) (by rfl) (by rfl) (fun z => by cases z) (by decide)) (pa_cons (pe_op op_pow pe_int pe_int) pa_nil)))))))))) (pe_x (c_law_take T) hr (by decide) passL (pa_cons (pv 2) (pa_cons pe_int pa_nil))) (fun _ _ => rfl)))
      (pss_one (ps_for (passes_of rfl) rfl (pi_list (pe_op (op_plusK (K := K)) (pv 5) (pe_lst (pa_cons (pv 6) (pa_cons (pe_lst (pa_cons pe_str (pa_cons pe_str pa_nil))) pa_nil))))) (pg_name (i := 7) sc_law.nd rfl (by first | exact Or.inl rfl | exact Or.inr rfl))
      (pss_one (ps_for (passes_of rfl) rfl (pi_range1 (by rfl) T.n_range (pa_cons pe_int pa_nil)) (pg_name (i := 8) sc_law.nd rfl (by first | exact Or.inl rfl | exact Or.inr rfl))
      (pss_cons (ps_set (i := 9) sc_law.nd rfl (by first | exact Or.inl rfl | exact Or.inr rfl) (pe_x (c_words_of T) hr (by decide) passL (pa_cons (pv 7) pa_nil)))
      (pss_cons (ps_set (i := 10) sc_law.nd rfl (by first | exact Or.inl rfl | exact Or.inr rfl) (pe_lst (pa_cons (pe_x (c_number_of T) hr (by decide) passL (pa_cons (pv 7) pa_nil)) (pa_cons (pv 9) pa_nil))))
      (pss_cons (ps_if (pt_cmpR (op_neGK (K := K) (hu64 hr)) (pe_callB (call_reprK (K := K) hG (hu64 hr)) (by rfl) T.n_repr (by decide +kernel) (pa_cons (pv 10) pa_nil)) (pe_callB (call_reprK (K := K) hG (hu64 hr)) (by rfl) T.n_repr (by decide +kernel) (pa_cons (pe_lst (pa_cons (pe_x (c_law_number_due T) hr (by decide) passL (pa_cons (pv 7) pa_nil)) (pa_cons (pe_x (c_law_words_due T) hr (by decide) passL (pa_cons (pv 7) pa_nil)) pa_nil))) pa_nil)) (nomark _)) (pss_one (ps_ret pe_bl)) pss_nil)
      (pss_one (ps_if (pt_cmpR op_notNX (pv 9) pe_non (nomark _)) (pss_cons (ps_expr (pe_bm PySem.F.plainAttrs_list PySem.F.slot_list_append PySem.F.type_list_append mt_append (pv 9) (pa_cons pe_str pa_nil)))
      (pss_one (ps_expr (pe_bm0 PySem.F.plainAttrs_list PySem.F.slot_list_reverse PySem.F.type_list_reverse mt_reverse (pv 9))))) pss_nil)))))))))))))))
      (pss_one (ps_ret pe_bl))), ?_⟩
  obtain ⟨_, rfl, p, ns, rfl, hl, hS, hQ⟩ := h
  refine entry (σ0 := [some _, none, none, none, none, none, none, none, none, none, none]) rfl ?_
  try dsimp only [cxOf]
  walk_at "s"
  refine ⟨fun i σ' H' => Same H H' ∧ ∃ a1 a2 a3 a4 a5 a6 a7 a8 a9 a10, σ' = [some (.ref p), a1, a2, a3, a4, a5, a6, a7, a8, a9, a10], ⟨fun _ _ h => h, _, _, _, _, _, _, _, _, _, _, rfl⟩, ?_, ?_⟩
  · rintro i σ' H' hi ⟨s0, a1, a2, a3, a4, a5, a6, a7, a8, a9, a10, rfl⟩
    walk_at "s"
    rw [List.length_map] at hi
    refine ⟨p, ns, i, rfl, by simp, by omega, sql_keep hS s0, fun c => ?_⟩
    walk_at "s"
    refine ⟨c, rfl, fun x H1 hx s1 bx1 => ?_⟩
    have s2 : Same H H1 := Same.trans s0 s1
    have nx : H x = none := none_of s0 hx
    walk_at "s"
    refine take_use (k := 899999) (bx1.le (by omega)) (by omega) (by omega) fun d1 H2 d10 d11 bx2 ch2 => ?_
    walk_at "s"
    refine take_use (k := 899998) (bx2.le (by omega)) (by omega) (by omega) fun d2 H3 d20 d21 bx3 ch3 => ?_
    walk_at "s"
    intro q1 H4 hq1 sq1 eq1
    have b4 := bx3.same sq1
    have nq1 := bx3.ne hq1
    walk_at "s"
    refine ⟨x, 899900, rfl, b4.le (by omega), fun row H5 hrow krow b5 ch5 => ?_⟩
    have e5 := ch5.at nq1 eq1
    walk_at "s"
    refine ⟨x, 899800, rfl, b5.le (by omega), fun fig H6 hfig kfig b6 ch6 => ?_⟩
    have e6 := ch6.at nq1 e5
    walk_at "s"
    refine ⟨x, fig, d1, 899700, rfl, rfl, rfl, by omega, kfig, b6.le (by omega), fun y1 H7 hy1 ky1 b7 ch7 => ?_⟩
    have e7 := ch7.at nq1 e6
    walk_at "s"
    refine ⟨x, row, d2, 899600, rfl, rfl, rfl, by omega, krow, b7.le (by omega), fun y2 H8 hy2 ky2 b8 ch8 => ?_⟩
    walk_at "s"
    intro qt Ht hqt st et
    have s8 : Same H Ht := (stay (stay (stay (stay ((stay (stay s2 nx ch2) nx ch3).trans sq1) nx ch5) nx ch6) nx ch7) nx ch8).trans st
    have bt := b8.same st
    walk_at "s"
    intro qa Ha ha sa ea
    have ba := bt.same sa
    have ta : Thp K x Ha (.ref qa) := Thp.lst ea (bt.ne ha)
    walk_at "s"
    intro qb Hb hb sb eb
    have bb := ba.same sb
    have tb : Thp K x Hb (.ref qb) := Thp.tup eb (ba.ne hb)
    walk_at "s"
    intro qc Hc hc sc ec
    have bc := bb.same sc
    have tc : Thp K x Hc (.ref qc) := Thp.dK ec (bb.ne hc)
    walk_at "s"
    intro qe He he se ee
    have be := bc.same se
    obtain ⟨xp, yp, cp, epp, _⟩ := be
    have te : Thp K x He (.ref qe) := Thp.exc ee epp T.x_NoNumber.x T.off_NoNumber
    have be := bc.same se
    walk_at "s"
    intro qd Hd hd sd ed
    have bd := be.same sd
    have td : Thp K x Hd (.ref qd) := Thp.dK ed (be.ne hd)
    walk_at "s"
    intro qo Ho ho so eo
    have bo := bd.same so
    have no := bd.ne ho
    have sd' : Same Hd Ho := so
    have se' : Same He Ho := sd.trans sd'
    have sc' : Same Hc Ho := se.trans se'
    have sb' : Same Hb Ho := sc.trans sc'
    have sa' : Same Ha Ho := sb.trans sb'
    have st' : Same Ht Ho := sa.trans sa'
    have all : ∀ y ∈ [V.non, V.bl true, V.int 7, V.ref qa, V.ref qb, V.ref qc, V.ref qe, V.ref qd, V.int (10 ^ (29 : Int).toNat)], Thp K x Ho y := by
      intro y hy
      simp only [List.mem_cons, List.not_mem_nil, or_false] at hy
      rcases hy with rfl | rfl | rfl | rfl | rfl | rfl | rfl | rfl | rfl
      · exact Th.non
      · exact Th.bl _
      · exact Th.int _
      · exact ta.keep (Chg.of sa')
      · exact tb.keep (Chg.of sb')
      · exact tc.keep (Chg.of sc')
      · exact te.keep (Chg.of se')
      · exact td.keep (Chg.of sd')
      · exact Th.int _
    have nqt := b8.ne hqt
    have et' := st' _ _ et
    have so8 : Same H Ho := s8.trans st'
    clear ta tb tc td te
    walk_at "s"
    refine take_use (k := 899599) (bo.le (by omega)) (by omega) (by omega) fun dd H9 dd0 dd1 b9 ch9 => ?_
    obtain ⟨oth, aoth, moth⟩ := atI_len (xs := [V.non, V.bl true, V.int 7, V.ref qa, V.ref qb, V.ref qc, V.ref qe, V.ref qd, V.int (10 ^ (29 : Int).toNat)]) dd0 dd1
    refine x_ixL (ch9.at no eo) aoth ?_
    have toth := (all _ moth).keep ch9
    have et9 := ch9.at nqt et'
    have s9 := stay so8 nx ch9
    walk_at "s"
    intro qf Hf hf sf ef
    have tf : Thp K x Hf (.ref qf) := Thp.lst ef (b9.ne hf)
    have etf := sf _ _ et9
    walk_at "s"
    intro qg Hg hg sg eg
    have etg := sg _ _ etf
    walk_at "s"
    intro qh Hh hh sh eh
    have sff : Same H Hh := ((s9.trans sf).trans sg).trans sh
    have th : ∀ y ∈ [V.str y1, V.str y2, V.str row, V.str (Str.ofString "0"), V.str (Str.ofString "")] ++ [oth, V.ref qf], Th K Hh y := by
      intro y hy
      simp only [List.mem_append, List.mem_cons, List.not_mem_nil, or_false] at hy
      rcases hy with (rfl | rfl | rfl | rfl | rfl) | rfl | rfl
      · exact Th.str (by omega) ky1
      · exact Th.str (by omega) ky2
      · exact Th.str (by omega) krow
      · exact Th.str (by decide +kernel) (okS_ofString _)
      · exact Th.str (by decide +kernel) (okS_ofString _)
      · exact (toth.keep (Chg.of ((sf.trans sg).trans sh))).th
      · exact (tf.keep (Chg.of (sg.trans sh))).th
    generalize [V.str y1, V.str y2, V.str row, V.str (Str.ofString "0"), V.str (Str.ofString "")] ++ [oth, V.ref qf] = xs at eh th
    refine x_lstK (.inl (.inl eh)) ⟨fun m σ' H' => Same Hh H' ∧ ∃ c7 c8 c9 c10, σ' = [some (.ref p), some (.int (0 + (i : Int))), some (.ref x), some (.ref q1), some (.str row), some (.ref qt), some oth, c7, c8, c9, c10], ⟨fun _ _ h => h, _, _, _, _, rfl⟩, ?_, ?_, ?_⟩
    · rintro m σ' H' _ ⟨t1, c7, c8, c9, c10, rfl⟩
      exact .inl (.inl (t1 _ _ eh))
    · rintro m v σ' Hm hv ⟨t1, c7, c8, c9, c10, rfl⟩
      have tv := (th v (List.mem_of_getElem? hv)).keep t1
      walk_at "s"
      refine ⟨fun l σ' H' => Same Hm H' ∧ ∃ c8 c9 c10, σ' = [some (.ref p), some (.int (0 + (i : Int))), some (.ref x), some (.ref q1), some (.str row), some (.ref qt), some oth, some v, c8, c9, c10], ⟨fun _ _ h => h, _, _, _, rfl⟩, ?_, ?_⟩
      · rintro l σ' Hl hl2 ⟨t2, c8, c9, c10, rfl⟩
        have tv := tv.keep t2
        walk_at "s"
        refine ⟨tv, words_use (fun w H11 ww s11 wf => ?_) (words_few tv)⟩
        walk_at "s"
        have tv2 := tv.keep s11
        refine ⟨tv2, fun H12 s12 => ?_⟩
        walk_at "s"
        intro q13 H13 h13 s13 e13
        walk_at "s"
        have ww13 := (ww.keep s12).keep s13
        refine repr_found tv ww13 e13 ?_
        have tv3 := (tv2.keep s12).keep s13
        walk_at "s"
        refine ⟨tv3, fun H14 s14 => ?_⟩
        have tv4 := tv3.keep s14
        walk_at "s"
        refine ⟨tv4, words_use (fun w2 H15 ww2 s15 _ => ?_) (words_few tv)⟩
        walk_at "s"
        intro q16 H16 h16 s16 e16
        walk_at "s"
        refine repr_found tv (ww2.keep s16) e16 ?_
        walk_at "s"
        refine x_decN (fun h => absurd rfl h) fun _ => ?_
        walk_at "s"
        have sAll : Same H11 H16 := (((s12.trans s13).trans s14).trans s15).trans s16
        rcases wf with rfl | ⟨pw, rfl, hpw, xs, exs, lxs⟩
        · walk_at "s"
          exact ⟨(t2.trans s11).trans sAll, _, _, _, rfl⟩
        · have exs2 := sAll _ _ exs
          have lxs2 : xs.length ≤ 1000000 := by omega
          walk_at "s"
          intro H17 c17 e17
          walk_at "s"
          intro H18 c18 e18
          have hn : Hm pw = none := none_of t2 hpw
          exact ⟨stay (stay ((t2.trans s11).trans sAll) hn c17) hn c18, _, _, _, rfl⟩
      · rintro σ' H' ⟨t2, c8, c9, c10, rfl⟩
        exact ⟨t1.trans t2, _, _, _, _, rfl⟩
    · rintro σ' H' ⟨t1, c7, c8, c9, c10, rfl⟩
      exact ⟨sff.trans t1, _, _, _, _, _, _, _, _, _, _, rfl⟩
  · rintro σ' H' ⟨s0, a1, a2, a3, a4, a5, a6, a7, a8, a9, a10, rfl⟩
    walk_at "s"
    exact hQ _
end
/-! the head -/
def factL : List (PySem.W.Frag → Bool) := [
  fun K => He.eqO (PySem.W.findIn K (.ref (He.ga K "NoNumber")) "found") (some none),
  fun K => biniB K (He.ga K "StoneError") "ValueError.__init__",
  fun K => (He.Fa.free "all").ok K,
  fun K => (He.Fa.free "int").ok K,
  fun K => (He.Fa.free "isinstance").ok K,
  fun K => (He.Fa.free "len").ok K,
  fun K => (He.Fa.free "max").ok K,
  fun K => (He.Fa.free "min").ok K,
  fun K => (He.Fa.free "range").ok K,
  fun K => (He.Fa.free "repr").ok K,
  fun K => (He.Fa.free "str").ok K,
  fun K => (He.Fa.str "FIGURES" "0123456789").ok K,
  fun K => (He.Fa.int "MOST_FIGURES" 60).ok K,
  fun K => (He.Fa.glo "StoneError").ok K,
  fun K => (He.Fa.glo "NoNumber").ok K,
  fun K => xcB K (He.ga K "NoNumber"),
  fun K => iniB K (He.ga K "NoNumber") (He.ma K (He.ga K "NoNumber") "__init__"),
  fun K => offsB K (He.ga K "NoNumber") ["int", "bool", "str", "list", "tuple", "dict"],
  fun K => (He.Fa.glo "number_of").ok K,
  fun K => (He.Fa.glo "words_of").ok K,
  fun K => (He.Fa.glo "_law_cell").ok K,
  fun K => (He.Fa.glo "_law_box").ok K,
  fun K => (He.Fa.glo "_law_take").ok K,
  fun K => (He.Fa.glo "_law_signs").ok K,
  fun K => (He.Fa.glo "_law_spoilt").ok K,
  fun K => (He.Fa.glo "_law_figures").ok K,
  fun K => (He.Fa.glo "_law_row").ok K,
  fun K => (He.Fa.glo "_law_number_due").ok K,
  fun K => (He.Fa.glo "_law_words_due").ok K,
  fun K => (He.Fa.glo "law").ok K]
def dd_number_of : He.DefD := ⟨("number_of", none), "number_of", "number_of", defArgs s_number_of, defBody s_number_of, defScope s_number_of, [], []⟩
def dd_words_of : He.DefD := ⟨("words_of", none), "words_of", "words_of", defArgs s_words_of, defBody s_words_of, defScope s_words_of, [], []⟩
def dd_NoNumber_init : He.DefD := ⟨("NoNumber", some "__init__"), "__init__", "NoNumber.__init__", defArgs s_NoNumber_init, defBody s_NoNumber_init, defScope s_NoNumber_init, [], []⟩
def dd_law_cell : He.DefD := ⟨("_law_cell", none), "_law_cell", "_law_cell", defArgs s_law_cell, defBody s_law_cell, defScope s_law_cell, [], []⟩
def dd_law_box : He.DefD := ⟨("_law_box", none), "_law_box", "_law_box", defArgs s_law_box, defBody s_law_box, defScope s_law_box, [], []⟩
def dd_law_take : He.DefD := ⟨("_law_take", none), "_law_take", "_law_take", defArgs s_law_take, defBody s_law_take, defScope s_law_take, [], []⟩
def dd_law_signs : He.DefD := ⟨("_law_signs", none), "_law_signs", "_law_signs", defArgs s_law_signs, defBody s_law_signs, defScope s_law_signs, [], []⟩
def dd_law_spoilt : He.DefD := ⟨("_law_spoilt", none), "_law_spoilt", "_law_spoilt", defArgs s_law_spoilt, defBody s_law_spoilt, defScope s_law_spoilt, [], []⟩
def dd_law_figures : He.DefD := ⟨("_law_figures", none), "_law_figures", "_law_figures", defArgs s_law_figures, defBody s_law_figures, defScope s_law_figures, [], []⟩
def dd_law_row : He.DefD := ⟨("_law_row", none), "_law_row", "_law_row", defArgs s_law_row, defBody s_law_row, defScope s_law_row, [], []⟩
def dd_law_number_due : He.DefD := ⟨("_law_number_due", none), "_law_number_due", "_law_number_due", defArgs s_law_number_due, defBody s_law_number_due, defScope s_law_number_due, [], []⟩
def dd_law_words_due : He.DefD := ⟨("_law_words_due", none), "_law_words_due", "_law_words_due", defArgs s_law_words_due, defBody s_law_words_due, defScope s_law_words_due, [], []⟩
def dd_law : He.DefD := ⟨("law", none), "law", "law", defArgs s_law, defBody s_law, defScope s_law, [], []⟩
def fnL : List He.DefD := [dd_number_of, dd_words_of, dd_NoNumber_init, dd_law_cell, dd_law_box, dd_law_take, dd_law_signs, dd_law_spoilt, dd_law_figures, dd_law_row, dd_law_number_due, dd_law_words_due, dd_law]
theorem txt_of {K : PySem.W.Frag} {h : Heap} {mg : Str → Option Value} (X : K.In h) (G : h.Ns mainGlobals mg) (s : SaysX (allB factL) fnL K) : Txt K mg := by
  have F := s.facts
  constructor
  · have c := allB_at F 0
    exact He.eqO_ok c
  · have c := allB_at F 1
    exact biniB_ok c
  · have c := allB_at F 2
    exact He.free_ok X G c
  · have c := allB_at F 3
    exact He.free_ok X G c
  · have c := allB_at F 4
    exact He.free_ok X G c
  · have c := allB_at F 5
    exact He.free_ok X G c
  · have c := allB_at F 6
    exact He.free_ok X G c
  · have c := allB_at F 7
    exact He.free_ok X G c
  · have c := allB_at F 8
    exact He.free_ok X G c
  · have c := allB_at F 9
    exact He.free_ok X G c
  · have c := allB_at F 10
    exact He.free_ok X G c
  · have c := allB_at F 11
    exact He.str_ok X G c
  · have c := allB_at F 12
    exact He.int_ok X G c
  · have c := allB_at F 13
    exact He.glo_ok X G c
  · have c := allB_at F 14
    exact He.glo_ok X G c
  · have c := allB_at F 15
    exact xcB_ok c
  · have c := allB_at F 16
    exact iniB_ok c
  · have c := allB_at F 17
    exact offsB_ok c
  · have c := allB_at F 18
    exact He.glo_ok X G c
  · have c := allB_at F 19
    exact He.glo_ok X G c
  · have c := allB_at F 20
    exact He.glo_ok X G c
  · have c := allB_at F 21
    exact He.glo_ok X G c
  · have c := allB_at F 22
    exact He.glo_ok X G c
  · have c := allB_at F 23
    exact He.glo_ok X G c
  · have c := allB_at F 24
    exact He.glo_ok X G c
  · have c := allB_at F 25
    exact He.glo_ok X G c
  · have c := allB_at F 26
    exact He.glo_ok X G c
  · have c := allB_at F 27
    exact He.glo_ok X G c
  · have c := allB_at F 28
    exact He.glo_ok X G c
  · have c := allB_at F 29
    exact He.glo_ok X G c
  · exact s.def_ 0 (d := dd_number_of)
  · exact s.def_ 1 (d := dd_words_of)
  · exact s.def_ 2 (d := dd_NoNumber_init)
  · exact s.def_ 3 (d := dd_law_cell)
  · exact s.def_ 4 (d := dd_law_box)
  · exact s.def_ 5 (d := dd_law_take)
  · exact s.def_ 6 (d := dd_law_signs)
  · exact s.def_ 7 (d := dd_law_spoilt)
  · exact s.def_ 8 (d := dd_law_figures)
  · exact s.def_ 9 (d := dd_law_row)
  · exact s.def_ 10 (d := dd_law_number_due)
  · exact s.def_ 11 (d := dd_law_words_due)
  · exact s.def_ 12 (d := dd_law)
abbrev R : PySem.W.OpenRow := PySem.W.OpenLaw.row PySem.Challenge.rw_stonewalks_k02_numbers_and_words
abbrev hk : PySem.W.Hook := hookX 6 (allB factL) fnL
def ob (s : PySem.W.SharedT) : He.AlD := obsXG 6 (allB factL) fnL (HandSHeadRun.getT s)
theorem ob_eq (s : PySem.W.SharedT) : ob s = hk.obs s.abs := obsXG_eq (HandSHeadRun.getT_eq s)
theorem run (w : World) : HandSHeadRun.RunEq R (PySem.W.view R.prog [18]) hk ob 4000 ["FIGURES", "MOST_FIGURES", "number_of", "words_of", "StoneError", "NoNumber", "_law_cell", "_law_box", "_law_take", "_law_signs", "_law_spoilt", "_law_figures", "_law_row", "_law_number_due", "_law_words_due"] w := by
  intro os
  kernel_rfl
end SW
open PySem PySem.W PySem.Calls PyProof.Rows
theorem PySem.Challenge.cw_stonewalks_k02_numbers_and_words_holds : PySem.Challenge.rw_stonewalks_k02_numbers_and_words.Holds := by
  w_on; o_law
  refine HandSHeadRun.head_any (r := OpenLaw.row PySem.Challenge.rw_stonewalks_k02_numbers_and_words) (q := view (OpenLaw.row PySem.Challenge.rw_stonewalks_k02_numbers_and_words).prog [18]) (H := SW.hk) (ob := SW.ob) (M := 4000) (loose := ["FIGURES", "MOST_FIGURES", "number_of", "words_of", "StoneError", "NoNumber", "_law_cell", "_law_box", "_law_take", "_law_signs", "_law_spoilt", "_law_figures", "_law_row", "_law_number_due", "_law_words_due"]) (d := HandSHeadRun.topDef (OpenLaw.row PySem.Challenge.rw_stonewalks_k02_numbers_and_words).prog 18) (kwd := []) SW.ob_eq
    (by kernel_rfl) (fun s => by kernel_rfl) SW.run (by kernel_rfl) (by kernel_rfl) (by kernel_rfl) (by rfl) (by first | assumption | decide +kernel) (by decide +kernel) ⟨rfl, rfl, rfl, rfl, rfl, by decide +kernel⟩ ?hw ?hc
  case hw => w_witness2
  case hc =>
    refine SW.walk_endG (l := PySem.Challenge.rw_stonewalks_k02_numbers_and_words) (n := 63) (k := 3) (x := "script") rfl (by decide) (by kernel_rfl) ⟨rfl, by decide, by decide⟩ ?F SW.noCX
    intro w mg fa h Y G hmg0
    obtain ⟨K, KX, c⟩ := Y
    have hmg : mg ("law" : PySem.Str) = some (.ref fa) := by
      have e : (HandSHeadRun.topDef (OpenLaw.row PySem.Challenge.rw_stonewalks_k02_numbers_and_words).prog 18).name = ("law" : PySem.Str) := by kernel_rfl
      rw [← e]
      exact hmg0
    have T := SW.txt_of KX G c
    have e := hmg.symm.trans T.g_law
    cases e
    obtain ⟨fd, hb, F⟩ := SW.c_law (P := (PySem.Challenge.rw_stonewalks_k02_numbers_and_words).prog) (w := w) T
    exact ⟨K, fd, SW.sp1 (SW.p_law K), KX, hb, fun H a ns hl _ hS => ⟨.ref a, rfl, a, ns, rfl, hl, hS, fun _ => rfl⟩, fun base _ _ => F base⟩
