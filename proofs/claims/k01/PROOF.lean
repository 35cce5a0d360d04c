import PyProof.Rows.All
import Wide.All
import OpenK.AllK
import Wide.FinOn
import KE.KStateDown
import Lean
import HandS.ForMost
import HandS.Exc
import HandS.ExcOwn
import HandS.WordsExc
import HandS.ExcInit
import HandS.IsInst
import HandS.TryMany
import HandS.Flow
import HandS.Wide
import HandS.Defaults
import HandS.FStr
import HandS.RaiseMore
import HandS.Head0
import HandS.Head1
import HandS.Head2
import HandS.HeadEnd
import HandS.HeadHook1
import HandS.HeadHook2
import HandS.HeadHook3
import HandS.ClsMeth
import HandS.ExcIs
import HandS.ExcField
import KE.KExcIs
import HandS.Codes
import PySem.Challenge.RW_stonewalks_k01_wholes_and_names
set_option Elab.async false
set_option linter.all false
set_option maxRecDepth 100000
set_option maxHeartbeats 4000000
namespace SW
open PySem PySem.Spec PyProof.Rows L2

/-! ### promises by arity -/
abbrev P0 := Hp → VK → XK → Prop
abbrev P1 := V → P0
abbrev P2 := V → P1
abbrev P3 := V → P2
abbrev P4 := V → P3
def sp0 (f : P0) : Sp := fun vs H Q E => vs = [] ∧ f H Q E
def sp1 (f : P1) : Sp := fun vs H Q E => ∃ a, vs = [a] ∧ f a H Q E
def sp2 (f : P2) : Sp := fun vs H Q E => ∃ a b, vs = [a, b] ∧ f a b H Q E
def sp3 (f : P3) : Sp := fun vs H Q E => ∃ a b c, vs = [a, b, c] ∧ f a b c H Q E
def sp4 (f : P4) : Sp := fun vs H Q E => ∃ a b c d, vs = [a, b, c, d] ∧ f a b c d H Q E
theorem len0 {f : P0} : ∀ vs H Q E, sp0 f vs H Q E → vs.length = 0 := fun _ _ _ _ h => by obtain ⟨rfl, _⟩ := h; rfl
theorem len1 {f : P1} : ∀ vs H Q E, sp1 f vs H Q E → vs.length = 1 := fun _ _ _ _ h => by obtain ⟨_, rfl, _⟩ := h; rfl
theorem len2 {f : P2} : ∀ vs H Q E, sp2 f vs H Q E → vs.length = 2 := fun _ _ _ _ h => by obtain ⟨_, _, rfl, _⟩ := h; rfl
theorem len3 {f : P3} : ∀ vs H Q E, sp3 f vs H Q E → vs.length = 3 := fun _ _ _ _ h => by obtain ⟨_, _, _, rfl, _⟩ := h; rfl
theorem len4 {f : P4} : ∀ vs H Q E, sp4 f vs H Q E → vs.length = 4 := fun _ _ _ _ h => by obtain ⟨_, _, _, _, rfl, _⟩ := h; rfl

/-! ### a def of the module, with its promise; a class's maker; a method -/
structure CalX (P : Program) (w : World) (K : PySem.W.Frag) (mg : Str → Option Value) (base : Heap) (k : Nat) (x : Str) (sp : Sp) (dvs : List V) : Prop where
  ex : ∃ (f : Addr) (fd : FuncData) (ps : List Str) (ds : List Value), FnOk P w K mg base (L2.CX P w) k f fd ps sp ∧ mg x = some (.ref f) ∧ PySem.W.keepIn K (.ref f) = true ∧ Binds K fd ps ds ∧ Vals dvs ds
structure MetX (P : Program) (w : World) (K : PySem.W.Frag) (mg : Str → Option Value) (base : Heap) (k : Nat) (C : Addr) (m : Str) (sp : Sp) (dvs : List V) : Prop where
  ex : ∃ (f : Addr) (fd : FuncData) (ps : List Str) (ds : List Value), Cls K C ∧ Meth K C m f ∧ FnOk P w K mg base (L2.CX P w) k f fd ps sp ∧ Binds K fd ps ds ∧ Vals dvs ds
structure MakX (P : Program) (w : World) (K : PySem.W.Frag) (mg : Str → Option Value) (base : Heap) (k : Nat) (x : Str) (C : Addr) (sp : Sp) (dvs : List V) : Prop where
  ex : ∃ (f : Addr) (fd : FuncData) (ps : List Str) (ds : List Value), Mk K C f ∧ FnOk P w K mg base (L2.CX P w) k f fd ps sp ∧ mg x = some (.ref C) ∧ Binds K fd ps ds ∧ Vals dvs ds
section
variable {X : Cx} {k j : Nat} {C : Addr} {x m : Str} {sp : Sp} {dvs : List V} {E : XK} {p pos apos : Pos} {e o : Expr} {es : List Expr} {ta : TE} {t : TA}
theorem pe_x (c : CalX X.prog X.w X.K X.mg X.base k x sp dvs) (hr : Room j X.A) (hk : k ≤ j) (hx : Passes (L2.CX X.prog X.w) X E) (ha : PA X (e :: es) t) (hg : Gl X x := by rfl)
    (hdb : (x == ("__debug__" : Str)) = false := by decide) (he : starEach (e :: es) X.env = (false, eval e X.env) :: starEach es X.env := by rfl) (hpl : (backTo pos (starEach es X.env)).any (·.1) = false := by rfl) :
    PE X (.Call (.Name x p) (e :: es) [] pos) (tCall sp dvs E t) := by
  obtain ⟨f, fd, ps, ds, F, hm, kp, b, d⟩ := c.ex
  exact pe_call F (hr.mono hk) hg hm kp b d hx ha hdb he hpl
theorem pe_x0 (c : CalX X.prog X.w X.K X.mg X.base k x sp dvs) (hr : Room j X.A) (hk : k ≤ j) (hx : Passes (L2.CX X.prog X.w) X E) (hg : Gl X x := by rfl) (hdb : (x == ("__debug__" : Str)) = false := by decide) :
    PE X (.Call (.Name x p) [] [] pos) (tCall sp dvs E tNil) := by
  obtain ⟨f, fd, ps, ds, F, hm, kp, b, d⟩ := c.ex
  exact pe_call0 F (hr.mono hk) hg hm kp b d hx hdb
theorem pe_mkx (c : MakX X.prog X.w X.K X.mg X.base k x C sp dvs) (hr : Room j X.A) (hk : k + 1 ≤ j) (hx : Passes (L2.CX X.prog X.w) X E) (ha : PA X (e :: es) t) (hg : Gl X x := by rfl)
    (hdb : (x == ("__debug__" : Str)) = false := by decide) (he : starEach (e :: es) X.env = (false, eval e X.env) :: starEach es X.env := by rfl) (hpl : (backTo pos (starEach es X.env)).any (·.1) = false := by rfl) :
    PE X (.Call (.Name x p) (e :: es) [] pos) (tMake C sp dvs E t) := by
  obtain ⟨f, fd, ps, ds, M, F, hm, b, d⟩ := c.ex
  exact pe_make M F (hr.mono hk) hg hm b d hx ha hdb he hpl
theorem pe_mx {pl : Sem Bool} (c : MetX X.prog X.w X.K X.mg X.base k C m sp dvs) (hr : Room j X.A) (hk : k ≤ j) (hx : Passes (L2.CX X.prog X.w) X E) (he : PE X o ta) (ha : PA X (e :: es) t)
    (hst : starEach (e :: es) X.env = (false, eval e X.env) :: starEach es X.env := by rfl) (hpl : (backTo pos (starEach es X.env)).any (·.1) = false := by rfl)
    (ht : eval (.Call (.Attribute o m apos) (e :: es) [] pos) X.env = (do
      let ov ← eval o X.env
      standAt apos.atName
      let (f, first) ← holding [ov] (getMethod ov m pl)
      callWith pos f first (backTo pos (starEach (e :: es) X.env)) (backToKw pos (keywordEach [] X.env))) := by rfl) :
    PE X (.Call (.Attribute o m apos) (e :: es) [] pos) (tMeth C m sp dvs E ta t) := by
  obtain ⟨f, fd, ps, ds, c, M, F, b, d⟩ := c.ex
  exact pe_meth he c M F (hr.mono hk) b d hx ha hst hpl ht
theorem pe_mx0 {pl : Sem Bool} (c : MetX X.prog X.w X.K X.mg X.base k C m sp dvs) (hr : Room j X.A) (hk : k ≤ j) (hx : Passes (L2.CX X.prog X.w) X E) (he : PE X o ta)
    (ht : eval (.Call (.Attribute o m apos) [] [] pos) X.env = (do
      let ov ← eval o X.env
      standAt apos.atName
      let (f, first) ← holding [ov] (getMethod ov m pl)
      callWith pos f first (backTo pos (starEach [] X.env)) (backToKw pos (keywordEach [] X.env))) := by rfl) :
    PE X (.Call (.Attribute o m apos) [] [] pos) (tMeth C m sp dvs E ta tNil) := by
  obtain ⟨f, fd, ps, ds, c, M, F, b, d⟩ := c.ex
  exact pe_meth0 he c M F (hr.mono hk) b d hx ht
end

/-! ### steps: one a reading's head -/
section
variable {σ : L2.St} {H : Hp} {Q : VK} {nx bk ct : L2.St → Hp → Prop} {rt : VK} {t u : TS} {te ta tb tc : TE} {c tt : TT} {i : Nat} {v : V} {r r' : R2} {K : PySem.W.Frag}
theorem x_seq (h : t ⟨u ⟨nx, rt, bk, ct⟩, rt, bk, ct⟩ σ H) : tSeq t u ⟨nx, rt, bk, ct⟩ σ H := h
theorem x_next (h : nx σ H) : tNext ⟨nx, rt, bk, ct⟩ σ H := h
theorem x_set (h : te σ H fun x H1 => nx (σ.set i (some x)) H1) : tAsg te (gName i) ⟨nx, rt, bk, ct⟩ σ H := h
theorem x_ret (h : te σ H rt) : tRet te ⟨nx, rt, bk, ct⟩ σ H := h
theorem x_drop (h : te σ H fun _ H1 => nx σ H1) : tDrop te ⟨nx, rt, bk, ct⟩ σ H := h
theorem x_ifS (h : c σ H fun b H1 => if b = true then t ⟨nx, rt, bk, ct⟩ σ H1 else u ⟨nx, rt, bk, ct⟩ σ H1) : tIfS c t u ⟨nx, rt, bk, ct⟩ σ H := h
theorem x_brk (h : bk σ H) : tBreak ⟨nx, rt, bk, ct⟩ σ H := h
theorem x_cont (h : ct σ H) : tCont ⟨nx, rt, bk, ct⟩ σ H := h
theorem x_var (e : σ[i]? = some (some v)) (h : Q v H) : tVar i σ H Q := ⟨v, e, h⟩
theorem x_c (h : Q v H) : tC v σ H Q := h
theorem x_op (h : ta σ H fun x H1 => tb σ H1 fun y H2 => r x y H2 Q) : tOp r ta tb σ H Q := h
theorem x_un {r : V → Hp → VK → Prop} (h : ta σ H fun x H1 => r x H1 Q) : tUn r ta σ H Q := h
theorem x_chain (h : ta σ H fun x H1 => tb σ H1 fun y H2 => r x y H2 fun z H3 => ∃ k, z = .bl k ∧ (if k = true then tc σ H3 fun w' H4 => r' y w' H4 Q else Q (.bl false) H3)) : tChain r r' ta tb tc σ H Q := h
theorem x_test {Qb : Bool → Hp → Prop} (h : te σ H fun x H' => ∃ k, x = .bl k ∧ Qb k H') : tTest te σ H Qb := h
theorem x_B {Qb : Bool → Hp → Prop} (h : te σ H fun x H' => ∃ k, x = .bl k ∧ Qb k H') : tB te σ H Qb := h
theorem x_and {Qb : Bool → Hp → Prop} (h : c σ H fun b H1 => if b = true then tt σ H1 Qb else Qb false H1) : tAnd c tt σ H Qb := h
theorem x_or {Qb : Bool → Hp → Prop} (h : c σ H fun b H1 => if b = true then Qb true H1 else tt σ H1 Qb) : tOr c tt σ H Qb := h
theorem x_not {Qb : Bool → Hp → Prop} (h : c σ H fun b H1 => Qb (!b) H1) : tNot c σ H Qb := h
theorem x_andV (h : ta σ H fun x H1 => ∃ c, x = .bl c ∧ if c = true then tb σ H1 Q else Q (.bl false) H1) : tAndV ta tb σ H Q := h
theorem x_orV (h : ta σ H fun x H1 => ∃ c, x = .bl c ∧ if c = true then Q (.bl true) H1 else tb σ H1 Q) : tOrV ta tb σ H Q := h
theorem x_notV (h : ta σ H fun x H1 => ∃ c, x = .bl c ∧ Q (.bl (!c)) H1) : tNotV ta σ H Q := h
theorem x_if (h : c σ H fun b H1 => if b = true then ta σ H1 Q else tb σ H1 Q) : tIf c ta tb σ H Q := h
theorem x_nil {QA : List V → Hp → Prop} (h : QA [] H) : tNil σ H QA := h
theorem x_cons {QA : List V → Hp → Prop} {tr : TA} (h : ta σ H fun x H1 => tr σ H1 fun xs H2 => QA (x :: xs) H2) : tCons ta tr σ H QA := h
theorem x_lst {tr : TA} (h : tr σ H fun xs H1 => xs.length ≤ sizeLine ∧ ∀ p, H1 p = none → Q (.ref p) (upd H1 p (.lst xs))) : tLst tr σ H Q := h
theorem x_tup {tr : TA} (h : tr σ H fun xs H1 => xs.length ≤ sizeLine ∧ ∀ p, H1 p = none → Q (.ref p) (upd H1 p (.tup xs))) : tTup tr σ H Q := h
theorem x_CB {rc : List V → Hp → VK → Prop} {tr : TA} (h : tr σ H fun vs H1 => rc vs H1 Q) : tCB rc tr σ H Q := h
theorem x_call {sp : Sp} {dvs : List V} {E : XK} {tr : TA} (h : tr σ H fun vs H1 => sp (vs ++ dvs) H1 Q E) : tCall sp dvs E tr σ H Q := h
theorem x_sl {rs : V → Option Int → Option Int → Hp → VK → Prop} {tl th : TO} (h : te σ H fun x H1 => tl σ H1 fun l H2 => th σ H2 fun u H3 => rs x l u H3 Q) : tSl rs te tl th σ H Q := h
theorem x_noPart {QO : Option Int → Hp → Prop} (h : QO none H) : tNoPart σ H QO := h
theorem x_part {QO : Option Int → Hp → Prop} (h : te σ H fun x H1 => ∃ i, x = .int i ∧ QO (some i) H1) : tPart te σ H QO := h
/-- values as they stand -/
theorem x_bl {b : Bool} {P : Bool → Prop} (h : P b) : ∃ k, V.bl b = .bl k ∧ P k := ⟨b, rfl, h⟩
theorem x_int {n : Int} {P : Int → Prop} (h : P n) : ∃ k, V.int n = .int k ∧ P k := ⟨n, rfl, h⟩
theorem x_sz {xs : List V} {P : Prop} (hz : xs.length ≤ 1000) (h : P) : xs.length ≤ sizeLine ∧ P := ⟨Nat.le_trans hz (by decide), h⟩
theorem x_rI0 {g : Int → Int → V} {a b : Int} (h : Q (g a b) H) : rI0 g (.int a) (.int b) H Q := ⟨a, b, rfl, rfl, h⟩
theorem x_rI {C : Int → Int → Prop} {g : Int → Int → V} {a b : Int} (hc : C a b) (h : Q (g a b) H) : rI C g (.int a) (.int b) H Q := ⟨a, b, rfl, rfl, hc, h⟩
theorem x_rU {g : Int → V} {a : Int} (h : Q (g a) H) : rU g (.int a) H Q := ⟨a, rfl, h⟩
theorem x_eqI {a b : Int} (h : Q (.bl (decide (a = b))) H) : rEq (.int a) (.int b) H Q := ⟨rfl, by rw [dec_int, Bool.beq_eq_decide_eq]; exact h⟩
theorem x_neI {a b : Int} (h : Q (.bl (!decide (a = b))) H) : rNe (.int a) (.int b) H Q := ⟨rfl, by rw [dec_int, Bool.beq_eq_decide_eq]; exact h⟩
theorem x_iteT {A B : Prop} {b : Bool} (hb : b = true) (h : A) : if b = true then A else B := by rw [if_pos hb]; exact h
theorem x_iteF {A B : Prop} {b : Bool} (hb : b = false) (h : B) : if b = true then A else B := by rw [hb, if_neg Bool.false_ne_true]; exact h
theorem x_ite {A B : Prop} {b : Bool} (h1 : b = true → A) (h2 : b = false → B) : if b = true then A else B := by
  cases b with
  | true => rw [if_pos rfl]; exact h1 rfl
  | false => rw [if_neg Bool.false_ne_true]; exact h2 rfl
theorem x_dec {A B c : Prop} [Decidable c] (h1 : c → A) (h2 : ¬ c → B) : if decide c = true then A else B := x_ite (fun h => h1 (of_decide_eq_true h)) fun h => h2 (of_decide_eq_false h)
theorem x_decN {A B c : Prop} [Decidable c] (h1 : ¬ c → A) (h2 : c → B) : if (!decide c) = true then A else B := x_ite (fun h => h1 (of_decide_eq_false (by simpa using h))) fun h => h2 (of_decide_eq_true (by simpa using h))
theorem x_sp1 {f : P1} {a : V} {E : XK} (h : f a H Q E) : sp1 f ([a] ++ []) H Q E := ⟨a, rfl, h⟩
theorem x_sp2 {f : P2} {a b : V} {E : XK} (h : f a b H Q E) : sp2 f ([a, b] ++ []) H Q E := ⟨a, b, rfl, h⟩
theorem x_sp3 {f : P3} {a b c : V} {E : XK} (h : f a b c H Q E) : sp3 f ([a, b, c] ++ []) H Q E := ⟨a, b, c, rfl, h⟩
theorem x_sp0 {f : P0} {E : XK} (h : f H Q E) : sp0 f ([] ++ []) H Q E := ⟨rfl, h⟩
/-- an item of a list, a tuple, a text -/
theorem x_ixL {p : Addr} {xs : List V} {n : Int} (hs : H p = some (.lst xs)) (ha : atI xs n = some v) (h : Q v H) : rIx K (.ref p) (.int n) H Q := .inl ⟨p, xs, n, v, rfl, rfl, SqL.of hs, ha, h⟩
theorem x_ixT {p : Addr} {xs : List V} {n : Int} (hs : H p = some (.tup xs)) (ha : atI xs n = some v) (h : Q v H) : rIx K (.ref p) (.int n) H Q := .inr (.inl ⟨p, xs, n, v, rfl, rfl, SqT.of hs, ha, h⟩)
theorem x_ixS {z : Str} {n : Int} {c : Nat} (hz : z.length ≤ sizeLine) (ha : atI z.cps.toList n = some c) (h : Q (.str ⟨#[c]⟩) H) : rIx K (.str z) (.int n) H Q := .inr (.inr ⟨z, n, c, rfl, rfl, hz, ha, h⟩)
theorem x_setL {p : Addr} {xs : List V} {n : Int} {j : Nat} {Qh : Hp → Prop} (hs : H p = some (.lst xs)) (hi : ixN xs.length n = some j) (h : Qh (upd H p (.lst (xs.set j v)))) : rSetL (.ref p) (.int n) v H Qh := ⟨p, xs, n, j, rfl, rfl, hs, hi, h⟩
theorem x_sub {to ti : TE} {set : V → V → V → Hp → (Hp → Prop) → Prop} (h : te σ H fun x H1 => gSub to ti set x σ H1 nx) : tAsg te (gSub to ti set) ⟨nx, rt, bk, ct⟩ σ H := h
end
end SW

namespace SW
open PySem PySem.Spec PyProof.Rows L2

/-! ### a def whose promise wants that no repr is under way (A.guards) -/
structure FnG (P : Program) (w : World) (K : PySem.W.Frag) (mg : Str → Option Value) (base : Heap) (CX : CXT) (k : Nat) (f : Addr) (fd : FuncData) (ps : List Str) (sp : Sp) : Prop where
  len : ∀ vs H Q E, sp vs H Q E → vs.length = ps.length
  run : ∀ (A : Around) (outer : List Env) (s : Shared) (H : Hp) (args : Args) (us : List Value) (vs : List V) (Q : VK) (E : XK), A.guards = some [] → Room k A → Env0 P w K mg base A outer s H → BindsTo s fd args (ps.zip us) → Vals vs us →
    sp vs H Q E → codeAny (model P w) A (.call (.ref f) args) (CR CX outer P w H s Q E) s
structure CalG (P : Program) (w : World) (K : PySem.W.Frag) (mg : Str → Option Value) (base : Heap) (k : Nat) (x : Str) (sp : Sp) (dvs : List V) : Prop where
  ex : ∃ (f : Addr) (fd : FuncData) (ps : List Str) (ds : List Value), FnG P w K mg base (L2.CX P w) k f fd ps sp ∧ mg x = some (.ref f) ∧ PySem.W.keepIn K (.ref f) = true ∧ Binds K fd ps ds ∧ Vals dvs ds
section
variable {X : Cx} {CX : CXT} {k j : Nat} {f C : Addr} {fd : FuncData} {ps : List Str} {sp : Sp} {dvs : List V} {ds : List Value} {E : XK} {x m : Str} {p pos apos : Pos} {e o : Expr} {es : List Expr} {ta : TE} {t : TA}
theorem run_g {pins : List (Addr × Obj)} {σ : L2.St} {H : Hp} {s : Shared} {Q : VK} {us : List Value} {vs : List V} (F : FnG X.prog X.w X.K X.mg X.base CX k f fd ps sp) (hG : X.A.guards = some []) (hr : Room k X.A) (hb : Binds X.K fd ps ds) (hd : Vals dvs ds)
    (hx : Passes CX X E) (I : Inv X pins σ H s) (r : Vals vs us) (h : sp (vs ++ dvs) H Q E) : wpAny (model X.prog X.w) X.A (call (.ref f) us) (EP X pins σ Q) X.xe s := by
  have ra : Vals (vs ++ dvs) (us ++ ds) := r.append hd
  have el : (us ++ ds).length = ps.length := ra.length.symm.trans (F.len _ _ _ _ h)
  refine wpAny_call (codeAny_mono (F.run X.A X.stack s H ⟨us, []⟩ _ _ Q E hG hr I.env0 (hb s us I.kIn el) ra h) ?_)
  intro res s' hq
  match res, hq with
  | .error z, hq => exact hx pins σ H s z s' I hq
  | .ok (.ret u), hq => exact I.after hq
theorem pe_g (c : CalG X.prog X.w X.K X.mg X.base k x sp dvs) (hG : X.A.guards = some []) (hr : Room j X.A) (hk : k ≤ j) (hx : Passes (L2.CX X.prog X.w) X E) (ha : PA X (e :: es) t) (hg : Gl X x := by rfl)
    (hdb : (x == ("__debug__" : Str)) = false := by decide) (he : starEach (e :: es) X.env = (false, eval e X.env) :: starEach es X.env := by rfl) (hpl : (backTo pos (starEach es X.env)).any (·.1) = false := by rfl) :
    PE X (.Call (.Name x p) (e :: es) [] pos) (tCall sp dvs E t) := by
  obtain ⟨f, fd, ps, ds, F, hm, kp, b, d⟩ := c.ex
  constructor
  intro pins s σ H Q I h
  refine wpAny_Call_Name_kw (ld_glob I hg hm ?_ hdb)
  refine PySem.W.callWith_K (h₀ := X.base) I.ok.mod.kin kp (thn (ha.run pos pins s σ H _ I h) ?_) he hpl
  rintro us s1 ⟨vs, H1, I1, r, q⟩
  exact ⟨I1.kIn, run_g F hG (hr.mono hk) b d hx I1 r q⟩
end
section
variable {P : Program} {w : World} {K : PySem.W.Frag} {mg : Str → Option Value} {base : Heap} {x qual : Str} {params : Arguments} {body : List Stmt} {scope : Scope} {dvs : List V} {kws : List (Str × V)} {f : Addr} {fd : FuncData}
/-- the body of such a def: FunD.ok's twin -/
theorem okG {CX : CXT} {N ps : List Str} {k : Nat} {sp : Sp} (F : FunD K x qual params body scope dvs kws f fd) (S : FnScope N ps scope) (len : ∀ vs H Q E, sp vs H Q E → vs.length = ps.length)
    (hbody : ∀ (cdv : Value) (A : Around) (outer : List Env) (s : Shared) (H : Hp) (vs : List V) (Q : VK) (E : XK), A.guards = some [] → Room k (A.deeper (envOfC qual scope s.heap.objs.size f cdv)) → sp vs H Q E →
      ∃ t, PSs (cxOf CX P w K mg base N qual scope f cdv A outer s H E) body t ∧ t { nx := fun _ H' => Q .non H', rt := Q } (start N vs) H) : FnG P w K mg base CX (k + 1) f fd ps sp := by
  obtain ⟨oc, od, dV, kV, doc, pm, an, cdv, ct, osl, rfl, lk, hcd, _, _⟩ := F.ex
  refine ⟨len, fun A outer s H args us vs Q E hG hr e0 hb r hsp => ?_⟩
  have el := len _ _ _ _ hsp
  have keepB : ∀ b o, base.get? b = some o → s.heap.get? b = some o := fun b o e => (e0.bs b o e).1
  have KX : K.In s.heap := e0.mod.kin.keeps keepB
  have par : ∀ y ∈ ps.zip us, scope.names.lookup y.1 = some .local ∨ (scope.names.lookup y.1 = some .cell ∧ ((cellsFrom (s.heap.objs.size + 1) scope.names []).lookup y.1).isSome = true) := by
    rintro ⟨n, v⟩ hy
    refine (S.par n (List.of_mem_zip hy).1).imp id fun q => ⟨q, PySem.W.cellsFrom_some _ _ _ (.inl q)⟩
  apply codeAny_call_function hr.depth (KX _ _ lk) rfl S.co S.gen rfl (PySem.W.codeRec_of KX hcd)
  apply hb
  apply wpAny_newFunctionEnv_cells S.kind par
  rintro env rfl s1 x
  refine ⟨(e0.mod.nolimit.keeps keepB).keeps x.toInCall.keep, codeAny_func ?_⟩
  obtain ⟨t, ht, hq⟩ := hbody cdv A outer s H vs Q E hG (hr.deeper _) hsp
  refine wpAny_mono (ht.run [] s1 (start N vs) H _ (inv_start S hr.hd e0 el r x) hq) ?_ fun _ _ z => z
  intro fl s' hs
  match fl, hs with
  | .ret u, ⟨v, _, H', J, rv, q⟩ => exact ⟨v, H', J.os, J.bare, J.base, J.hok, rv, q⟩
  | .next, ⟨_, H', J, q⟩ => exact ⟨V.non, H', J.os, J.bare, J.base, J.hok, rfl, q⟩
  | .brk, ⟨_, _, _, q⟩ => exact q.elim
  | .cont, ⟨_, _, _, q⟩ => exact q.elim
end
end SW

namespace SW
open PySem PySem.Spec PyProof.Rows L2

/-! ### operators by the values' kinds -/
def rPlus (K : PySem.W.Frag) : R2 := fun x y H Q => match x, y with
  | .int i, .int j => Q (.int (i + j)) H
  | .str a, .str b => a.length + b.length ≤ sizeLine ∧ Q (.str (a ++ b)) H
  | .ref a, .ref b => rCat (.ref a) (.ref b) H Q
  | _, _ => False
def CMulA (i j : Int) : Prop := CMul i j ∨ CMulW i j
def CDivA (i j : Int) : Prop := CDivN i j ∨ (CDivW i j)
section
variable {X : Cx} {σ : L2.St} {H : Hp} {Q : VK} {K : PySem.W.Frag}
theorem op_plus : OpR X (binaryOp .Add) (rPlus X.K) := by
  intro pins s σ H x y v u Q I rx ry h
  match x, y, h with
  | .int i, .int j, h => exact op_add pins s σ H _ _ v u Q I rx ry ⟨i, j, rfl, rfl, h⟩
  | .str a, .str b, h => exact op_add_str pins s σ H _ _ v u Q I rx ry ⟨a, b, rfl, rfl, h.1, h.2⟩
  | .ref a, .ref b, h => exact op_cat pins s σ H _ _ v u Q I rx ry h
theorem op_mulX : OpR X (binaryOp .Mult) (rI CMulA fun i j => .int (i * j)) := by
  intro pins s σ H x y v u Q I rx ry h
  obtain ⟨i, j, rfl, rfl, c | c, q⟩ := h
  · exact op_mul pins s σ H _ _ v u Q I rx ry ⟨i, j, rfl, rfl, c, q⟩
  · exact op_mulW pins s σ H _ _ v u Q I rx ry ⟨i, j, rfl, rfl, c, q⟩
theorem op_fdivX : OpR X (binaryOp .FloorDiv) (rI CDivA fun i j => .int (i.fdiv j)) := by
  intro pins s σ H x y v u Q I rx ry h
  obtain ⟨i, j, rfl, rfl, c | c, q⟩ := h
  · exact op_fdivN pins s σ H _ _ v u Q I rx ry ⟨i, j, rfl, rfl, c, q⟩
  · refine op_fdivW pins s σ H _ _ v u Q I rx ry ⟨i, j, rfl, rfl, c, ?_⟩
    have c1 : 0 < j := c.1
    have q' : Q (.int (i.fdiv j)) H := q
    rw [Int.fdiv_eq_ediv_of_nonneg i (b := j) (by omega)] at q'
    exact q'
theorem x_plusI {a b : Int} (h : Q (.int (a + b)) H) : rPlus K (.int a) (.int b) H Q := h
theorem x_plusS {a b : Str} (hz : a.length + b.length ≤ sizeLine) (h : Q (.str (a ++ b)) H) : rPlus K (.str a) (.str b) H Q := ⟨hz, h⟩
theorem x_plusL {a b : Addr} {xs zs : List V} (ha : H a = some (.lst xs)) (hb : H b = some (.lst zs)) (hz : xs.length + zs.length ≤ sizeLine) (h : ∀ p, H p = none → Q (.ref p) (upd H p (.lst (xs ++ zs)))) : rPlus K (.ref a) (.ref b) H Q :=
  ⟨a, b, xs, zs, rfl, rfl, ha, hb, hz, h⟩
theorem pe_gi {x : Str} {n : Int} {pos : Pos} (h : ∃ t, X.mg x = some (.int n t)) (hg : Gl X x := by rfl) (hd : (x == ("__debug__" : Str)) = false := by decide) : PE X (.Name x pos) (tC (.int n)) := by
  obtain ⟨t, e⟩ := h
  exact pe_glob hg e ⟨t, rfl⟩ hd
theorem pe_gs {x z : Str} {pos : Pos} (h : ∃ t, X.mg x = some (.str z t)) (hg : Gl X x := by rfl) (hd : (x == ("__debug__" : Str)) = false := by decide) : PE X (.Name x pos) (tC (.str z)) := by
  obtain ⟨t, e⟩ := h
  exact pe_glob hg e ⟨t, rfl⟩ hd
theorem hu64 {A : Around} {k : Nat} (hr : Room k A) : A.units + 64 < cLine := hr.units
/-- == of scalars, of data -/
def rEqG (K : PySem.W.Frag) : R2 := fun x y H Q => rEq x y H Q ∨ rEqD K x y H Q
def rNeG (K : PySem.W.Frag) : R2 := fun x y H Q => rNe x y H Q ∨ rNeD K x y H Q
theorem op_eqG (hu : X.A.units + 64 < cLine) : OpR X (compareOp .Eq) (rEqG X.K) := op_eq.or (op_eqD hu)
theorem op_neG (hu : X.A.units + 64 < cLine) : OpR X (compareOp .NotEq) (rNeG X.K) := op_ne.or (op_neD hu)
theorem x_eqGI {a b : Int} (h : Q (.bl (decide (a = b))) H) : rEqG K (.int a) (.int b) H Q := .inl (x_eqI h)
theorem x_neGI {a b : Int} (h : Q (.bl (!decide (a = b))) H) : rNeG K (.int a) (.int b) H Q := .inl (x_neI h)
theorem x_eqGS {a b : Str} (h : Q (.bl (decide (a = b))) H) : rEqG K (.str a) (.str b) H Q := .inl ⟨rfl, by
  have e : decide (V.str a = V.str b) = decide (a = b) := by simp
  rw [e]; exact h⟩
theorem x_neGS {a b : Str} (h : Q (.bl (!decide (a = b))) H) : rNeG K (.str a) (.str b) H Q := .inl ⟨rfl, by
  have e : decide (V.str a = V.str b) = decide (a = b) := by simp
  rw [e]; exact h⟩
theorem x_eqGD {x y : V} {d e : PyData} (hx : Dp K H x d) (hy : Dp K H y e) (sd : SeqAt.shaped d = true) (se : SeqAt.shaped e = true) (h : Q (.bl (PyData.eqv d e)) H) : rEqG K x y H Q := .inr ⟨d, e, hx, hy, sd, se, h⟩
theorem x_neGD {x y : V} {d e : PyData} (hx : Dp K H x d) (hy : Dp K H y e) (sd : SeqAt.shaped d = true) (se : SeqAt.shaped e = true) (h : Q (.bl (!PyData.eqv d e)) H) : rNeG K x y H Q := .inr ⟨d, e, hx, hy, sd, se, h⟩
/-- a slice of a text, a list, a tuple -/
def rSlA (K : PySem.W.Frag) : V → Option Int → Option Int → Hp → VK → Prop := fun x lo hi H Q => rSlS x lo hi H Q ∨ rSlL K x lo hi H Q ∨ rSlT K x lo hi H Q
theorem sl_any : SlR X (rSlA X.K) := sl_str.or (sl_list.or sl_tup)
theorem x_slS {z : Str} {lo hi : Option Int} (hz : z.length ≤ sizeLine) (h : Q (.str (cutS z lo hi)) H) : rSlA K (.str z) lo hi H Q := .inl ⟨z, rfl, hz, h⟩
theorem x_slL {a : Addr} {xs : List V} {lo hi : Option Int} (hs : H a = some (.lst xs)) (h : ∀ p, H p = none → Q (.ref p) (upd H p (.lst (cutV xs lo hi)))) : rSlA K (.ref a) lo hi H Q := .inr (.inl ⟨a, xs, rfl, SqL.of hs, h⟩)
/-- repr of data -/
def rRepr (K : PySem.W.Frag) : List V → Hp → VK → Prop := fun xs H Q => (∃ i, xs = [.int i] ∧ i.natAbs.log2 < 1920 ∧ Q (.str (toString i)) H) ∨
  ∃ (a : Addr) (d : PyData), xs = [.ref a] ∧ Dp K H (.ref a) d ∧ d.showable = true ∧ d.hasDict = false ∧ d.depth ≤ 60 ∧ d.shown.length ≤ sizeLine ∧ Q (.str d.shown) H
theorem call_reprG (hG : X.A.guards = some []) (hu : X.A.units + 64 < cLine) : CallR X (.builtin "repr") (rRepr X.K) := by
  intro pins s σ H xs us Q I r h
  rcases h with ⟨i, rfl, hz, q⟩ | ⟨a, d, rfl, dp, sh, nd, dd, sz, q⟩
  · exact SkE.call_repr_int pins s σ H _ us Q I r ⟨i, rfl, hz, q⟩
  · obtain ⟨u, rfl, ru⟩ := vals1 r
    obtain ⟨as, hr⟩ := Dp.reads I d _ u dp ru
    cases ru
    exact repr_of_reads' hr sh (PyData.noDict_hsm nd) hG (by omega) (fun _ _ e => e) (fun h' t tk k => ⟨.str d.shown, H, I.kept k, ⟨t, rfl⟩, q⟩) sz
theorem x_reprD {a : Addr} {d : PyData} (dp : Dp K H (.ref a) d) (sh : d.showable = true) (nd : d.hasDict = false) (dd : d.depth ≤ 60) (sz : d.shown.length ≤ sizeLine) (h : Q (.str d.shown) H) : rRepr K [.ref a] H Q :=
  .inr ⟨a, d, rfl, dp, sh, nd, dd, sz, h⟩
theorem x_reprI {i : Int} (hz : i.natAbs.log2 < 1920) (h : Q (.str (toString i)) H) : rRepr K [.int i] H Q := .inl ⟨i, rfl, hz, h⟩
/-- in: one sign in a text; a flat thing in a list, a tuple -/
def rInG (K : PySem.W.Frag) : R2 := fun x y H Q => match y with
  | .str z => ∃ c, x = .str ⟨#[c]⟩ ∧ Q (.bl (decide (c ∈ z.cps.toList))) H
  | _ => rIn K false x y H Q
theorem op_inG : OpR X (compareOp .In) (rInG X.K) := by
  intro pins s σ H x y v u Q I rx ry h
  match y, h with
  | .str z, ⟨c, e, q⟩ => exact op_in_sign pins s σ H _ _ v u Q I rx ry ⟨c, z, e, rfl, q⟩
  | .ref a, h => exact op_in_seq pins s σ H _ _ v u Q I rx ry h
  | .non, ⟨_, _, e, _⟩ => cases e
  | .bl _, ⟨_, _, e, _⟩ => cases e
  | .int _, ⟨_, _, e, _⟩ => cases e
  | .byt _, ⟨_, _, e, _⟩ => cases e
  | .flt _, ⟨_, _, e, _⟩ => cases e
  | .ty _, ⟨_, _, e, _⟩ => cases e
theorem x_inGS {c : Nat} {z : Str} (h : Q (.bl (decide (c ∈ z.cps.toList))) H) : rInG K (.str ⟨#[c]⟩) (.str z) H Q := ⟨c, rfl, h⟩
theorem x_modP {a b : Int} (hb : 0 < b) (h : Q (.int (a % b)) H) : rI (fun _ j => j ≠ 0) (fun i j => .int (i.fmod j)) (.int a) (.int b) H Q :=
  ⟨a, b, rfl, rfl, by omega, by show Q (.int (a.fmod b)) H; rw [Int.fmod_eq_emod_of_nonneg a (b := b) (by omega)]; exact h⟩
theorem x_divP {a b : Int} (hb : 0 < b) (hs : b < 1073741824) (h : Q (.int (a / b)) H) : rI CDivA (fun i j => .int (i.fdiv j)) (.int a) (.int b) H Q :=
  ⟨a, b, rfl, rfl, .inl ⟨by omega, by omega⟩, by show Q (.int (a.fdiv b)) H; rw [Int.fdiv_eq_ediv_of_nonneg a (b := b) (by omega)]; exact h⟩
theorem x_mulP {a b : Int} (hs : (-18446744073709551616 < a ∧ a < 18446744073709551616) ∨ (-18446744073709551616 < b ∧ b < 18446744073709551616)) (h : Q (.int (a * b)) H) : rI CMulA (fun i j => .int (i * j)) (.int a) (.int b) H Q :=
  ⟨a, b, rfl, rfl, .inl (by unfold CMul; omega), h⟩
theorem x_powP {a b : Int} (h0 : 0 ≤ b) (h1 : b ≤ 1000) (hs : -18446744073709551616 < a ∧ a < 18446744073709551616) (h : Q (.int (a ^ b.toNat)) H) : rI CPow (fun i j => .int (i ^ j.toNat)) (.int a) (.int b) H Q :=
  ⟨a, b, rfl, rfl, ⟨h0, by omega, by omega⟩, h⟩
/-! ### built-ins by the arguments' kinds -/
def rMax2 : List V → Hp → VK → Prop := fun xs H Q => ∃ i j, xs = [.int i, .int j] ∧ Q (.int (max i j)) H
def rMin2 : List V → Hp → VK → Prop := fun xs H Q => ∃ i j, xs = [.int i, .int j] ∧ Q (.int (min i j)) H
def rAbs : List V → Hp → VK → Prop := fun xs H Q => ∃ i, xs = [.int i] ∧ Q (.int (i.natAbs : Int)) H
def rLenA (K : PySem.W.Frag) : List V → Hp → VK → Prop := fun xs H Q => ∃ x n, xs = [x] ∧ LenV K x H n ∧ Q (.int n) H
theorem call_max2X (hc : X.calm = true) : CallR X (.builtin "max") rMax2 := by
  intro pins s σ H xs us Q I r h
  obtain ⟨i, j, rfl, q⟩ := h
  refine call_max2 hc pins s σ H _ us Q I r ⟨i, j, rfl, ?_⟩
  have e : (if j > i then j else i) = max i j := by omega
  rw [e]; exact q
theorem call_min2X (hc : X.calm = true) : CallR X (.builtin "min") rMin2 := by
  intro pins s σ H xs us Q I r h
  obtain ⟨i, j, rfl, q⟩ := h
  refine call_min2 hc pins s σ H _ us Q I r ⟨i, j, rfl, ?_⟩
  have e : (if j < i then j else i) = min i j := by omega
  rw [e]; exact q
theorem call_absX : CallR X (.builtin "abs") rAbs := by
  intro pins s σ H xs us Q I r h
  obtain ⟨i, rfl, q⟩ := h
  refine call_abs pins s σ H _ us Q I r ⟨i, rfl, ?_⟩
  have e : (if i < 0 then -i else i) = (i.natAbs : Int) := by omega
  rw [e]; exact q
theorem call_lenX : CallR X (.builtin "len") (rLenA X.K) := call_len
theorem x_max2 {i j : Int} (h : Q (.int (max i j)) H) : rMax2 [.int i, .int j] H Q := ⟨i, j, rfl, h⟩
theorem x_min2 {i j : Int} (h : Q (.int (min i j)) H) : rMin2 [.int i, .int j] H Q := ⟨i, j, rfl, h⟩
theorem x_abs {i : Int} (h : Q (.int (i.natAbs : Int)) H) : rAbs [.int i] H Q := ⟨i, rfl, h⟩
theorem x_lenL {p : Addr} {xs : List V} (hs : SqL K H p xs) (h : Q (.int (xs.length : Int)) H) : rLenA K [.ref p] H Q := ⟨_, _, rfl, .inl ⟨_, hs, rfl⟩, h⟩
theorem x_lenT {p : Addr} {xs : List V} (hs : SqT K H p xs) (h : Q (.int (xs.length : Int)) H) : rLenA K [.ref p] H Q := ⟨_, _, rfl, .inr ⟨_, hs, rfl⟩, h⟩
theorem x_lenS {z : Str} (hz : z.length ≤ sizeLine) (h : Q (.int (z.length : Int)) H) : rLenA K [.str z] H Q := ⟨_, _, rfl, ⟨hz, rfl⟩, h⟩
theorem x_ixLS {p : Addr} {xs : List V} {n : Int} {v : V} (hs : SqL K H p xs) (ha : atI xs n = some v) (h : Q v H) : rIx K (.ref p) (.int n) H Q := .inl ⟨p, xs, n, v, rfl, rfl, hs, ha, h⟩
end
theorem x_gSub {to ti : TE} {set : V → V → V → Hp → (Hp → Prop) → Prop} {x : V} {σ : L2.St} {H : Hp} {Q : L2.St → Hp → Prop} (h : to σ H fun o H1 => ti σ H1 fun i H2 => set o i x H2 fun H3 => Q σ H3) : gSub to ti set x σ H Q := h
theorem entry {t : TS} {D : Ends} {σ σ0 : L2.St} {H : Hp} (e : σ = σ0) (h : t D σ0 H) : t D σ H := e ▸ h

/-! ### loops -/
section
variable {σ : L2.St} {H : Hp} {Q : VK} {K : PySem.W.Frag} {D : Ends} {ta : TA} {g : TG} {tb : TS} {te tl : TE} {tt : TT}
/-- n turns from lo on: what holds between them -/
def ForR (lo : Int) (n : Nat) (g : TG) (tb : TS) (D : Ends) (σ : L2.St) (H : Hp) : Prop := ∃ Pv : Nat → L2.St → Hp → Prop, Pv 0 σ H ∧
  (∀ i σ H, i < n → Pv i σ H → g (.int (lo + i)) σ H fun σ2 H2 => tb ⟨Pv (i + 1), D.rt, D.nx, Pv (i + 1)⟩ σ2 H2) ∧ ∀ σ H, Pv n σ H → D.nx σ H
def ForK (J : It) (g : TG) (tb : TS) (D : Ends) (_ : L2.St) (σ : L2.St) (H1 : Hp) : Prop := ∃ W : Nat → Nat → L2.St → Hp → Prop, (∃ m, W 0 m σ H1) ∧ ∀ i m σ H, W i m σ H →
  (J.stop i H ∧ D.nx σ H) ∨ (J.go i H ∧ ∃ N : L2.St → Hp → Prop, (∀ σ' H', N σ' H' → ∃ m', m' < m ∧ W (i + 1) m' σ' H') ∧ ∀ x H', J.yld i H x H' → g x σ H' fun σ2 H2 => tb { D with nx := N, ct := N, bk := D.nx } σ2 H2)
def RngK1 (g : TG) (tb : TS) (D : Ends) (σ : L2.St) (vs : List V) (H1 : Hp) : Prop := ∃ j : Int, vs = [.int j] ∧ -(2 ^ 62) ≤ j ∧ j < 2 ^ 62 ∧ ForK (Itr 0 j.toNat) g tb D σ σ H1
def RngK2 (g : TG) (tb : TS) (D : Ends) (σ : L2.St) (vs : List V) (H1 : Hp) : Prop := ∃ i j : Int, vs = [.int i, .int j] ∧ (-(2 ^ 62) ≤ i ∧ i < 2 ^ 62 ∧ -(2 ^ 62) ≤ j ∧ j < 2 ^ 62) ∧ ForK (Itr i (j - i).toNat) g tb D σ σ H1
theorem x_forR1 (h : ta σ H fun vs H1 => RngK1 g tb D σ vs H1) : tFor (iRng1 ta) g tb D σ H := h
theorem x_forR2 (h : ta σ H fun vs H1 => RngK2 g tb D σ vs H1) : tFor (iRng2 ta) g tb D σ H := h
theorem x_rngK1 {n : Int} (h0 : -1000000 ≤ n ∧ n ≤ 1000000) (h : ForR 0 n.toNat g tb D σ H) : RngK1 g tb D σ [.int n] H := by
  obtain ⟨Pv, p0, ps, pd⟩ := h
  exact ⟨n, rfl, by omega, by omega, for_range (lo := 0) (n := n.toNat) Pv p0 (fun i σ H hi hp => ps i σ H hi hp) pd⟩
theorem x_rngK2 {m n : Int} (h0 : -1000000 ≤ m ∧ m ≤ 1000000 ∧ -1000000 ≤ n ∧ n ≤ 1000000) (h : ForR m (n - m).toNat g tb D σ H) : RngK2 g tb D σ [.int m, .int n] H := by
  obtain ⟨Pv, p0, ps, pd⟩ := h
  exact ⟨m, n, rfl, by omega, for_range (lo := m) (n := (n - m).toNat) Pv p0 (fun i σ H hi hp => ps i σ H hi hp) pd⟩
/-- over a list that stays -/
def ForL (K : PySem.W.Frag) (a : Addr) (xs : List V) (g : TG) (tb : TS) (D : Ends) (σ : L2.St) (H : Hp) : Prop := ∃ Pv : Nat → L2.St → Hp → Prop, Pv 0 σ H ∧ (∀ i σ H, i ≤ xs.length → Pv i σ H → SqL K H a xs) ∧
  (∀ i x σ H, xs[i]? = some x → Pv i σ H → g x σ H fun σ2 H2 => tb ⟨Pv (i + 1), D.rt, D.nx, Pv (i + 1)⟩ σ2 H2) ∧ ∀ σ H, Pv xs.length σ H → D.nx σ H
def LstK (K : PySem.W.Frag) (g : TG) (tb : TS) (D : Ends) (σ : L2.St) (x : V) (H1 : Hp) : Prop := ∃ a, x = .ref a ∧ (∃ xs, SqL K H1 a xs) ∧ ForK (Itl K a) g tb D σ σ H1
theorem x_forL (h : tl σ H fun x H1 => LstK K g tb D σ x H1) : tFor (iList K tl) g tb D σ H := h
theorem x_lstK {a : Addr} {xs : List V} (hs : SqL K H a xs) (h : ForL K a xs g tb D σ H) : LstK K g tb D σ (.ref a) H := by
  obtain ⟨Pv, p0, pl, ps, pd⟩ := h
  exact ⟨a, rfl, ⟨xs, hs⟩, for_list (K := K) (a := a) (xs := xs) Pv p0 pl (fun i x σ H hi hp => ps i x σ H hi hp) pd⟩
theorem x_gName {i : Nat} {v : V} {Qs : L2.St → Hp → Prop} (h : Qs (σ.set i (some v)) H) : gName i v σ H Qs := h
/-- a comprehension: what holds between its turns (d the new list) -/
def LcR (lo : Int) (n : Nat) (g : TG) (tt : TT) (te : TE) (vs : List Nat) (σ : L2.St) (H : Hp) (Q : VK) : Prop := ∀ d, H d = none → ∃ Pv : Nat → Hp → Prop, Pv 0 (upd H d (.lst [])) ∧
  (∀ i H, i < n → Pv i H → g (.int (lo + i)) (wipe σ vs) H fun σ2 H2 => wipe σ2 vs = wipe σ vs ∧ tt σ2 H2 fun b H3 =>
    if b = true then te σ2 H3 fun y H4 => ∃ acc, H4 d = some (.lst acc) ∧ acc.length < sizeLine ∧ Pv (i + 1) (upd H4 d (.lst (acc ++ [y]))) else Pv (i + 1) H3) ∧
  ∀ H, Pv n H → Q (.ref d) H
def LcL (K : PySem.W.Frag) (a : Addr) (xs : List V) (g : TG) (tt : TT) (te : TE) (vs : List Nat) (σ : L2.St) (H : Hp) (Q : VK) : Prop := ∀ d, H d = none → ∃ Pv : Nat → Hp → Prop, Pv 0 (upd H d (.lst [])) ∧ (∀ i H, i ≤ xs.length → Pv i H → SqL K H a xs) ∧
  (∀ i x H, xs[i]? = some x → Pv i H → g x (wipe σ vs) H fun σ2 H2 => wipe σ2 vs = wipe σ vs ∧ tt σ2 H2 fun b H3 =>
    if b = true then te σ2 H3 fun y H4 => ∃ acc, H4 d = some (.lst acc) ∧ acc.length < sizeLine ∧ Pv (i + 1) (upd H4 d (.lst (acc ++ [y]))) else Pv (i + 1) H3) ∧
  ∀ H, Pv xs.length H → Q (.ref d) H
def LcK (J : It) (g : TG) (tt : TT) (te : TE) (vs : List Nat) (σ : L2.St) (Q : VK) (H1 : Hp) : Prop := ∀ D, H1 D = none → ∃ W : Nat → Nat → Hp → Prop, (∃ m, W 0 m (upd H1 D (.lst []))) ∧ ∀ i m H, W i m H →
  (J.stop i H ∧ Q (.ref D) H) ∨ (J.go i H ∧ ∃ Nx : Hp → Prop, (∀ H', Nx H' → ∃ m', m' < m ∧ W (i + 1) m' H') ∧ ∀ x H', J.yld i H x H' → g x (wipe σ vs) H' fun σ2 H2 => wipe σ2 vs = wipe σ vs ∧ tt σ2 H2 fun b H3 =>
    if b = true then te σ2 H3 fun y H4 => ∃ acc, H4 D = some (.lst acc) ∧ acc.length < sizeLine ∧ Nx (upd H4 D (.lst (acc ++ [y]))) else Nx H3)
def LcK1 (g : TG) (tt : TT) (te : TE) (vs : List Nat) (σ : L2.St) (Q : VK) (us : List V) (H1 : Hp) : Prop := ∃ j : Int, us = [.int j] ∧ -(2 ^ 62) ≤ j ∧ j < 2 ^ 62 ∧ LcK (Itr 0 j.toNat) g tt te vs σ Q H1
def LcKL (K : PySem.W.Frag) (g : TG) (tt : TT) (te : TE) (vs : List Nat) (σ : L2.St) (Q : VK) (x : V) (H1 : Hp) : Prop := ∃ a, x = .ref a ∧ (∃ xs, SqL K H1 a xs) ∧ LcK (Itl K a) g tt te vs σ Q H1
theorem x_lcR1 {vs : List Nat} (h : ta σ H fun us H1 => LcK1 g tt te vs σ Q us H1) : tLc (iRng1 ta) g tt te vs σ H Q := h
theorem x_lcL {vs : List Nat} (h : tl σ H fun x H1 => LcKL K g tt te vs σ Q x H1) : tLc (iList K tl) g tt te vs σ H Q := h
theorem x_lcK1 {vs : List Nat} {n : Int} (h0 : -1000000 ≤ n ∧ n ≤ 1000000) (h : LcR 0 n.toNat g tt te vs σ H Q) : LcK1 g tt te vs σ Q [.int n] H := by
  refine ⟨n, rfl, by omega, by omega, fun d hd => ?_⟩
  obtain ⟨Pv, p0, ps, pd⟩ := h d hd
  exact lc_range (lo := 0) (n := n.toNat) Pv p0 ps pd
theorem x_lcKL {vs : List Nat} {a : Addr} {xs : List V} (hs : SqL K H a xs) (h : LcL K a xs g tt te vs σ H Q) : LcKL K g tt te vs σ Q (.ref a) H := by
  refine ⟨a, rfl, ⟨xs, hs⟩, fun d hd => ?_⟩
  obtain ⟨Pv, p0, pl, ps, pd⟩ := h d hd
  exact lc_list (K := K) (a := a) (xs := xs) Pv p0 pl ps pd
/-- over a text, sign by sign -/
def LcS (z : Str) (g : TG) (tt : TT) (te : TE) (vs : List Nat) (σ : L2.St) (H : Hp) (Q : VK) : Prop := ∀ d, H d = none → ∃ Pv : Nat → Hp → Prop, Pv 0 (upd H d (.lst [])) ∧
  (∀ i (c : Nat) H, z.cps.toList[i]? = some c → Pv i H → g (.str ⟨#[c]⟩) (wipe σ vs) H fun σ2 H2 => wipe σ2 vs = wipe σ vs ∧ tt σ2 H2 fun b H3 =>
    if b = true then te σ2 H3 fun y H4 => ∃ acc, H4 d = some (.lst acc) ∧ acc.length < sizeLine ∧ Pv (i + 1) (upd H4 d (.lst (acc ++ [y]))) else Pv (i + 1) H3) ∧
  ∀ H, Pv z.length H → Q (.ref d) H
def StrK (g : TG) (tb : TS) (D : Ends) (σ : L2.St) (x : V) (H1 : Hp) : Prop := ∃ z, x = .str z ∧ ForK (Its z) g tb D σ σ H1
def LcKS (g : TG) (tt : TT) (te : TE) (vs : List Nat) (σ : L2.St) (Q : VK) (x : V) (H1 : Hp) : Prop := ∃ z, x = .str z ∧ LcK (Its z) g tt te vs σ Q H1
def ForS (z : Str) (g : TG) (tb : TS) (D : Ends) (σ : L2.St) (H : Hp) : Prop := ∃ Pv : Nat → L2.St → Hp → Prop, Pv 0 σ H ∧
  (∀ i (c : Nat) σ H, z.cps.toList[i]? = some c → Pv i σ H → g (.str ⟨#[c]⟩) σ H fun σ2 H2 => tb ⟨Pv (i + 1), D.rt, D.nx, Pv (i + 1)⟩ σ2 H2) ∧ ∀ σ H, Pv z.length σ H → D.nx σ H
theorem x_forS (h : tl σ H fun x H1 => StrK g tb D σ x H1) : tFor (iStr tl) g tb D σ H := h
theorem x_lcS {vs : List Nat} (h : tl σ H fun x H1 => LcKS g tt te vs σ Q x H1) : tLc (iStr tl) g tt te vs σ H Q := h
theorem x_strK {z : Str} (h : ForS z g tb D σ H) : StrK g tb D σ (.str z) H := by
  obtain ⟨Pv, p0, ps, pd⟩ := h
  refine ⟨z, rfl, fun i m σ H => m + i = z.cps.size ∧ Pv i σ H, ⟨z.cps.size, by omega, p0⟩, ?_⟩
  rintro i m σ H ⟨em, p⟩
  by_cases hlt : i < z.cps.size
  · refine .inr ⟨hlt, Pv (i + 1), fun σ' H' p' => ⟨m - 1, by omega, by omega, p'⟩, ?_⟩
    rintro x H' ⟨rfl, c, hc, rfl⟩
    exact ps i c σ _ (by simpa using hc) p
  · have e : i = z.length := by show i = z.cps.size; omega
    subst e
    exact .inl ⟨by show z.cps.size ≤ z.cps.size; omega, pd σ H p⟩
theorem x_lcKS {vs : List Nat} {z : Str} (h : LcS z g tt te vs σ H Q) : LcKS g tt te vs σ Q (.str z) H := by
  refine ⟨z, rfl, fun d hd => ?_⟩
  obtain ⟨Pv, p0, ps, pd⟩ := h d hd
  refine ⟨fun i m H => m + i = z.cps.size ∧ Pv i H, ⟨z.cps.size, by omega, p0⟩, ?_⟩
  rintro i m H ⟨em, p⟩
  by_cases hlt : i < z.cps.size
  · refine .inr ⟨hlt, Pv (i + 1), fun H' p' => ⟨m - 1, by omega, by omega, p'⟩, ?_⟩
    rintro x H' ⟨rfl, c, hc, rfl⟩
    exact ps i c _ (by simpa using hc) p
  · have e : i = z.length := by show i = z.cps.size; omega
    subst e
    exact .inl ⟨by show z.cps.size ≤ z.cps.size; omega, pd H p⟩
theorem x_yes {Qb : Bool → Hp → Prop} (h : Qb true H) : tYes σ H Qb := h
end
end SW

namespace SW
open PySem PySem.Spec PyProof.Rows L2

/-! ### heaps: what was tracked stands; all but p stands -/
def Chg (p : Addr) (H H' : Hp) : Prop := ∀ b o, b ≠ p → H b = some o → H' b = some o
theorem Chg.refl {p : Addr} {H : Hp} : Chg p H H := fun _ _ _ e => e
theorem Chg.trans {p : Addr} {H H1 H2 : Hp} (a : Chg p H H1) (b : Chg p H1 H2) : Chg p H H2 := fun c o n e => b c o n (a c o n e)
theorem Same.trans {H H1 H2 : Hp} (a : Same H H1) (b : Same H1 H2) : Same H H2 := fun c o e => b c o (a c o e)
theorem none_of {H H' : Hp} {a : Addr} (s : Same H H') (n : H' a = none) : H a = none := by
  cases h : H a with
  | none => rfl
  | some o => rw [s _ _ h] at n; cases n
theorem sql_keep {K : PySem.W.Frag} {H H' : Hp} {a : Addr} {xs : List V} (h : SqL K H a xs) (s : Same H H') : SqL K H' a xs := by
  rcases h with (h | ⟨o, h⟩) | h
  · exact .inl (.inl (s _ _ h))
  · exact .inl (.inr ⟨o, s _ _ h⟩)
  · exact .inr h
theorem sqt_keep {K : PySem.W.Frag} {H H' : Hp} {a : Addr} {xs : List V} (h : SqT K H a xs) (s : Same H H') : SqT K H' a xs := by
  rcases h with (h | ⟨o, h⟩) | h
  · exact .inl (.inl (s _ _ h))
  · exact .inl (.inr ⟨o, s _ _ h⟩)
  · exact .inr h
theorem Chg.of {p : Addr} {H H' : Hp} (s : Same H H') : Chg p H H' := fun b o _ e => s b o e
theorem Chg.upd {p : Addr} {H : Hp} {o : HO} : Chg p H (upd H p o) := fun b u n e => by rw [upd_ne n]; exact e
/-- the part that stays, behind a change at p -/
theorem stay {p : Addr} {G H H' : Hp} (s : Same G H) (n : G p = none) (c : Chg p H H') : Same G H' := fun b o e => c b o (ne_of_none e n) (s b o e)
theorem same_new {H : Hp} {p : Addr} {o : HO} (n : H p = none) : Same H (upd H p o) := fun b u e => by rw [upd_ne (ne_of_none e n)]; exact e
theorem same_mut {G H : Hp} {p : Addr} {o : HO} (s : Same G H) (n : G p = none) : Same G (upd H p o) := fun b u e => by rw [upd_ne (ne_of_none e n)]; exact s b u e

/-! ### the box: three whole numbers; k draws may still be made -/
def BoxAt (k : Nat) (H : Hp) (p : Addr) : Prop := ∃ x y c : Int, H p = some (.lst [.int x, .int y, .int c]) ∧ 0 ≤ y ∧ y < 2147483629 ∧ 0 ≤ c ∧ c + (k : Int) ≤ 1000000
theorem BoxAt.le {k j : Nat} {H : Hp} {p : Addr} (b : BoxAt k H p) (h : j ≤ k) : BoxAt j H p := by
  obtain ⟨x, y, c, e, h1, h2, h3, h4⟩ := b
  exact ⟨x, y, c, e, h1, h2, h3, by omega⟩
theorem BoxAt.same {k : Nat} {H H' : Hp} {p : Addr} (b : BoxAt k H p) (s : Same H H') : BoxAt k H' p := by
  obtain ⟨x, y, c, e, h⟩ := b
  exact ⟨x, y, c, s _ _ e, h⟩
theorem BoxAt.ex {k : Nat} {H : Hp} {p : Addr} (b : BoxAt k H p) : ∃ o, H p = some o := by
  obtain ⟨x, y, c, e, h⟩ := b
  exact ⟨_, e⟩
theorem BoxAt.upd {k : Nat} {H : Hp} {p q : Addr} {o : HO} (b : BoxAt k H p) (n : H q = none) : BoxAt k (upd H q o) p := b.same (same_new n)

theorem BoxAt.upd_of {k : Nat} {H : Hp} {p q : Addr} {o : HO} (b : BoxAt k H p) (n : q ≠ p) : BoxAt k (L2.upd H q o) p := by
  obtain ⟨x, y, c, e, h⟩ := b
  exact ⟨x, y, c, by rw [L2.upd_ne (Ne.symm n)]; exact e, h⟩
/-- behind: a thing that was new is written -/
theorem Chg.updN {p q : Addr} {H H' : Hp} {o : HO} (c : Chg p H H') (n : H q = none) : Chg p H (L2.upd H' q o) := fun b u e h => by
  rw [L2.upd_ne (ne_of_none h n)]; exact c b u e h
/-! ### promises of the law's helpers -/
def p_law_cell (K : PySem.W.Frag) : P2 := fun a b H Q _ => ∃ (p : Addr) (ns : List Int) (k : Nat), a = .ref p ∧ b = .int (k : Int) ∧ k < 1000 ∧ SqL K H p (ns.map V.int) ∧ ∀ n, Q (.int n) H
def p_law_box : P1 := fun a H Q _ => ∃ n : Int, a = .int n ∧ ∀ p H', H p = none → Same H H' → BoxAt 900000 H' p → Q (.ref p) H'
def p_law_take : P2 := fun a b H Q _ => ∃ (p : Addr) (m : Int) (k : Nat), a = .ref p ∧ b = .int m ∧ 0 < m ∧ m < 1073741824 ∧ BoxAt (k + 1) H p ∧
  ∀ d H', 0 ≤ d → d < m → BoxAt k H' p → Chg p H H' → Q (.int d) H'
def p_law_far : P1 := fun a H Q _ => ∃ (p : Addr) (k : Nat), a = .ref p ∧ BoxAt (k + 20) H p ∧ ∀ n H', n.natAbs < 10 ^ 27 → BoxAt k H' p → Chg p H H' → Q (.int n) H'
theorem take_use {p : Addr} {m : Int} {k : Nat} {H : Hp} {Q : VK} {E : XK} (bx : BoxAt (k + 1) H p) (m0 : 0 < m) (m1 : m < 1073741824) (h : ∀ d H', 0 ≤ d → d < m → BoxAt k H' p → Chg p H H' → Q (.int d) H') : p_law_take (.ref p) (.int m) H Q E :=
  ⟨p, m, k, rfl, rfl, m0, m1, bx, h⟩
theorem far_use {p : Addr} {k : Nat} {H : Hp} {Q : VK} {E : XK} (bx : BoxAt (k + 20) H p) (h : ∀ n H', n.natAbs < 10 ^ 27 → BoxAt k H' p → Chg p H H' → Q (.int n) H') : p_law_far (.ref p) H Q E := ⟨p, k, rfl, bx, h⟩
end SW

namespace SW
open PySem PySem.Spec PyProof.Rows L2

/-! ### exceptions of the program's own classes over ValueError, as values -/
/-- what the written part says of such a class, as one look -/
def oexB (K : PySem.W.Frag) (C : Addr) : Bool := match K.lookup C with
  | some ⟨.type t, _, .cls cd, sl⟩ => decide (t = "type") && (match cd.mro with
    | .ref C' :: bm => decide (C' = C) && PySem.HandSPX.refsVE bm
    | _ => false) && (cd.hasDict && !cd.hasDel) && (match sl.toList with
    | [_, _, _, _, some (.builtin n), _] => decide (n = "ValueError.__new__")
    | _ => false)
  | _ => false
theorem oexB_ok {K : PySem.W.Frag} {C : Addr} (h : oexB K C = true) : ∃ nm q N bs bm sn sub ab col dd k0 k1 k2 k3 k5, K.lookup C = some (excClassObj nm q C N bs bm true sn sub ab col dd k0 k1 k2 k3 k5 "ValueError.__new__") ∧ PySem.HandSPX.refsVE bm = true := by
  unfold oexB at h
  split at h
  · rename_i t dd cd sl e
    obtain ⟨nm, bs, mro, ns, qn, hd, sn, sub, ab, col, del⟩ := cd
    simp only [Bool.and_eq_true, decide_eq_true_eq, Bool.not_eq_true'] at h
    obtain ⟨⟨⟨rfl, h2⟩, rfl, rfl⟩, h4⟩ := h
    split at h2
    · rename_i C' bm
      simp only [Bool.and_eq_true, decide_eq_true_eq] at h2
      obtain ⟨rfl, h2⟩ := h2
      split at h4
      · rename_i k0 k1 k2 k3 n k5 es
        have en : n = "ValueError.__new__" := of_decide_eq_true h4
        subst en
        have esl : sl = #[k0, k1, k2, k3, some (.builtin "ValueError.__new__"), k5] := by
          obtain ⟨l⟩ := sl
          have : l = [k0, k1, k2, k3, some (.builtin "ValueError.__new__"), k5] := es
          rw [this]
        subst esl
        exact ⟨nm, qn, ns, bs, bm, sn, sub, ab, col, dd, k0, k1, k2, k3, k5, e, h2⟩
      · cases h4
    · cases h2
  · cases h
def excB (K : PySem.W.Frag) (C : Addr) : Bool :=
  He.eqO (PySem.W.findIn K (.ref C) "__getattribute__") (some (some (.builtin "BaseException.__getattribute__"))) && (He.eqO (PySem.W.findIn K (.ref C) "__getattr__") (some none) && (decide (PySem.W.subIn K (.ref C) (.type "BaseException") = some true) &&
  (PySem.W.hasDictIn K C && (He.eqO (PySem.W.findIn K (.ref C) "__class__") (some (some (.builtin "object.__class__"))) && (He.eqO (PySem.W.specialIn K (.builtin "object.__class__") "__get__") (some (some (.builtin "getset_descriptor.__get__"))) &&
  (decide (PySem.W.takesIn K (.builtin "object.__class__") = some true) && decide (PySem.W.mroIn K C (.type "object") = some true)))))))
theorem excB_ok {K : PySem.W.Frag} {C : Addr} (h : excB K C = true) : ExcC K C := by
  simp only [excB, Bool.and_eq_true, decide_eq_true_eq] at h
  obtain ⟨h1, h2, h3, h4, h5, h6, h7, h8⟩ := h
  exact ⟨He.eqO_ok h1, He.eqO_ok h2, h3, h4, He.eqO_ok h5, He.eqO_ok h6, h7, h8⟩
def xcB (K : PySem.W.Frag) (C : Addr) : Bool := oexB K C && (excB K C && (He.eqO (PySem.W.findIn K (.ref C) "__setattr__") (some (some (.builtin "object.__setattr__"))) && (decide (PySem.W.typeIn K (.ref C) = some (.type "type")) && PySem.W.keepIn K (.ref C))))
structure XcC (K : PySem.W.Frag) (C : Addr) : Prop where
  o : OexC K C
  x : ExcC K C
theorem xcB_ok {K : PySem.W.Frag} {C : Addr} (h : xcB K C = true) : XcC K C := by
  simp only [xcB, Bool.and_eq_true, decide_eq_true_eq] at h
  obtain ⟨h1, h2, h3, h4, h5⟩ := h
  have e := excB_ok h2
  exact ⟨⟨oexB_ok h1, He.eqO_ok h3, e.hs, h4, h5⟩, e⟩
/-- a def __init__ of a class -/
structure IniC (K : PySem.W.Frag) (C f : Addr) : Prop where
  at_ : PySem.W.findIn K (.ref C) "__init__" = some (some (.ref f))
  ty : PySem.W.typeIn K (.ref f) = some (.type "function")
/-- the class at D, whose __init__ is a built-in's -/
structure BiniC (K : PySem.W.Frag) (D : Addr) (id : String) : Prop where
  rd : ClX.CRead K D (.type "type")
  at_ : PySem.W.findCls K (.ref D) (.type "type") "__init__" = some (.val (.builtin id))

/-- an exception made: at a, of the class at C, its fields in the dict at dx -/
def ExV (H : Hp) (a C : Addr) (fs : List (Str × V)) : Prop := ∃ dx, H a = some (exo a C (some dx)) ∧ H dx = some (exd dx fs)
theorem ExV.same {H H' : Hp} {a C : Addr} {fs : List (Str × V)} (h : ExV H a C fs) (s : Same H H') : ExV H' a C fs := by
  obtain ⟨dx, h1, h2⟩ := h
  exact ⟨dx, s _ _ h1, s _ _ h2⟩

section
variable {X : Cx} {pins : List (Addr × Obj)} {σ : L2.St} {H : Hp} {s : Shared} {e : Expr} {es : List Expr} {ta : TA} {p p1 p2 pos : Pos} {x : Str} {C D fI : Addr} {k j : Nat} {sp : Sp} {dvs : List V}
/-- D.__init__(self, ..), D an own class without __init__ -/
theorem pe_ocinit {pl : Sem Bool} (hm : X.mg x = some (.ref D)) (B : BiniC X.K D "ValueError.__init__") (ha : PA X (e :: es) ta) (hg : Gl X x := by rfl)
    (hc : eval (.Call (.Attribute (.Name x p1) "__init__" p2) (e :: es) [] pos) X.env = (do
      let ov ← eval (.Name x p1) X.env
      standAt p2.atName
      let (f, first) ← holding [ov] (getMethod ov "__init__" pl)
      callWith pos f first (backTo pos (starEach (e :: es) X.env)) (backToKw pos (keywordEach [] X.env))) := by rfl)
    (hdb : (x == ("__debug__" : Str)) = false := by decide)
    (he : starEach (e :: es) X.env = (false, eval e X.env) :: starEach es X.env := by rfl) (hpl : (backTo pos (starEach es X.env)).any (·.1) = false := by rfl) :
    PE X (.Call (.Attribute (.Name x p1) "__init__" p2) (e :: es) [] pos) (tVeI X.K ta) := by
  constructor
  intro pins s σ H Q I h
  refine PySem.W.methodCall_KW (ld_glob I hg hm ?_ hdb) hc
  refine PySem.W.method_cls I.kIn B.rd.ga (PySem.W.cls_value I.kIn B.rd.rd B.at_ rfl ?_)
  show wpAny _ _ (callWith pos (Value.builtin "ValueError.__init__") [] (backTo pos (starEach (e :: es) X.env)) []) _ _ _
  refine PyProof.Rows.callWith_method1 (thn (ha.run pos pins _ σ H _ (I.tok _) h) ?_) he hpl
  rintro us s1 ⟨vs, H1, I1, r1, a, C, ws, rfl, hl, T, ea, q⟩
  cases r1 with
  | @cons _ u0 _ ur ra rw' =>
    obtain rfl : u0 = Value.ref a := ra
    have hlen : ur.length ≤ sizeLine := by
      rw [← Paired.length rw', sizeLine_eq]
      omega
    exact oinit_ok T I1 ea hlen fun s' J => ⟨.non, H1, J, rfl, q⟩
/-- C(e, ..) as a value -/
def tExv (C : Addr) (sp : Sp) (dvs : List V) (ta : TA) : TE := fun σ H Q => ta σ H fun vs H1 => vs.length ≤ 1000 ∧ ∀ a, H1 a = none → sp (.ref a :: (vs ++ dvs)) (upd H1 a (exo a C none)) (fun v H2 => v = .non ∧ Q (.ref a) H2) E0
theorem run_exv {us : List Value} {vs : List V} {Q : VK} {fd : FuncData} {ps : List Str} {ds : List Value} (T : OexC X.K C) (iC : IniC X.K C fI) (F1 : FnOk X.prog X.w X.K X.mg X.base (L2.CX X.prog X.w) k fI fd ps sp) (hr : Room (k + 1) X.A) (hb : Binds X.K fd ps ds) (hd : Vals dvs ds)
    (I1 : Inv X pins σ H s) (r1 : Vals vs us) (hz : vs.length ≤ 1000) (q1 : ∀ a, H a = none → sp (.ref a :: (vs ++ dvs)) (upd H a (exo a C none)) (fun v H2 => v = .non ∧ Q (.ref a) H2) E0) :
    wpAny (model X.prog X.w) X.A (call (.ref C) us) (EP X pins σ Q) X.xe s := by
  obtain ⟨nm, q, N, bs, bm, sn, sub, ab, col, dd, k0, k1, k2, k3, k5, hC, hbm⟩ := T.cls
  obtain ⟨hp, g, dr, tk, os⟩ := s
  have fr : H (hp.objs.size + 1) = none := I1.hok.fresh (Nat.le_succ _)
  have hq := q1 _ fr
  have kk : ∀ b o, hp.get? b = some o → ((hp.push (PySem.W.kdv_tup us)).push (PySem.HandSPX.excO C hp.objs.size)).get? b = some o := fun b o z => Heap.get?_push_of_some _ (Heap.get?_push_of_some _ z)
  have hget : ((hp.push (PySem.W.kdv_tup us)).push (PySem.HandSPX.excO C hp.objs.size)).get? (hp.objs.size + 1) = some (PySem.HandSPX.excO C hp.objs.size) := by heap_get
  have I2 := I1.laid (t' := tk) (a := hp.objs.size + 1) (o := exo (hp.objs.size + 1) C none) (h' := (hp.push (PySem.W.kdv_tup us)).push (PySem.HandSPX.excO C hp.objs.size)) kk (Nat.le_succ _) (exo_ok hget)
  have r2 : Vals (V.ref (hp.objs.size + 1) :: (vs ++ dvs)) (Value.ref (hp.objs.size + 1) :: (us ++ ds)) := .cons rfl (r1.append hd)
  have hl : (Value.ref (hp.objs.size + 1) :: us ++ ds).length = ps.length := r2.length.symm.trans (F1.len _ _ _ _ hq)
  have hus : us.length ≤ sizeLine := by
    rw [← Paired.length r1, sizeLine_eq]
    omega
  refine wpAny_call (PySem.HandSPX.call_own F.excBase_ValueError (fun Y => PySem.HandSPX.refsVE_contains Y bm hbm) (I1.kIn _ _ hC) (PySem.W.looks_findIn I1.kIn iC.at_) (fun self => PySem.W.bind_fn I1.kIn self iC.ty) hus
    (codeAny_mono (F1.run _ X.stack _ _ ⟨Value.ref (hp.objs.size + 1) :: us, []⟩ _ _ _ E0 (hr.make C us []) (I2.env0.make C us []) (hb _ (Value.ref (hp.objs.size + 1) :: us) I2.kIn hl) r2 hq) ?_))
  intro res s' hq'
  match res, hq' with
  | .error er, hq' => exact (passL (X := X) pins σ _ _ er s' I2 hq')
  | .ok (.ret u), hq' =>
    obtain ⟨v, H2, J, rv, rfl, q2⟩ := I2.after hq'
    exact ⟨rv, V.ref (hp.objs.size + 1), H2, J, rfl, q2⟩
theorem pe_exv {fd : FuncData} {ps : List Str} {ds : List Value} (T : XcC X.K C) (iC : IniC X.K C fI) (F1 : FnOk X.prog X.w X.K X.mg X.base (L2.CX X.prog X.w) k fI fd ps sp) (hb : Binds X.K fd ps ds) (hd : Vals dvs ds) (hm : X.mg x = some (.ref C)) (hr : Room j X.A) (hk : k + 1 ≤ j) (ha : PA X (e :: es) ta) (hg : Gl X x := by rfl)
    (hdb : (x == ("__debug__" : Str)) = false := by decide) (he : starEach (e :: es) X.env = (false, eval e X.env) :: starEach es X.env := by rfl) (hpl : (backTo pos (starEach es X.env)).any (·.1) = false := by rfl) :
    PE X (.Call (.Name x p) (e :: es) [] pos) (tExv C sp dvs ta) := by
  constructor
  intro pins s σ H Q I h
  refine wpAny_Call_Name_kw (ld_glob I hg hm ?_ hdb)
  refine PySem.W.callWith_K (h₀ := X.base) I.ok.mod.kin T.o.kC (thn (ha.run pos pins s σ H _ I h) ?_) he hpl
  rintro us s1 ⟨vs, H1, I1, r1, hz, q1⟩
  exact ⟨I1.kIn, run_exv T.o iC F1 (hr.mono hk) hb hd I1 r1 hz q1⟩
end

/-! ### isinstance, of exceptions too -/
inductive TyE (K : PySem.W.Frag) (H : Hp) : V → Value → Prop where
  | x {v : V} {t : Value} (h : TyX K H v t) : TyE K H v t
  | exc {a C : Addr} {fs : List (Str × V)} (e : ExV H a C fs) (c : ExcC K C) : TyE K H (.ref a) (.ref C)
section
variable {X : Cx} {pins : List (Addr × Obj)} {σ : L2.St} {H : Hp} {s : Shared}
theorem kitE_of {x : V} {u t : Value} (I : Inv X pins σ H s) (rx : RelV x u) (ty : TyE X.K H x t) : ∃ P : Heap → Prop, PySem.W.KitX X.K u t P ∧ P s.heap ∧ u ≠ .builtin "__main__.__loader__#opaque" := by
  cases ty with
  | x h => exact kit_of I rx h
  | @exc a C fs e c =>
    cases (show u = Value.ref a from rx)
    obtain ⟨dx, e1, e2⟩ := e
    obtain ⟨t1, ho⟩ := exo_at I.hok e1
    obtain ⟨mA, ⟨od, es, ep, hod, _⟩, _⟩ := exd_at I.hok e2
    have J : PySem.W.InstAt s.heap a { cls := .ref C, dict := some dx, data := .fields #[.ref t1, .none, .none, .none, .bool false, .none] } C (some od) := ⟨ho, rfl, rfl, hod⟩
    have hcl : (PySem.W.clsIn X.K C).isSome = true := by
      have h := c.hd
      unfold PySem.W.hasDictIn at h
      cases hc : PySem.W.clsIn X.K C with
      | none => rw [hc] at h; cases h
      | some _ => rfl
    exact ⟨_, PySem.W.kitx_exc hcl c.hg c.hk c.hs c.ha c.hn c.ht c.hm, J, fun z => nomatch z⟩
/-- isinstance(x, c), one class -/
def rIsX (K : PySem.W.Frag) : List V → Hp → VK → Prop := fun xs H Q => ∃ (x c : V) (t u : Value) (b : Bool), xs = [x, c] ∧ ClsV c u ∧ TyE K H x t ∧ PySem.W.kitOne K t u = some b ∧ Q (.bl b) H
theorem call_isiX : CallR X (.builtin "isinstance") (rIsX X.K) := by
  intro pins s σ H xs us Q I r h
  obtain ⟨x, c, t, u, b, rfl, k, ty, e, q⟩ := h
  obtain ⟨u1, u2, rfl, r1, r2⟩ := vals2 r
  obtain rfl := k.eq r2
  obtain ⟨P, Z, p, hx⟩ := kitE_of I r1 ty
  exact PySem.W.kia_one Z I.kIn p e hx fun tk => ⟨.bl b, H, I.tok tk, rfl, q⟩
end
end SW

namespace SW
open PySem PySem.Spec PyProof.Rows L2

/-! ### own exceptions with their promises -/
structure ExcX (P : Program) (w : World) (K : PySem.W.Frag) (mg : Str → Option Value) (base : Heap) (k : Nat) (x : Str) (C : Addr) (sp : Sp) (dvs : List V) : Prop where
  ex : ∃ (f : Addr) (fd : FuncData) (ps : List Str) (ds : List Value), XcC K C ∧ IniC K C f ∧ FnOk P w K mg base (L2.CX P w) k f fd ps sp ∧ mg x = some (.ref C) ∧ Binds K fd ps ds ∧ Vals dvs ds
section
variable {X : Cx} {k j : Nat} {C : Addr} {x : Str} {sp : Sp} {dvs : List V} {p pos : Pos} {e : Expr} {es : List Expr} {t : TA}
theorem pe_exx (c : ExcX X.prog X.w X.K X.mg X.base k x C sp dvs) (hr : Room j X.A) (hk : k + 1 ≤ j) (ha : PA X (e :: es) t) (hg : Gl X x := by rfl)
    (hdb : (x == ("__debug__" : Str)) = false := by decide) (he : starEach (e :: es) X.env = (false, eval e X.env) :: starEach es X.env := by rfl) (hpl : (backTo pos (starEach es X.env)).any (·.1) = false := by rfl) :
    PE X (.Call (.Name x p) (e :: es) [] pos) (tExv C sp dvs t) := by
  obtain ⟨f, fd, ps, ds, T, I, F, hm, b, d⟩ := c.ex
  exact pe_exv T I F b d hm hr hk ha hg hdb he hpl
end

/-! ### texts' methods, order, str(int) -/
def rLtS : R2 := fun x y H Q => ∃ i j, x = .str i ∧ y = .str j ∧ Q (.bl (decide (i.cps.toList < j.cps.toList))) H
def rLeS : R2 := fun x y H Q => ∃ i j, x = .str i ∧ y = .str j ∧ Q (.bl (!decide (j.cps.toList < i.cps.toList))) H
def rGtS : R2 := fun x y H Q => ∃ i j, x = .str i ∧ y = .str j ∧ Q (.bl (decide (j.cps.toList < i.cps.toList))) H
def rGeS : R2 := fun x y H Q => ∃ i j, x = .str i ∧ y = .str j ∧ Q (.bl (!decide (i.cps.toList < j.cps.toList))) H
def rStr : List V → Hp → VK → Prop := fun xs H Q => (∃ i, xs = [.int i] ∧ i.natAbs.log2 < 1920 ∧ Q (.str (toString i)) H) ∨ ∃ a, xs = [.str a] ∧ Q (.str a) H
def rJoin (K : PySem.W.Frag) : V → List V → Hp → VK → Prop := fun x xs H Q => ∃ a p, ∃ ys : List Str, x = .str a ∧ xs = [.ref p] ∧ (SqL K H p (ys.map V.str) ∨ SqT K H p (ys.map V.str)) ∧
      (ys.map (·.length)).sum + ys.length * a.length ≤ 16777216 ∧ Q (.str (Txt.join a ys)) H
section
variable {X : Cx} {σ : L2.St} {H : Hp} {Q : VK} {K : PySem.W.Frag} {to te : TE} {o e : Expr} {apos pos : Pos}
theorem op_ltS : OpR X (compareOp .Lt) rLtS := op_lt_str
theorem op_leS : OpR X (compareOp .LtE) rLeS := op_le_str
theorem op_gtS : OpR X (compareOp .Gt) rGtS := op_gt_str
theorem op_geS : OpR X (compareOp .GtE) rGeS := op_ge_str
theorem x_ltS {a b : Str} (h : Q (.bl (decide (a.cps.toList < b.cps.toList))) H) : rLtS (.str a) (.str b) H Q := ⟨a, b, rfl, rfl, h⟩
theorem x_leS {a b : Str} (h : Q (.bl (!decide (b.cps.toList < a.cps.toList))) H) : rLeS (.str a) (.str b) H Q := ⟨a, b, rfl, rfl, h⟩
theorem x_gtS {a b : Str} (h : Q (.bl (decide (b.cps.toList < a.cps.toList))) H) : rGtS (.str a) (.str b) H Q := ⟨a, b, rfl, rfl, h⟩
theorem x_geS {a b : Str} (h : Q (.bl (!decide (a.cps.toList < b.cps.toList))) H) : rGeS (.str a) (.str b) H Q := ⟨a, b, rfl, rfl, h⟩
theorem call_strX : CallR X (.type "str") rStr := by
  intro pins s σ H xs us Q I r h
  rcases h with h | h
  · exact call_str_int pins s σ H xs us Q I r h
  · exact SkE.call_str_str pins s σ H xs us Q I r h
theorem x_strI {i : Int} (hz : i.natAbs.log2 < 1920) (h : Q (.str (toString i)) H) : rStr [.int i] H Q := .inl ⟨i, rfl, hz, h⟩
theorem x_strS {a : Str} (h : Q (.str a) H) : rStr [.str a] H Q := .inr ⟨a, rfl, h⟩
theorem x_m1 {r : V → List V → Hp → VK → Prop} (h : to σ H fun x H1 => (∃ a, x = .str a) ∧ te σ H1 fun y H2 => r x [y] H2 Q) : tM1 r to te σ H Q := h
theorem x_isStr {z : Str} {P : Prop} (h : P) : (∃ a, V.str z = .str a) ∧ P := ⟨⟨z, rfl⟩, h⟩
theorem pe_joinX (ho : PE X o to) (he : PE X e te) (hs : starEach [e] X.env = [(false, eval e X.env)] := by rfl) (hbase : attributeBase o "join" X.env (eval o X.env) = eval o X.env := by rfl) (hline : (apos.endLine == pos.line) = true := by rfl) :
    PE X (.Call (.Attribute o "join" apos) [e] [] pos) (tM1 (rJoin X.K) to te) := pe_join ho he hs hbase hline
theorem x_joinL {a : Str} {p : Addr} {ys : List Str} (hs : SqL K H p (ys.map V.str)) (hz : (ys.map (·.length)).sum + ys.length * a.length ≤ 16777216) (h : Q (.str (Txt.join a ys)) H) : rJoin K (.str a) [.ref p] H Q :=
  ⟨a, p, ys, rfl, rfl, .inl hs, hz, h⟩
theorem x_callTy {rc : List V → Hp → VK → Prop} {tr : TA} (h : tr σ H fun vs H1 => rc vs H1 Q) : tCB rc tr σ H Q := h
theorem x_all {a : Addr} {bs : List Bool} (hs : SqL K H a (bs.map V.bl)) (h : Q (.bl (bs.all id)) H) : rAll K [.ref a] H Q := ⟨a, bs, rfl, hs, h⟩
theorem x_any {a : Addr} {bs : List Bool} (hs : SqL K H a (bs.map V.bl)) (h : Q (.bl (bs.any id)) H) : rAny K [.ref a] H Q := ⟨a, bs, rfl, hs, h⟩
/-! ### exceptions -/
theorem x_exv {C : Addr} {sp : Sp} {dvs : List V} {ta : TA} (h : ta σ H fun vs H1 => vs.length ≤ 1000 ∧ ∀ a, H1 a = none → sp (.ref a :: (vs ++ dvs)) (upd H1 a (exo a C none)) (fun v H2 => v = .non ∧ Q (.ref a) H2) E0) : tExv C sp dvs ta σ H Q := h
theorem x_small {xs : List V} {P : Prop} (hz : xs.length ≤ 1000) (h : P) : xs.length ≤ 1000 ∧ P := ⟨hz, h⟩
end

/-! ### isinstance -/
/-- of the types that a value's isinstance is asked for: none of int, bool, str -/
def offB (K : PySem.W.Frag) (t : Value) (n : String) : Bool := decide (PySem.W.kitOne K t (.type n) = some false)
/-- none of these built-in kinds -/
def noneOf (K : PySem.W.Frag) (t : Value) (ns : List String) : Prop := ∀ n ∈ ns, PySem.W.kitOne K t (.type n) = some false
def kinds3 : List String := ["int", "bool", "str"]
/-- a value of another kind than these -/
def Odd (K : PySem.W.Frag) (ns : List String) (H : Hp) (v : V) : Prop := ∃ t, TyE K H v t ∧ noneOf K t ns
theorem noneOf_ty {K : PySem.W.Frag} {a : String} {ns : List String} (h : (ns.all fun n => decide (kitB a n = some false)) = true) : noneOf K (.type a) ns := fun n hn =>
  kit_ty (of_decide_eq_true (List.all_eq_true.mp h n hn))
section
variable {K : PySem.W.Frag} {H H' : Hp} {Q : VK} {v : V}
theorem x_odd {ns : List String} {n : String} (o : Odd K ns H v) (hn : n ∈ ns) (h : Q (.bl false) H) : rIsX K [v, .ty n] H Q := by
  obtain ⟨t, ty, no⟩ := o
  exact ⟨v, .ty n, t, .type n, false, rfl, .ty n, ty, no n hn, h⟩
theorem x_isi {t : String} {n : String} {b : Bool} (ty : TyE K H v (.type t)) (e : kitB t n = some b) (h : Q (.bl b) H) : rIsX K [v, .ty n] H Q := ⟨v, .ty n, .type t, .type n, b, rfl, .ty n, ty, kit_ty e, h⟩
theorem ty_int (i : Int) : TyE K H (.int i) (.type "int") := .x (.base (.int i))
theorem ty_str (z : Str) : TyE K H (.str z) (.type "str") := .x (.base (.str z))
theorem ty_bl (b : Bool) : TyE K H (.bl b) (.type "bool") := .x (.base (.bl b))
theorem ty_non : TyE K H .non (.type "NoneType") := .x (.base .non)
theorem Odd.keep {ns : List String} {G : Hp} (o : Odd K ns G v) (s : Same G H) : Odd K ns H v := by
  obtain ⟨t, ty, no⟩ := o
  refine ⟨t, ?_, no⟩
  cases ty with
  | exc e c => exact .exc (e.same s) c
  | x h => cases h with
    | byt b => exact .x (.byt b)
    | set e => exact .x (.set (s _ _ e))
    | kList e c => exact .x (.kList e c)
    | kTuple e c => exact .x (.kTuple e c)
    | kDict e c => exact .x (.kDict e c)
    | fTuple e => exact .x (.fTuple (s _ _ e))
    | fDict e => exact .x (.fDict (s _ _ e))
    | base h => cases h with
      | non => exact ty_non
      | bl b => exact ty_bl b
      | int i => exact ty_int i
      | str z => exact ty_str z
      | flt f => exact .x (.base (.flt f))
      | lst e => exact .x (.base (.lst (s _ _ e)))
      | frz e => exact .x (.base (.frz (s _ _ e)))
      | tup e => exact .x (.base (.tup (s _ _ e)))
      | dK e => exact .x (.base (.dK (s _ _ e)))
      | dT e => exact .x (.base (.dT (s _ _ e)))
      | ins e cl ha hn htk hm => exact .x (.base (.ins (s _ _ e) cl ha hn htk hm))
end
end SW

namespace SW
open PySem PySem.Spec PyProof.Rows L2

/-! ### the head's Hook: facts as one Bool of the written part -/
def asX (g : Addr → Option Obj) : Nat → List Addr
  | 0 => [mainGlobals, PySem.cStatics]
  | n + 1 => He.growD g (asX g n)
def obsX (fb : PySem.W.Frag → Bool) (fn : List He.DefD) (K : PySem.W.Frag) : He.AlD := (fb K && fn.all fun d => d.ok K, fn.map fun d => He.fnW K d.at_)
def SaysX (fb : PySem.W.Frag → Bool) (fn : List He.DefD) (K : PySem.W.Frag) : Prop := obsX fb fn K = He.valD fn
def obsXG (n : Nat) (fb : PySem.W.Frag → Bool) (fn : List He.DefD) (g : Addr → Option Obj) : He.AlD := obsX fb fn (He.frG g (asX g n))
def hookX (n : Nat) (fb : PySem.W.Frag → Bool) (fn : List He.DefD) : PySem.W.Hook where
  α := He.AlD
  obs := fun s => obsXG n fb fn s.heap.get?
  val := fun _ => He.valD fn
  says := fun _ h => ∃ K : PySem.W.Frag, K.In h ∧ SaysX fb fn K
  of := fun _ _ e => ⟨_, He.frG_in, e⟩
  keeps := fun _ _ _ ⟨K, hK, c⟩ k => ⟨K, PySem.W.Frag.In.keeps hK k, c⟩
theorem obsXG_eq {n : Nat} {fb : PySem.W.Frag → Bool} {fn : List He.DefD} {g : Addr → Option Obj} {s : Shared} (h : ∀ a, g a = s.heap.get? a) : obsXG n fb fn g = (hookX n fb fn).obs s := by
  have e : g = s.heap.get? := funext h
  rw [e] <;> rfl
section
variable {fb : PySem.W.Frag → Bool} {fn : List He.DefD} {K : PySem.W.Frag}
theorem SaysX.facts (c : SaysX fb fn K) : fb K = true := (He.ba (show (fb K && fn.all fun d => d.ok K) = true from congrArg (fun z : He.AlD => z.1) c)).1
theorem SaysX.def_ (c : SaysX fb fn K) (i : Nat) {d : He.DefD} (h : fn[i]? = some d := by rfl) : ∃ fd, FunD K d.name d.qual d.params d.body d.scope (d.dvs K) (d.kws K) (He.fAd K d.at_) fd := by
  have c2 := (He.ba (show (fb K && fn.all fun d => d.ok K) = true from congrArg (fun z : He.AlD => z.1) c)).2
  have e : fn.map (fun d => He.fnW K d.at_) = fn.map He.DefD.val := congrArg (fun z : He.AlD => z.2) c
  have e2 : (fn.map fun d => He.fnW K d.at_)[i]? = (fn.map He.DefD.val)[i]? := by rw [e]
  rw [List.getElem?_map, List.getElem?_map, h] at e2
  exact He.DefD.funD (Option.some.inj e2) (List.all_eq_true.mp c2 d (List.mem_of_getElem? h))
end
/-- a list of facts -/
def allB (fs : List (PySem.W.Frag → Bool)) (K : PySem.W.Frag) : Bool := fs.all fun f => f K
theorem allB_at {fs : List (PySem.W.Frag → Bool)} {K : PySem.W.Frag} (c : allB fs K = true) (i : Nat) {f : PySem.W.Frag → Bool} (h : fs[i]? = some f := by rfl) : f K = true :=
  List.all_eq_true.mp c f (List.mem_of_getElem? h)
def iniB (K : PySem.W.Frag) (C f : Addr) : Bool := He.eqO (PySem.W.findIn K (.ref C) "__init__") (some (some (.ref f))) && decide (PySem.W.typeIn K (.ref f) = some (.type "function"))
theorem iniB_ok {K : PySem.W.Frag} {C f : Addr} (h : iniB K C f = true) : IniC K C f := by
  obtain ⟨h1, h2⟩ := He.ba h
  exact ⟨He.eqO_ok h1, of_decide_eq_true h2⟩
def biniB (K : PySem.W.Frag) (D : Addr) (id : String) : Bool := PySem.W.readsIn K D (.type "type") && (He.eqO (PySem.W.specialIn K (.ref D) "__getattribute__") (some (some (.builtin "type.__getattribute__"))) &&
  (match PySem.W.findCls K (.ref D) (.type "type") "__init__" with
    | some (.val (.builtin n)) => decide (n = id)
    | _ => false))
theorem biniB_ok {K : PySem.W.Frag} {D : Addr} {id : String} (h : biniB K D id = true) : BiniC K D id := by
  obtain ⟨h1, h2⟩ := He.ba h
  obtain ⟨h2, h3⟩ := He.ba h2
  refine ⟨⟨h1, He.eqO_ok h2⟩, ?_⟩
  split at h3
  · rename_i n e
    have e2 : n = id := of_decide_eq_true h3
    rw [← e2]; exact e
  · cases h3
def offsB (K : PySem.W.Frag) (C : Addr) (ns : List String) : Bool := ns.all fun n => decide (PySem.W.kitOne K (.ref C) (.type n) = some false)
theorem offsB_ok {K : PySem.W.Frag} {C : Addr} {ns : List String} (h : offsB K C ns = true) : noneOf K (.ref C) ns := fun n hn => of_decide_eq_true (List.all_eq_true.mp h n hn)

/-! ### a law's end, its def's promise wanting that no repr is under way -/
theorem law_endG {P : Program} {w : World} {K : PySem.W.Frag} {mg mb : Str → Option Value} {k : Nat} {fa a : Addr} {fd : FuncData} {x : Str} {sp : Sp} {s₁ : Shared} {vs : List Value} {ns : List Int}
    (KX : K.In s₁.heap) (hns : s₁.heap.Ns mainGlobals mg) (hb : s₁.heap.Ns builtinsNs mb) (hbb : ∀ x : Str, x ≠ "__name__" → mb x = bootBuiltins x) (hlim : s₁.heap.NoLimit) (hg : s₁.gens = #[])
    (ha : s₁.heap.get? a = some { cls := .type "list", data := .seq vs.toArray }) (hi : IntsAre vs ns) (hl : ns.length ≤ sizeLine) (hr : Room k callerA)
    (F : ∀ base : Heap, K.In base → base.Ns mainGlobals mg → FnG P w K mg base (L2.CX P w) k fa fd [x] sp) (hbind : ∀ (s : Shared) (u : Value), BindsTo s fd ⟨[u], []⟩ [(x, u)])
    (hsp : ∀ H : Hp, L2.Only H → SqL K H a (ns.map V.int) → sp [.ref a] H (fun v _ => v = .bl true) fun _ _ _ => False)
    (hCX : ∀ H e s', L2.CX P w [] H s₁ (fun _ _ _ => False) e s' → False) :
    codeAny (model P w) callerA (.call (.ref fa) ⟨[.ref a], []⟩) (fun r s' => r = .ok (.ret (.bool true)) ∧ OldK s₁.heap s'.heap ∧ s'.os = s₁.os ∧ AllBare s'.gens) s₁ := by
  have rv := vals_ints hi
  have lenV := hi.length
  /- the script is tracked (o = true) or it is one of the module's own objects -/
  have main : ∀ H : Hp, (∀ b, H b = none ∨ (b = a ∧ K.lookup a = none ∧ ∃ o xs, H b = some (.frz o (.lst xs)))) → SqL K H a (ns.map V.int) → HOk P w H s₁.heap →
      codeAny (model P w) callerA (.call (.ref fa) ⟨[.ref a], []⟩) (fun r s' => r = .ok (.ret (.bool true)) ∧ OldK s₁.heap s'.heap ∧ s'.os = s₁.os ∧ AllBare s'.gens) s₁ := by
    intro H only sq hok
    have off : ∀ {b : Addr} {o : Obj}, s₁.heap.get? b = some o → (∀ es ep, o.data = .dict es ep → H b = none) := fun {b o} e es ep d => by
      rcases only b with z | ⟨rfl, _, _⟩
      · exact z
      · rw [ha] at e
        cases e
        cases (show Data.seq vs.toArray _ = Data.dict es ep from d)
    have nsB : ∀ {b : Addr} {m : Str → Option Value}, s₁.heap.Ns b m → (hidT s₁.heap H).Ns b m := fun {b m} ⟨o, es, ep, e, d, r⟩ => ⟨o, es, ep, hidT_get e (off e es ep d), d, r⟩
    have kB : K.In (hidT s₁.heap H) := fun b o e => hidT_get (KX b o e) (by
      rcases only b with z | ⟨rfl, z, _⟩
      · exact z
      · rw [z] at e; cases e)
    obtain ⟨mc, c1, c2⟩ := hlim
    have e0 : Env0 P w K mg (hidT s₁.heap H) callerA [] s₁ H :=
      ⟨rfl, ⟨kB, nsB hns, ⟨mb, nsB hb, hbb⟩, mc, nsB c1, c2⟩, fun b o e => of_hidT e, Nat.le_of_eq (hidT_size _ _), trivial, fun b hb => absurd hb (by simp [frs]), hok, .of_eq hg⟩
    have oH : L2.Only H := fun b => by
      rcases only b with z | ⟨_, _, z⟩
      · exact .inl z
      · exact .inr z
    refine codeAny_mono ((F _ kB (nsB hns)).run callerA [] s₁ H ⟨[.ref a], []⟩ [.ref a] [.ref a] _ _ rfl hr e0 (hbind s₁ (.ref a)) (.cons rfl .nil) (hsp H oH sq)) fun r s' h => ?_
    match r, h with
    | .error e, h => exact (hCX H e s' h).elim
    | .ok (.ret u), ⟨v, H', os, bare, un, hok', r', q⟩ =>
      subst q
      obtain rfl : u = Value.bool true := r'
      refine ⟨rfl, OldK.of_keep fun b o e => ?_, os, bare⟩
      rcases only b with z | ⟨_, _, ob, xs, z⟩
      · exact un.keep b o e z (by simp [frs]) (by simp)
      · obtain ⟨e1, _⟩ := hok b _ z
        obtain ⟨e2, _⟩ := hok' b _ (un.frzs b ob _ z)
        rw [e] at e1
        cases e1
        exact e2
  cases hk : K.lookup a with
  | some o =>
    have e := KX a o hk
    rw [ha] at e
    cases e
    exact main (fun _ => none) (fun _ => .inl rfl) (.inr ⟨_, vs.toArray, _, hk, rfl, rfl, rfl, by rw [List.size_toArray, lenV]; exact hl, by simpa using rv⟩) (fun b u z => by cases z)
  | none =>
    have at_ : ∀ b u, upd (fun _ => none) a (.frz { cls := .type "list", data := .seq vs.toArray } (.lst (ns.map V.int))) b = some u → b = a ∧ u = .frz { cls := .type "list", data := .seq vs.toArray } (.lst (ns.map V.int)) := fun b u z => by
      by_cases hb : b = a
      · subst hb
        rw [upd_same] at z
        cases z
        exact ⟨rfl, rfl⟩
      · rw [upd_ne hb] at z
        cases z
    refine main (upd (fun _ => none) a (.frz { cls := .type "list", data := .seq vs.toArray } (.lst (ns.map V.int)))) (fun b => ?_) (.inl (.inr ⟨_, upd_same⟩)) (fun b u z => ?_)
    · by_cases hb : b = a
      · subst hb
        exact .inr ⟨rfl, hk, _, _, upd_same⟩
      · exact .inl (upd_ne hb)
    · obtain ⟨rfl, rfl⟩ := at_ b u z
      exact ⟨ha, by rw [List.length_map]; exact hl, vs, _, rv, ha⟩
/-- the same as a row's end -/
theorem walk_endG {l : PySem.W.OpenLaw} {n k : Nat} {q : Program} {loose : List Str} {XP : (Str → Option Value) → Heap → Prop} {YP : World → Heap → Prop} {d : DefRec} {x : Str}
    (hn : l.most = some n) (hn2 : n ≤ sizeLine) (hdf : d.params.defaults = []) (hr : Room k callerA)
    (F : ∀ (w : World) (mg : Str → Option Value) (fa : Addr) (h : Heap), YP w h → h.Ns mainGlobals mg → mg d.name = some (.ref fa) →
      ∃ (K : PySem.W.Frag) (fd : FuncData) (sp : Sp), K.In h ∧ (∀ (s : Shared) (u : Value), BindsTo s fd ⟨[u], []⟩ [(x, u)]) ∧
        (∀ (H : Hp) (a : Addr) (ns : List Int), ns.length ≤ n → L2.Only H → SqL K H a (ns.map V.int) → sp [.ref a] H (fun v _ => v = .bl true) fun _ _ _ => False) ∧
        ∀ base : Heap, K.In base → base.Ns mainGlobals mg → FnG l.prog w K mg base (L2.CX l.prog w) k fa fd [x] sp)
    (hCX : ∀ (w : World) (H : Hp) (s : Shared) (e : Value) (s' : Shared), L2.CX l.prog w [] H s (fun _ _ _ => False) e s' → False) :
    PySem.W.WalkO q loose XP YP l.row.toRowW d [] (fun f vs => PySem.call f vs) := by
  refine Att.attach_call hn hdf fun w s₀ s₁ mg mb fa o pm cd doc a vs ns G Y ho hd hcd hmg hobj hints hlen hg => ?_
  obtain ⟨K, fd, sp, KX, hb, hsp, hF⟩ := F w mg fa _ Y G.T.g hmg
  exact law_endG KX G.T.g G.T.b G.T.builtins G.T.nolimit hg hobj hints (Nat.le_trans hlen hn2) hr hF hb (fun H hO hS => hsp H a ns hlen hO hS) fun H e s' => hCX w H s₁ e s'
end SW

namespace SW
open PySem PySem.Spec PyProof.Rows L2

theorem noCX {P : Program} (w : World) (H : Hp) (s : Shared) (e : Value) (s' : Shared) (h : L2.CX P w [] H s (fun _ _ _ => False) e s') : False := by
  obtain ⟨_, _, _, _, _, _, _, _, _, _, _, _, z⟩ := h
  exact z
/-- what a law's def promises: True of every script -/
def p_law (K : PySem.W.Frag) : P1 := fun a H Q _ => ∃ (p : Addr) (ns : List Int), a = .ref p ∧ ns.length ≤ 63 ∧ SqL K H p (ns.map V.int) ∧ ∀ H', Q (.bl true) H'
/-- C.__init__ of an exception that keeps one thing, f -/
def p_xini (C : Addr) (f : Str) : P2 := fun a b H Q _ => ∃ e, a = .ref e ∧ H e = some (exo e C none) ∧ ∀ H', ExV H' e C [(f, b)] → Chg e H H' → Q .non H'
section
variable {σ : L2.St} {H : Hp} {Q : VK} {K : PySem.W.Frag} {nx bk ct : L2.St → Hp → Prop} {rt : VK} {ta : TA} {te to : TE} {f : Str} {e C : Addr} {y : V} {ws : List V}
theorem x_veI (h : ta σ H fun vs H1 => ∃ (a C : Addr) (ws : List V), vs = .ref a :: ws ∧ ws.length ≤ 1000 ∧ OexC K C ∧ H1 a = some (exo a C none) ∧ Q .non H1) : tVeI K ta σ H Q := h
theorem x_ost (h : te σ H fun y H1 => to σ H1 fun x H2 => ∃ a C : Addr, x = .ref a ∧ OexC K C ∧ PySem.W.findIn K (.ref C) f = some none ∧
  ((H2 a = some (exo a C none) ∧ ∀ dx, H2 dx = none → dx ≠ a → nx σ (upd (upd H2 dx (exd dx [(f, y)])) a (exo a C (some dx)))) ∨
    ∃ (dx : Addr) (fs : List (Str × V)), H2 a = some (exo a C (some dx)) ∧ H2 dx = some (exd dx fs) ∧ fs.length ≤ 900 ∧ nx σ (upd H2 dx (exd dx ((f, y) :: fs))))) : tOst K f to te ⟨nx, rt, bk, ct⟩ σ H := h
theorem veI1 {P : Prop} (T : OexC K C) (hz : ws.length ≤ 1000) (he : H e = some (exo e C none)) (h : P) : ∃ (a C : Addr) (us : List V), (V.ref e :: ws) = .ref a :: us ∧ us.length ≤ 1000 ∧ OexC K C ∧ H a = some (exo a C none) ∧ P :=
  ⟨e, C, ws, rfl, hz, T, he, h⟩
/-- the end of such an __init__ -/
theorem ost1 {D : Hp → Prop} (T : OexC K C) (nf : PySem.W.findIn K (.ref C) f = some none) (he : H e = some (exo e C none)) (h : ∀ H', ExV H' e C [(f, y)] → Chg e H H' → D H') :
    ∃ a C : Addr, V.ref e = .ref a ∧ OexC K C ∧ PySem.W.findIn K (.ref C) f = some none ∧
  ((H a = some (exo a C none) ∧ ∀ dx, H dx = none → dx ≠ a → D (upd (upd H dx (exd dx [(f, y)])) a (exo a C (some dx)))) ∨
    ∃ (dx : Addr) (fs : List (Str × V)), H a = some (exo a C (some dx)) ∧ H dx = some (exd dx fs) ∧ fs.length ≤ 900 ∧ D (upd H dx (exd dx ((f, y) :: fs)))) :=
  ⟨e, C, rfl, T, nf, .inl ⟨he, fun dx hd hne => h _ ⟨dx, upd_same, by rw [upd_ne hne]; exact upd_same⟩ fun b o n q => by rw [upd_ne n, upd_ne (ne_of_none q hd)]; exact q⟩⟩
/-- an exception made: what stays -/
theorem Chg.made {H1 H' : Hp} {o : HO} (n : H1 e = none) (c : Chg e (L2.upd H1 e o) H') : Same H1 H' := fun b u q => c b u (ne_of_none q n) (by rw [L2.upd_ne (ne_of_none q n)]; exact q)
theorem Chg.at {p q : Addr} {H H' : Hp} {o : HO} (c : Chg p H H') (n : q ≠ p) (e : H q = some o) : H' q = some o := c q o n e
theorem new_ne {p q : Addr} {H : Hp} {o : HO} (hq : H q = none) (e : H p = some o) : q ≠ p := fun z => by
  rw [z, e] at hq
  cases hq
theorem BoxAt.ne {k : Nat} {H : Hp} {p q : Addr} (b : BoxAt k H p) (hq : H q = none) : q ≠ p := by
  obtain ⟨o, e⟩ := b.ex
  exact new_ne hq e
/-- all but the box -/
theorem Chg.same {p : Addr} {G H H' : Hp} (c : Chg p H H') (s : Same G H) (n : G p = none) : Same G H' := stay s n c
theorem del_same_of {p : Addr} {H H' : Hp} (c : Chg p H H') : Same (L2.del H p) H' := fun b o e => by
  by_cases hb : b = p
  · rw [hb, del_same] at e
    cases e
  · rw [del_ne hb] at e
    exact c b o hb e
end
/-! ### rules with the written part named: they stand within a comprehension's frame too -/
section
variable {X : Cx} {K : PySem.W.Frag} {to te : TE} {o e : Expr} {apos pos : Pos}
theorem ix_seqK (h : X.K = K := by rfl) : IxR X (rIx K) := by
  subst h; exact ix_seq
theorem sl_anyK (h : X.K = K := by rfl) : SlR X (rSlA K) := by
  subst h; exact sl_any
theorem op_plusK (h : X.K = K := by rfl) : OpR X (binaryOp .Add) (rPlus K) := by
  subst h; exact op_plus
theorem op_eqGK (hu : X.A.units + 64 < cLine) (h : X.K = K := by rfl) : OpR X (compareOp .Eq) (rEqG K) := by
  subst h; exact op_eqG hu
theorem op_neGK (hu : X.A.units + 64 < cLine) (h : X.K = K := by rfl) : OpR X (compareOp .NotEq) (rNeG K) := by
  subst h; exact op_neG hu
theorem op_inGK (h : X.K = K := by rfl) : OpR X (compareOp .In) (rInG K) := by
  subst h; exact op_inG
theorem call_lenK (h : X.K = K := by rfl) : CallR X (.builtin "len") (rLenA K) := by
  subst h; exact call_lenX
theorem call_isiXK (h : X.K = K := by rfl) : CallR X (.builtin "isinstance") (rIsX K) := by
  subst h; exact call_isiX
theorem cr_allK (hc : X.calm = true := by rfl) (h : X.K = K := by rfl) : CallR X (.builtin "all") (rAll K) := by
  subst h; exact cr_all hc
theorem cr_anyK (hc : X.calm = true := by rfl) (h : X.K = K := by rfl) : CallR X (.builtin "any") (rAny K) := by
  subst h; exact cr_any hc
theorem call_reprK (hG : X.A.guards = some []) (hu : X.A.units + 64 < cLine) (h : X.K = K := by rfl) : CallR X (.builtin "repr") (rRepr K) := by
  subst h; exact call_reprG hG hu
theorem pe_joinK (ho : PE X o to) (he : PE X e te) (hs : starEach [e] X.env = [(false, eval e X.env)] := by rfl) (hbase : attributeBase o "join" X.env (eval o X.env) = eval o X.env := by rfl) (hline : (apos.endLine == pos.line) = true := by rfl) (h : X.K = K := by rfl) :
    PE X (.Call (.Attribute o "join" apos) [e] [] pos) (tM1 (rJoin K) to te) := by
  subst h; exact pe_joinX ho he hs hbase hline
end
/-- a text's own signs: of one sign each -/
def one (c : Nat) : Str := ⟨#[c]⟩
theorem len_append (a b : Str) : (a ++ b).length = a.length + b.length := by
  show (a.cps ++ b.cps).size = _
  rw [Array.size_append] <;> rfl
theorem len_def (z : Str) : z.length = z.cps.toList.length := by simp [Str.length]
theorem one_len (c : Nat) : (one c).length = 1 := rfl
/-- every sign of it is one that there is -/
def okS (z : Str) : Prop := ∀ c ∈ z.cps.toList, c < 1114112
theorem okS_app {a b : Str} (ha : okS a) (hb : okS b) : okS (a ++ b) := fun c h => by
  rw [show (a ++ b).cps.toList = a.cps.toList ++ b.cps.toList from by
    show (a.cps ++ b.cps).toList = _
    rw [Array.toList_append]] at h
  rcases List.mem_append.mp h with h | h
  · exact ha c h
  · exact hb c h
theorem okS_cut {z : Str} {lo hi : Option Int} (h : okS z) : okS (cutS z lo hi) := fun c hc => by
  have hc2 : c ∈ (z.cps.toList.drop (HT.sIx z.length 0 lo)).take (HT.sIx z.length z.length hi - HT.sIx z.length 0 lo) := by
    have e : (cutS z lo hi).cps.toList = (z.cps.toList.drop (HT.sIx z.length 0 lo)).take (HT.sIx z.length z.length hi - HT.sIx z.length 0 lo) := by
      unfold cutS
      simp
    rw [← e]; exact hc
  exact h c (List.mem_of_mem_drop (List.mem_of_mem_take hc2))
theorem okS_one {c : Nat} (h : c < 1114112) : okS (one c) := fun d hd => by
  have : d = c := by simpa [one] using hd
  rw [this]; exact h
theorem okS_cs {cs : List Nat} (h : ∀ c ∈ cs, c < 1114112) : okS ⟨cs.toArray⟩ := fun c hc => h c (by simpa using hc)
theorem okS_strOk {z : Str} (h : okS z) : PyData.strOk z = true := by
  unfold PyData.strOk
  rw [Array.all_eq_true]
  intro i hi
  exact decide_eq_true (h _ (Array.getElem_mem_toList hi))
theorem okS_ofString (x : String) : okS (Str.ofString x) := fun c hc => by
  have hc2 : c ∈ x.toList.map Char.toNat := (by rw [Str.ofString_eq_toList] at hc; simpa using hc)
  obtain ⟨d, _, rfl⟩ := List.mem_map.mp hc2
  exact Nat.lt_of_lt_of_le (Nat.lt_succ_of_le (by have := d.valid; unfold UInt32.isValidChar Nat.isValidChar at this; show d.val.toNat ≤ 1114111; omega)) (Nat.le_refl _)
theorem str_app (a b : List Nat) : (⟨a.toArray⟩ : Str) ++ ⟨b.toArray⟩ = ⟨(a ++ b).toArray⟩ := by
  show (⟨a.toArray ++ b.toArray⟩ : Str) = _
  simp
theorem join_cs : ∀ cs : List Nat, Txt.join (Str.ofString "") (cs.map one) = ⟨cs.toArray⟩ := by
  intro cs
  show Builtin.Str.glued (Str.ofString "") (cs.map one) = _
  rw [PySem.StrLaws.glued_eq_join]
  have he : Str.ofString "" = (⟨([] : List Nat).toArray⟩ : Str) := by decide +kernel
  rw [he]
  induction cs with
  | nil => rfl
  | cons c r ih => cases r with
    | nil => rfl
    | cons d r =>
      rw [List.map_cons, List.map_cons]
      show one c ++ (⟨([] : List Nat).toArray⟩ : Str) ++ Str.join _ (one d :: r.map one) = _
      rw [← List.map_cons, ih]
      show (⟨[c].toArray⟩ : Str) ++ ⟨([] : List Nat).toArray⟩ ++ _ = _
      rw [str_app, str_app] <;> rfl
theorem len_cs (cs : List Nat) : (⟨cs.toArray⟩ : Str).length = cs.length := by
  show cs.toArray.size = _
  simp
section
variable {σ σ1 σ2 : L2.St} {H : Hp} {Q : VK} {K : PySem.W.Frag} {p : Addr} {P : Prop} {vs : List Nat}
theorem x_joinCs {cs : List Nat} (hs : H p = some (.lst ((cs.map one).map V.str))) (hz : cs.length ≤ 1000000) (h : Q (.str ⟨cs.toArray⟩) H) : rJoin K (.str (Str.ofString "")) [.ref p] H Q := by
  refine ⟨_, p, cs.map one, rfl, rfl, .inl (.inl (.inl hs)), ?_, by rw [join_cs]; exact h⟩
  have e : ((cs.map one).map (·.length)).sum = cs.length := by
    clear hs hz h
    induction cs with
    | nil => rfl
    | cons c r ih =>
      rw [List.map_cons, List.map_cons, List.sum_cons, ih, List.length_cons, one_len]
      omega
  have e2 : (Str.ofString "").length = 0 := by decide +kernel
  rw [e, e2]
  omega
theorem x_lenZ {z : Str} (hz : z.length ≤ 1000000) (h : Q (.int (z.length : Int)) H) : rLenA K [.str z] H Q := x_lenS (Nat.le_trans hz (by decide)) h
theorem x_slZ {z : Str} {lo hi : Option Int} (hz : z.length ≤ 1000000) (h : Q (.str (cutS z lo hi)) H) : rSlA K (.str z) lo hi H Q := x_slS (Nat.le_trans hz (by decide)) h
theorem x_plusZ {a b : Str} (ha : a.length ≤ 1000000) (hb : b.length ≤ 1000000) (h : Q (.str (a ++ b)) H) : rPlus K (.str a) (.str b) H Q :=
  x_plusS (Nat.le_trans (Nat.add_le_add ha hb) (by decide)) h
theorem cut_le {z : Str} {lo hi : Option Int} {n : Nat} (h : z.length ≤ n) : (cutS z lo hi).length ≤ n := Nat.le_trans (cutS_length z lo hi) h
theorem app_le {a b : Str} {m n k : Nat} (ha : a.length ≤ m) (hb : b.length ≤ n) (h : m + n ≤ k) : (a ++ b).length ≤ k := by
  rw [len_append]; omega
theorem x_wipe (e : wipe σ1 vs = wipe σ2 vs) (h : P) : wipe σ1 vs = wipe σ2 vs ∧ P := ⟨e, h⟩
theorem x_ifT {A B : Prop} (h : A) : if true = true then A else B := h
theorem x_ifNT {A B : Prop} (h : B) : if (!true) = true then A else B := h
theorem x_ifNF {A B : Prop} (h : A) : if (!false) = true then A else B := h
theorem x_ifF {A B : Prop} (h : B) : if false = true then A else B := h
/-- one sign of a text -/
theorem x_ixSr {z : Str} {n : Int} (h0 : 0 ≤ n) (h1 : n < z.length) (hz : z.length ≤ 1000000) (h : ∀ c, z.cps.toList[n.toNat]? = some c → Q (.str (one c)) H) : rIx K (.str z) (.int n) H Q := by
  obtain ⟨m, rfl⟩ : ∃ m : Nat, n = (m : Int) := ⟨n.toNat, by omega⟩
  have hm : m < z.cps.toList.length := by rw [← len_def]; omega
  exact x_ixS (c := z.cps.toList[m]) (Nat.le_trans hz (by decide)) (atI_nat (by simp [hm])) (h _ (by simp [hm]))
end
theorem atI_len {xs : List V} {n : Int} (h0 : 0 ≤ n) (h1 : n < xs.length) : ∃ v, atI xs n = some v ∧ v ∈ xs := by
  obtain ⟨m, rfl⟩ : ∃ m : Nat, n = (m : Int) := ⟨n.toNat, by omega⟩
  have hm : m < xs.length := by omega
  exact ⟨xs[m], atI_nat (by simp [hm]), List.getElem_mem hm⟩
/-! ### isinstance of scalars -/
section
variable {K : PySem.W.Frag} {H : Hp} {Q : VK}
theorem isi_int_int {n : Int} (h : Q (.bl true) H) : rIsX K [.int n, .ty "int"] H Q := x_isi (ty_int n) (by decide +kernel) h
theorem isi_int_bool {n : Int} (h : Q (.bl false) H) : rIsX K [.int n, .ty "bool"] H Q := x_isi (ty_int n) (by decide +kernel) h
theorem isi_int_str {n : Int} (h : Q (.bl false) H) : rIsX K [.int n, .ty "str"] H Q := x_isi (ty_int n) (by decide +kernel) h
theorem isi_int_list {n : Int} (h : Q (.bl false) H) : rIsX K [.int n, .ty "list"] H Q := x_isi (ty_int n) (by decide +kernel) h
theorem isi_int_tuple {n : Int} (h : Q (.bl false) H) : rIsX K [.int n, .ty "tuple"] H Q := x_isi (ty_int n) (by decide +kernel) h
theorem isi_int_dict {n : Int} (h : Q (.bl false) H) : rIsX K [.int n, .ty "dict"] H Q := x_isi (ty_int n) (by decide +kernel) h
theorem isi_bl_int {b : Bool} (h : Q (.bl true) H) : rIsX K [.bl b, .ty "int"] H Q := x_isi (ty_bl b) (by decide +kernel) h
theorem isi_bl_bool {b : Bool} (h : Q (.bl true) H) : rIsX K [.bl b, .ty "bool"] H Q := x_isi (ty_bl b) (by decide +kernel) h
theorem isi_bl_str {b : Bool} (h : Q (.bl false) H) : rIsX K [.bl b, .ty "str"] H Q := x_isi (ty_bl b) (by decide +kernel) h
theorem isi_bl_list {b : Bool} (h : Q (.bl false) H) : rIsX K [.bl b, .ty "list"] H Q := x_isi (ty_bl b) (by decide +kernel) h
theorem isi_bl_tuple {b : Bool} (h : Q (.bl false) H) : rIsX K [.bl b, .ty "tuple"] H Q := x_isi (ty_bl b) (by decide +kernel) h
theorem isi_bl_dict {b : Bool} (h : Q (.bl false) H) : rIsX K [.bl b, .ty "dict"] H Q := x_isi (ty_bl b) (by decide +kernel) h
theorem isi_str_int {z : Str} (h : Q (.bl false) H) : rIsX K [.str z, .ty "int"] H Q := x_isi (ty_str z) (by decide +kernel) h
theorem isi_str_bool {z : Str} (h : Q (.bl false) H) : rIsX K [.str z, .ty "bool"] H Q := x_isi (ty_str z) (by decide +kernel) h
theorem isi_str_str {z : Str} (h : Q (.bl true) H) : rIsX K [.str z, .ty "str"] H Q := x_isi (ty_str z) (by decide +kernel) h
theorem isi_str_list {z : Str} (h : Q (.bl false) H) : rIsX K [.str z, .ty "list"] H Q := x_isi (ty_str z) (by decide +kernel) h
theorem isi_str_tuple {z : Str} (h : Q (.bl false) H) : rIsX K [.str z, .ty "tuple"] H Q := x_isi (ty_str z) (by decide +kernel) h
theorem isi_str_dict {z : Str} (h : Q (.bl false) H) : rIsX K [.str z, .ty "dict"] H Q := x_isi (ty_str z) (by decide +kernel) h
theorem isi_non_int  (h : Q (.bl false) H) : rIsX K [.non, .ty "int"] H Q := x_isi (ty_non) (by decide +kernel) h
theorem isi_non_bool  (h : Q (.bl false) H) : rIsX K [.non, .ty "bool"] H Q := x_isi (ty_non) (by decide +kernel) h
theorem isi_non_str  (h : Q (.bl false) H) : rIsX K [.non, .ty "str"] H Q := x_isi (ty_non) (by decide +kernel) h
theorem isi_non_list  (h : Q (.bl false) H) : rIsX K [.non, .ty "list"] H Q := x_isi (ty_non) (by decide +kernel) h
theorem isi_non_tuple  (h : Q (.bl false) H) : rIsX K [.non, .ty "tuple"] H Q := x_isi (ty_non) (by decide +kernel) h
theorem isi_non_dict  (h : Q (.bl false) H) : rIsX K [.non, .ty "dict"] H Q := x_isi (ty_non) (by decide +kernel) h
end
/-! ### things of any kind: whole numbers, texts, truths, None, and objects of other kinds -/
def Th (K : PySem.W.Frag) (H : Hp) (v : V) : Prop := (∃ n, v = .int n) ∨ (∃ z : Str, v = .str z ∧ z.length ≤ 1000 ∧ okS z) ∨ (∃ b, v = .bl b) ∨ v = .non ∨ ∃ p, v = .ref p ∧ Odd K kinds3 H v
theorem Th.keep {K : PySem.W.Frag} {G H : Hp} {v : V} (t : Th K G v) (s : Same G H) : Th K H v := by
  rcases t with h | h | h | h | ⟨p, e, o⟩
  · exact .inl h
  · exact .inr (.inl h)
  · exact .inr (.inr (.inl h))
  · exact .inr (.inr (.inr (.inl h)))
  · exact .inr (.inr (.inr (.inr ⟨p, e, o.keep s⟩)))
theorem Th.int {K : PySem.W.Frag} {H : Hp} (n : Int) : Th K H (.int n) := .inl ⟨n, rfl⟩
theorem Th.str {K : PySem.W.Frag} {H : Hp} {z : Str} (h : z.length ≤ 1000) (k : okS z) : Th K H (.str z) := .inr (.inl ⟨z, rfl, h, k⟩)
theorem Th.bl {K : PySem.W.Frag} {H : Hp} (b : Bool) : Th K H (.bl b) := .inr (.inr (.inl ⟨b, rfl⟩))
theorem Th.non {K : PySem.W.Frag} {H : Hp} : Th K H .non := .inr (.inr (.inr (.inl rfl)))
theorem Th.lst {K : PySem.W.Frag} {H : Hp} {p : Addr} {xs : List V} (e : H p = some (.lst xs)) : Th K H (.ref p) := .inr (.inr (.inr (.inr ⟨p, rfl, _, .x (.base (.lst e)), noneOf_ty (by decide +kernel)⟩)))
theorem Th.tup {K : PySem.W.Frag} {H : Hp} {p : Addr} {xs : List V} (e : H p = some (.tup xs)) : Th K H (.ref p) := .inr (.inr (.inr (.inr ⟨p, rfl, _, .x (.base (.tup e)), noneOf_ty (by decide +kernel)⟩)))
theorem Th.dK {K : PySem.W.Frag} {H : Hp} {p : Addr} {kvs : List (Key × V)} (e : H p = some (.dK kvs)) : Th K H (.ref p) := .inr (.inr (.inr (.inr ⟨p, rfl, _, .x (.base (.dK e)), noneOf_ty (by decide +kernel)⟩)))
theorem Th.exc {K : PySem.W.Frag} {H : Hp} {a C : Addr} {fs : List (Str × V)} (e : ExV H a C fs) (c : ExcC K C) (o : noneOf K (.ref C) ["int", "bool", "str", "list", "tuple", "dict"]) : Th K H (.ref a) :=
  .inr (.inr (.inr (.inr ⟨a, rfl, _, .exc e c, fun n hn => o n (by
    simp only [kinds3, List.mem_cons, List.not_mem_nil, or_false] at hn
    rcases hn with rfl | rfl | rfl <;> decide)⟩)))
theorem lt_one (a b : Nat) : decide (([a] : List Nat) < [b]) = decide (a < b) := by
  refine decide_eq_decide.mpr ⟨fun h => ?_, fun h => List.Lex.rel h⟩
  rcases h with h | h
  · assumption
  · rename_i h
    cases h
/-- the order of two signs -/
theorem sign_lt {z : Str} {k : Nat} (hz : z.cps.toList = [k]) (c : Nat) : decide ((⟨#[c]⟩ : Str).cps.toList < z.cps.toList) = decide (c < k) := by
  rw [show (⟨#[c]⟩ : Str).cps.toList = [c] from rfl, hz, lt_one]
theorem sign_gt {z : Str} {k : Nat} (hz : z.cps.toList = [k]) (c : Nat) : decide (z.cps.toList < (⟨#[c]⟩ : Str).cps.toList) = decide (k < c) := by
  rw [show (⟨#[c]⟩ : Str).cps.toList = [c] from rfl, hz, lt_one]
/-! ### lists of texts as data -/
theorem canLay_strs : ∀ {zs : List Str}, (∀ z ∈ zs, okS z) → PyData.canLayAll0 (zs.map .str) = true
  | [], _ => by simp only [List.map_nil, PyData.canLayAll0]
  | z :: zs, h => by
    simp only [List.map_cons, PyData.canLayAll0, PyData.canLay0, Bool.and_eq_true]
    exact ⟨okS_strOk (h z List.mem_cons_self), canLay_strs fun y hy => h y (List.mem_cons_of_mem _ hy)⟩
theorem depth_strs : ∀ {zs : List Str}, PyData.depthAll (zs.map .str) = 0
  | [] => by simp only [List.map_nil, PyData.depthAll]
  | z :: zs => by simp only [List.map_cons, PyData.depthAll, PyData.depth, depth_strs, Nat.max_self]
theorem shaped_strs {zs : List Str} (h : ∀ z ∈ zs, okS z) : SeqAt.shaped (.list (zs.map .str)) = true := by
  unfold SeqAt.shaped
  simp only [PyData.canLay0, PyData.depth, depth_strs, canLay_strs h, Bool.true_and]
  decide
theorem dp_strs {K : PySem.W.Frag} {H : Hp} : ∀ {zs : List Str}, DpAll K H (zs.map V.str) (zs.map .str)
  | [] => .nil
  | z :: _ => .cons (.str z) dp_strs
theorem eqv_strs : ∀ {zs ws : List Str}, PyData.eqvAll (zs.map .str) (ws.map .str) = decide (zs = ws)
  | [], [] => by simp [PyData.eqvAll]
  | [], w :: ws => by simp [PyData.eqvAll]
  | z :: zs, [] => by simp [PyData.eqvAll]
  | z :: zs, w :: ws => by
    simp only [List.map_cons, PyData.eqvAll, PyData.eqv, eqv_strs]
    rw [Bool.eq_iff_iff]
    simp
/-- two lists of texts, one sign each or more -/
theorem x_eqStrs {K : PySem.W.Frag} {H : Hp} {Q : VK} {a b : Addr} {zs ws : List Str} (ha : H a = some (.lst (zs.map V.str))) (hb : H b = some (.lst (ws.map V.str))) (oz : ∀ z ∈ zs, okS z) (ow : ∀ z ∈ ws, okS z) (h : Q (.bl (decide (zs = ws))) H) :
    rEqG K (.ref a) (.ref b) H Q := by
  refine x_eqGD (d := .list (zs.map .str)) (e := .list (ws.map .str)) (.lst (.inl (.inl ha)) dp_strs) (.lst (.inl (.inl hb)) dp_strs) (shaped_strs oz) (shaped_strs ow) ?_
  have e : PyData.eqv (.list (zs.map .str)) (.list (ws.map .str)) = decide (zs = ws) := by
    simp only [PyData.eqv, eqv_strs]
  rw [e]
  exact h
/-! ### new objects: the heap behind is named anew -/
section
variable {σ : L2.St} {H H' : Hp} {Q : VK} {K : PySem.W.Frag} {p q a b : Addr} {v : V} {xs zs vs : List V} {tr : TA} {C : Addr} {f : Str}
def LstN (xs : List V) (H : Hp) (Q : VK) : Prop := xs.length ≤ sizeLine ∧ ∀ p, H p = none → Q (.ref p) (L2.upd H p (.lst xs))
def TupN (xs : List V) (H : Hp) (Q : VK) : Prop := xs.length ≤ sizeLine ∧ ∀ p, H p = none → Q (.ref p) (L2.upd H p (.tup xs))
theorem x_lst2 (h : tr σ H fun xs H1 => LstN xs H1 Q) : tLst tr σ H Q := h
theorem x_tup2 (h : tr σ H fun xs H1 => TupN xs H1 Q) : tTup tr σ H Q := h
theorem x_lstZ (hz : xs.length ≤ 1000) (h : ∀ p H', H p = none → Same H H' → H' p = some (.lst xs) → Q (.ref p) H') : LstN xs H Q :=
  ⟨Nat.le_trans hz (by decide), fun p hp => h p _ hp (same_new hp) upd_same⟩
theorem x_tupZ (hz : xs.length ≤ 1000) (h : ∀ p H', H p = none → Same H H' → H' p = some (.tup xs) → Q (.ref p) H') : TupN xs H Q :=
  ⟨Nat.le_trans hz (by decide), fun p hp => h p _ hp (same_new hp) upd_same⟩
theorem x_dnewZ (h : ∀ p H', H p = none → Same H H' → H' p = some (.dK []) → Q (.ref p) H') : tDNewK σ H Q := fun p hp => h p _ hp (same_new hp) upd_same
theorem x_dispV {k : Str} {i : Nat} (e : σ[i]? = some (some v)) (h : ∀ q H', H q = none → Same H H' → H' q = some (.dK [(.inr k, v)]) → Q (.ref q) H') : tDisp [(tC (.str k), tVar i)] σ H Q := fun q hq =>
  ⟨v, e, upd_same, [(.inr k, v)], rfl, Nat.le_of_ble_eq_true rfl, h q _ hq (fun b o e => by rw [upd_ne (ne_of_none e hq)]; exact same_new hq _ _ e) upd_same⟩
theorem x_plusLZ (ha : H a = some (.lst xs)) (hb : H b = some (.lst zs)) (hz : xs.length + zs.length ≤ 1000) (h : ∀ p H', H p = none → Same H H' → H' p = some (.lst (xs ++ zs)) → Q (.ref p) H') : rPlus K (.ref a) (.ref b) H Q :=
  x_plusL ha hb (Nat.le_trans hz (by decide)) fun p hp => h p _ hp (same_new hp) upd_same
theorem x_slLZ {lo hi : Option Int} (ha : H a = some (.lst xs)) (h : ∀ p H', H p = none → Same H H' → H' p = some (.lst (cutV xs lo hi)) → Q (.ref p) H') : rSlA K (.ref a) lo hi H Q :=
  x_slL ha fun p hp => h p _ hp (same_new hp) upd_same
/-- an exception of one field made as a value -/
def ExvN (C : Addr) (sp : Sp) (dvs : List V) (vs : List V) (H1 : Hp) (Q : VK) : Prop := vs.length ≤ 1000 ∧ ∀ a, H1 a = none → sp (.ref a :: (vs ++ dvs)) (L2.upd H1 a (exo a C none)) (fun v H2 => v = .non ∧ Q (.ref a) H2) E0
theorem x_exv2 {sp : Sp} {dvs : List V} (h : tr σ H fun vs H1 => ExvN C sp dvs vs H1 Q) : tExv C sp dvs tr σ H Q := h
theorem x_exvZ (h : ∀ a H', H a = none → Same H H' → ExV H' a C [(f, v)] → Q (.ref a) H') : ExvN C (sp2 (p_xini C f)) [] [v] H Q :=
  ⟨Nat.le_of_ble_eq_true rfl, fun a ha => ⟨.ref a, v, rfl, a, rfl, upd_same, fun H' e c => ⟨rfl, h a H' ha (Chg.made ha c) e⟩⟩⟩
end
section
variable {σ : L2.St} {H H' : Hp} {Q : VK} {K : PySem.W.Frag} {p q : Addr} {v : V}
theorem Same.chg (s : Same H H') : Chg p H H' := Chg.of s
theorem Same.box {k : Nat} (b : BoxAt k H p) (s : Same H H') : BoxAt k H' p := b.same s
/-- a thing that is not the box -/
def Thp (K : PySem.W.Frag) (p : Addr) (H : Hp) (v : V) : Prop := Th K (L2.del H p) v
theorem Thp.keep (t : Thp K p H v) (c : Chg p H H') : Thp K p H' v := Th.keep t fun b o e => by
  by_cases hb : b = p
  · rw [hb, del_same] at e; cases e
  · rw [del_ne hb] at e ⊢; exact c b o hb e
theorem Thp.th (t : Thp K p H v) : Th K H v := Th.keep t fun b o e => by
  by_cases hb : b = p
  · rw [hb, del_same] at e; cases e
  · rw [del_ne hb] at e; exact e
theorem Thp.all {vs : List V} (h : ∀ x ∈ vs, Thp K p H x) (c : Chg p H H') : ∀ x ∈ vs, Thp K p H' x := fun x hx => (h x hx).keep c
theorem Thp.lst {xs : List V} (e : H q = some (.lst xs)) (n : q ≠ p) : Thp K p H (.ref q) := Th.lst (xs := xs) (by rw [del_ne n]; exact e)
theorem Thp.tup {xs : List V} (e : H q = some (.tup xs)) (n : q ≠ p) : Thp K p H (.ref q) := Th.tup (xs := xs) (by rw [del_ne n]; exact e)
theorem Thp.dK {kvs : List (Key × V)} (e : H q = some (.dK kvs)) (n : q ≠ p) : Thp K p H (.ref q) := Th.dK (kvs := kvs) (by rw [del_ne n]; exact e)
theorem Thp.exc {C : Addr} {fs : List (Str × V)} {xs : List V} (e : ExV H q C fs) (hp : H p = some (.lst xs)) (c : ExcC K C) (o : noneOf K (.ref C) ["int", "bool", "str", "list", "tuple", "dict"]) : Thp K p H (.ref q) := by
  obtain ⟨dx, e1, e2⟩ := e
  refine Th.exc (fs := fs) ⟨dx, ?_, ?_⟩ c o
  · rw [del_ne]
    · exact e1
    · rintro rfl
      rw [hp] at e1
      cases e1
  · rw [del_ne]
    · exact e2
    · rintro rfl
      rw [hp] at e2
      cases e2
theorem log2_lt {n b : Nat} (h : n < 2 ^ b) (hb : 0 < b) : n.log2 < b := by
  by_cases h0 : n = 0
  · rw [h0]; simpa using hb
  · exact (Nat.log2_lt h0).mpr h
end
end SW

namespace SW
open PySem PySem.Spec PyProof.Rows L2

/-! ### methods of lists: the heap behind is named anew -/
section
variable {X : Cx} {σ : L2.St} {H H' : Hp} {Q : VK} {K : PySem.W.Frag} {to te tl : TE} {t : TA} {T : String} {r : V → List V → Hp → VK → Prop} {l b : Addr} {xs zs : List V} {y v : V} {P : Prop}
theorem x_bm (h : to σ H fun x H1 => tyV K T x H1 ∧ t σ H1 fun xs H2 => r x xs H2 Q) : tBM K T r to t σ H Q := h
theorem x_bm0 (h : to σ H fun x H1 => tyV K T x H1 ∧ r x [] H1 Q) : tBM0 K T r to σ H Q := h
theorem x_tyL (e : H l = some (.lst xs)) (h : P) : tyV K "list" (.ref l) H ∧ P := ⟨.inl ⟨rfl, xs, SqL.of e⟩, h⟩
theorem x_app (e : H l = some (.lst xs)) (hz : xs.length ≤ 1000000) (h : ∀ H', Chg l H H' → H' l = some (.lst (xs ++ [y])) → Q .non H') : rAppend (.ref l) [y] H Q :=
  ⟨l, xs, y, rfl, rfl, e, Nat.lt_of_le_of_lt hz (by decide), h _ Chg.upd upd_same⟩
theorem x_rev (e : H l = some (.lst xs)) (h : ∀ H', Chg l H H' → H' l = some (.lst xs.reverse) → Q .non H') : rReverse (.ref l) [] H Q := ⟨l, xs, rfl, rfl, e, h _ Chg.upd upd_same⟩
theorem x_setLZ {n : Int} {j : Nat} {Qh : Hp → Prop} (e : H l = some (.lst xs)) (hi : ixN xs.length n = some j) (h : ∀ H', Chg l H H' → H' l = some (.lst (xs.set j v)) → Qh H') : rSetL (.ref l) (.int n) v H Qh := x_setL e hi (h _ Chg.upd upd_same)
/-! ### is None -/
def rIsN : R2 := fun x y H Q => y = .non ∧ Q (.bl (decide (x = .non))) H
def rNotN : R2 := fun x y H Q => y = .non ∧ Q (.bl (!decide (x = .non))) H
theorem op_isNX : OpR X (compareOp .Is) rIsN := op_isN
theorem op_notNX : OpR X (compareOp .IsNot) rNotN := op_notN
theorem x_isN_non (h : Q (.bl true) H) : rIsN .non .non H Q := ⟨rfl, h⟩
theorem x_isN_ref (h : Q (.bl false) H) : rIsN (.ref l) .non H Q := ⟨rfl, h⟩
theorem x_isN_int {i : Int} (h : Q (.bl false) H) : rIsN (.int i) .non H Q := ⟨rfl, h⟩
theorem x_isN_str {z : Str} (h : Q (.bl false) H) : rIsN (.str z) .non H Q := ⟨rfl, h⟩
theorem x_isN_bl {c : Bool} (h : Q (.bl false) H) : rIsN (.bl c) .non H Q := ⟨rfl, h⟩
theorem x_notN_non (h : Q (.bl false) H) : rNotN .non .non H Q := ⟨rfl, h⟩
theorem x_notN_ref (h : Q (.bl true) H) : rNotN (.ref l) .non H Q := ⟨rfl, h⟩
theorem x_notN_int {i : Int} (h : Q (.bl true) H) : rNotN (.int i) .non H Q := ⟨rfl, h⟩
theorem x_notN_str {z : Str} (h : Q (.bl true) H) : rNotN (.str z) .non H Q := ⟨rfl, h⟩
theorem x_notN_bl {c : Bool} (h : Q (.bl true) H) : rNotN (.bl c) .non H Q := ⟨rfl, h⟩
/-! ### texts' methods -/
def rFind : V → List V → Hp → VK → Prop := fun x xs H Q => ∃ a b, x = .str a ∧ xs = [.str b] ∧ Q (.int (Txt.find a b)) H
def rStarts : V → List V → Hp → VK → Prop := fun x xs H Q => ∃ a b, x = .str a ∧ xs = [.str b] ∧ Q (.bl (Txt.startswith a b)) H
def rSplitX : V → List V → Hp → VK → Prop := fun x xs H Q => ∃ a b, x = .str a ∧ xs = [.str b] ∧ (b.length == 0) = false ∧ a.length + 2 ≤ sizeLine ∧ rNewStrs (Txt.split a b) H Q
def rPart : V → List V → Hp → VK → Prop := fun x xs H Q => ∃ a b, x = .str a ∧ xs = [.str b] ∧ (b.length == 0) = false ∧ a.length ≤ sizeLine ∧
      ∀ p, H p = none → Q (.ref p) (upd H p (.tup [.str (Txt.partition a b).1, .str (Txt.partition a b).2.1, .str (Txt.partition a b).2.2]))
def rIntS : List V → Hp → VK → Prop := fun xs H Q => ∃ a n, xs = [.str a] ∧ PySem.intText? a = some n ∧ a.length ≤ 640 ∧ Q (.int n) H
theorem mt_findX : MtR X "str.find" rFind := mt_find
theorem mt_startsX : MtR X "str.startswith" rStarts := mt_startswith
theorem mt_splitX : MtR X "str.split" rSplitX := mt_split
theorem mt_partX : MtR X "str.partition" rPart := mt_partition
theorem call_intSX : CallR X (.type "int") rIntS := call_int_str
theorem x_find {a b : Str} (h : Q (.int (Txt.find a b)) H) : rFind (.str a) [.str b] H Q := ⟨a, b, rfl, rfl, h⟩
theorem x_starts {a b : Str} (h : Q (.bl (Txt.startswith a b)) H) : rStarts (.str a) [.str b] H Q := ⟨a, b, rfl, rfl, h⟩
theorem x_splitZ {a b : Str} (hb : (b.length == 0) = false) (hz : a.length ≤ 1000000) (h : ∀ p H', H p = none → Same H H' → H' p = some (.lst ((Txt.split a b).map V.str)) → Q (.ref p) H') : rSplitX (.str a) [.str b] H Q :=
  ⟨a, b, rfl, rfl, hb, Nat.le_trans (Nat.add_le_add_right hz 2) (by decide), fun p hp => h p _ hp (same_new hp) upd_same⟩
theorem x_partZ {a b : Str} (hb : (b.length == 0) = false) (hz : a.length ≤ 1000000) (h : ∀ p H', H p = none → Same H H' → H' p = some (.tup [.str (Txt.partition a b).1, .str (Txt.partition a b).2.1, .str (Txt.partition a b).2.2]) → Q (.ref p) H') : rPart (.str a) [.str b] H Q :=
  ⟨a, b, rfl, rfl, hb, Nat.le_trans hz (by decide), fun p hp => h p _ hp (same_new hp) upd_same⟩
theorem x_intS {a : Str} {n : Int} (hn : PySem.intText? a = some n) (hz : a.length ≤ 640) (h : Q (.int n) H) : rIntS [.str a] H Q := ⟨a, n, rfl, hn, hz, h⟩
theorem x_inSq {p : Addr} {x : V} (hs : SqL K H p xs ∨ SqT K H p xs) (fx : flatV x = true) (fs : xs.all flatV = true) (h : Q (.bl (inV x xs)) H) : rInG K x (.ref p) H Q := ⟨p, xs, rfl, hs, fx, fs, h⟩
theorem x_inGL {z s : Str} {c : Nat} (e : s = ⟨#[c]⟩) (h : Q (.bl (decide (c ∈ z.cps.toList))) H) : rInG K (.str s) (.str z) H Q := by
  subst e; exact x_inGS h
end
/-- '' in a list of texts -/
theorem inV_str (z : Str) (zs : List Str) : inV (.str z) (zs.map V.str) = decide (z ∈ zs) := by
  unfold inV
  rw [List.any_map, Bool.eq_iff_iff, List.any_eq_true, decide_eq_true_eq]
  constructor
  · rintro ⟨y, hy, e⟩
    have : y = z := by simpa [eqV] using e
    rw [← this]; exact hy
  · intro h
    exact ⟨z, h, by simp [eqV]⟩
theorem flat_strs (zs : List Str) : (zs.map V.str).all flatV = true := by
  rw [List.all_map, List.all_eq_true]
  intro z _
  rfl
/-! ### where a sign stands first -/
theorem find_sign (x : Str) (c : Nat) : (Txt.find x ⟨#[c]⟩ = -1 ∧ c ∉ x.cps.toList) ∨ ∃ i : Nat, Txt.find x ⟨#[c]⟩ = (i : Int) ∧ x.cps.toList[i]? = some c := by
  have pre1 : ∀ i : Nat, TL.pre [c] (x.cps.toList.drop i) = true ↔ x.cps.toList[i]? = some c := fun i => by
    rw [← List.head?_drop]
    cases x.cps.toList.drop i with
    | nil => simp [TL.pre]
    | cons d r => simp [TL.pre]
  have at1 := fun i => (TL.at_iff (x := x) (y := ⟨#[c]⟩) (by simp [TL.tl]) i).trans (pre1 i)
  rcases find_whole x ⟨#[c]⟩ with ⟨h1, h2⟩ | ⟨i, h1, h2, _⟩
  · refine .inl ⟨h1, fun hm => ?_⟩
    obtain ⟨i, hi⟩ := List.getElem?_of_mem hm
    exact h2 i ((at1 i).mpr hi)
  · exact .inr ⟨i, h1, (at1 i).mp h2⟩
theorem figures_are : ("0123456789" : Str).cps.toList = (List.range 10).map (· + 48) := by decide +kernel
theorem find_figure (c : Nat) : Txt.find (Str.ofString "0123456789") ⟨#[c]⟩ = if 48 ≤ c ∧ c ≤ 57 then (c : Int) - 48 else -1 := by
  have e : (Str.ofString "0123456789").cps.toList = (List.range 10).map (· + 48) := figures_are
  rcases find_sign (Str.ofString "0123456789") c with ⟨h1, h2⟩ | ⟨i, h1, h2⟩
  · rw [h1, if_neg]
    rintro ⟨a, b⟩
    exact h2 (by rw [e]; exact List.mem_map.mpr ⟨c - 48, List.mem_range.mpr (by omega), by omega⟩)
  · rw [e, List.getElem?_map] at h2
    obtain ⟨j, hj, rfl⟩ := Option.map_eq_some_iff.mp h2
    have hj2 : i < 10 ∧ j = i := by
      have hlt : i < (List.range 10).length := (List.getElem?_eq_some_iff.mp hj).1
      rw [List.length_range] at hlt
      rw [List.getElem?_range hlt] at hj
      exact ⟨hlt, (Option.some.inj hj).symm⟩
    obtain ⟨h3, rfl⟩ := hj2
    rw [h1, if_pos (by omega)]
    omega
/-! ### a text cut at each sign c -/
def stepW (k : Nat) (ws : List (List Nat)) (c : Nat) : List (List Nat) := if c = k then ws ++ [[]] else ws.dropLast ++ [(ws.getLast?.getD []) ++ [c]]
theorem spl_step (k : Nat) : ∀ (cs acc : List Nat) (ws : List (List Nat)), cs.foldl (stepW k) (ws ++ [acc]) = ws ++ TL.spl [k] 0 acc cs
  | [], acc, ws => by rw [TL.spl_nil]; rfl
  | c :: cs, acc, ws => by
    rw [List.foldl_cons]
    by_cases h : c = k
    · subst h
      have e : TL.pre [c] (c :: cs) = true := by simp [TL.pre]
      rw [TL.spl_hit e]
      have e2 : stepW c (ws ++ [acc]) c = (ws ++ [acc]) ++ [[]] := if_pos rfl
      rw [e2, spl_step c cs [] (ws ++ [acc])]
      simp
    · have e : TL.pre [k] (c :: cs) = false := by simp [TL.pre, h]
      rw [TL.spl_miss e]
      have e2 : stepW k (ws ++ [acc]) c = ws ++ [acc ++ [c]] := by
        unfold stepW
        rw [if_neg h]
        simp
      rw [e2, spl_step k cs (acc ++ [c]) ws]
theorem spl_fold (k : Nat) (cs : List Nat) : TL.spl [k] 0 [] cs = cs.foldl (stepW k) [[]] := (spl_step k cs [] []).symm
theorem split_sign {z : Str} {k : Nat} (hk : k < 256) : Txt.split z ⟨#[k]⟩ = (z.cps.toList.foldl (stepW k) [[]]).map SX.S := by
  have h := SX.split_S (a := z.cps.toList) (b := [k]) (List.cons_ne_nil _ _) (by simp [hk])
  rw [SX.S_tl, spl_fold] at h
  exact h
end SW


local macro_rules | `(tactic| walk_at "len") => `(tactic| first
  | assumption
  | (with_reducible exact Nat.le_of_ble_eq_true rfl)
  | ((with_reducible refine SW.cut_le ?_); (walk_at "len"))
  | (simp only [SW.len_append, SW.one_len, SW.len_cs]; (have := fun z lo hi => L2.cutS_length z lo hi); omega)
  | omega)
local macro_rules | `(tactic| walk_at "s1") => `(tactic| first
  | with_reducible refine SW.x_seq ?_
  | with_reducible refine SW.x_set ?_
  | with_reducible refine SW.x_sub ?_
  | with_reducible refine SW.x_gSub ?_
  | with_reducible refine SW.x_ret ?_
  | with_reducible refine SW.x_drop ?_
  | with_reducible refine SW.x_next ?_
  | with_reducible refine SW.x_brk ?_
  | with_reducible refine SW.x_cont ?_
  | with_reducible refine SW.x_ifS ?_
  | with_reducible refine SW.x_test ?_
  | with_reducible refine SW.x_B ?_
  | with_reducible refine SW.x_and ?_
  | with_reducible refine SW.x_or ?_
  | with_reducible refine SW.x_not ?_
  | with_reducible refine SW.x_andV ?_
  | with_reducible refine SW.x_orV ?_
  | with_reducible refine SW.x_notV ?_
  | with_reducible refine SW.x_if ?_
  | with_reducible refine SW.x_op ?_
  | with_reducible refine SW.x_un ?_
  | with_reducible refine SW.x_chain ?_
  | ((with_reducible apply SW.x_var); (focus exact rfl))
  | with_reducible refine SW.x_c ?_
  | with_reducible refine SW.x_nil ?_
  | with_reducible refine SW.x_cons ?_
  | with_reducible refine SW.x_lst2 ?_
  | with_reducible refine SW.x_tup2 ?_
  | ((with_reducible apply SW.x_lstZ); (focus exact Nat.le_of_ble_eq_true rfl))
  | ((with_reducible apply SW.x_tupZ); (focus exact Nat.le_of_ble_eq_true rfl))
  | with_reducible refine SW.x_dnewZ ?_
  | ((with_reducible apply SW.x_dispV); (focus exact rfl))
  | with_reducible refine SW.x_CB ?_
  | with_reducible refine SW.x_call ?_
  | with_reducible refine SW.x_sl ?_
  | with_reducible refine SW.x_noPart ?_
  | with_reducible refine SW.x_part ?_
  | with_reducible refine SW.x_bl ?_
  | with_reducible refine SW.x_int ?_
  | with_reducible refine SW.x_rI0 ?_
  | with_reducible refine SW.x_rU ?_
  | with_reducible refine SW.x_plusI ?_
  | with_reducible refine SW.x_eqGI ?_
  | with_reducible refine SW.x_neGI ?_
  | with_reducible refine SW.x_eqGS ?_
  | with_reducible refine SW.x_neGS ?_
  | ((with_reducible apply SW.x_modP); (focus omega))
  | ((with_reducible apply SW.x_divP); (focus omega); (focus omega))
  | ((with_reducible apply SW.x_mulP); (focus omega))
  | ((with_reducible apply SW.x_powP); (focus omega); (focus omega); (focus omega))
  | ((with_reducible apply SW.x_ixL); (focus assumption); (focus exact rfl))
  | ((with_reducible apply SW.x_ixT); (focus assumption); (focus exact rfl))
  | ((with_reducible apply SW.x_setL); (focus assumption); (focus exact rfl))
  | ((with_reducible apply SW.x_plusLZ); (focus assumption); (focus assumption); (focus exact Nat.le_of_ble_eq_true rfl))
  | ((with_reducible apply SW.x_lenL); (focus assumption))
  | ((with_reducible apply SW.x_sz); (focus exact Nat.le_of_ble_eq_true rfl))
  | with_reducible refine SW.x_max2 ?_
  | with_reducible refine SW.x_min2 ?_
  | with_reducible refine SW.x_abs ?_
  | with_reducible refine SW.x_forR1 ?_
  | with_reducible refine SW.x_forR2 ?_
  | with_reducible refine SW.x_forL ?_
  | with_reducible refine SW.x_forS ?_
  | with_reducible refine SW.x_lcR1 ?_
  | with_reducible refine SW.x_lcL ?_
  | with_reducible refine SW.x_lcS ?_
  | ((with_reducible apply SW.x_rngK1); (focus omega))
  | ((with_reducible apply SW.x_rngK2); (focus omega))
  | ((with_reducible apply SW.x_lcK1); (focus omega))
  | with_reducible refine SW.x_strK ?_
  | with_reducible refine SW.x_lcKS ?_
  | with_reducible refine SW.x_gName ?_
  | with_reducible refine SW.x_yes ?_
  | ((with_reducible apply SW.x_wipe); (focus exact rfl))
  | with_reducible refine SW.x_ifT ?_
  | with_reducible refine SW.x_ifF ?_
  | with_reducible refine SW.x_ifNT ?_
  | with_reducible refine SW.x_ifNF ?_
  | with_reducible refine SW.x_ltS ?_
  | with_reducible refine SW.x_leS ?_
  | with_reducible refine SW.x_gtS ?_
  | with_reducible refine SW.x_geS ?_
  | with_reducible refine SW.x_inGS ?_
  | with_reducible refine SW.isi_int_int ?_
  | with_reducible refine SW.isi_int_bool ?_
  | with_reducible refine SW.isi_int_str ?_
  | with_reducible refine SW.isi_int_list ?_
  | with_reducible refine SW.isi_int_tuple ?_
  | with_reducible refine SW.isi_int_dict ?_
  | with_reducible refine SW.isi_bl_int ?_
  | with_reducible refine SW.isi_bl_bool ?_
  | with_reducible refine SW.isi_bl_str ?_
  | with_reducible refine SW.isi_bl_list ?_
  | with_reducible refine SW.isi_bl_tuple ?_
  | with_reducible refine SW.isi_bl_dict ?_
  | with_reducible refine SW.isi_str_int ?_
  | with_reducible refine SW.isi_str_bool ?_
  | with_reducible refine SW.isi_str_str ?_
  | with_reducible refine SW.isi_str_list ?_
  | with_reducible refine SW.isi_str_tuple ?_
  | with_reducible refine SW.isi_str_dict ?_
  | with_reducible refine SW.isi_non_int ?_
  | with_reducible refine SW.isi_non_bool ?_
  | with_reducible refine SW.isi_non_str ?_
  | with_reducible refine SW.isi_non_list ?_
  | with_reducible refine SW.isi_non_tuple ?_
  | with_reducible refine SW.isi_non_dict ?_
  | with_reducible refine SW.x_m1 ?_
  | ((with_reducible apply SW.x_lenZ); (focus walk_at "len"))
  | ((with_reducible apply SW.x_slZ); (focus walk_at "len"))
  | ((with_reducible apply SW.x_plusZ); (focus walk_at "len"); (focus walk_at "len"))
  | with_reducible refine SW.x_isStr ?_
  | with_reducible refine SW.x_exv2 ?_
  | with_reducible refine SW.x_exvZ ?_
  | ((with_reducible apply SW.x_small); (focus exact Nat.le_of_ble_eq_true rfl))
  | ((with_reducible apply SW.x_ixL); (focus exact L2.upd_same); (focus exact rfl))
  | with_reducible refine SW.x_sp1 ?_
  | with_reducible refine SW.x_sp2 ?_
  | with_reducible refine SW.x_sp3 ?_
  | with_reducible refine SW.x_sp0 ?_)
local macro_rules | `(tactic| walk_at "s") => `(tactic| repeat walk_at "s1")

namespace SW
open PySem PySem.Spec PyProof.Rows L2
def top (i : Nat) : Stmt := PySem.Challenge.pw_stonewalks_k01_wholes_and_names.main.body.getD i (.Pass ⟨0, 0, 0, 0⟩)
def inClass (s : Stmt) (j : Nat) : Stmt := match s with
  | .ClassDef (body := b) .. => b.getD j (.Pass ⟨0, 0, 0, 0⟩)
  | _ => .Pass ⟨0, 0, 0, 0⟩
abbrev s_is_whole : Stmt := top 3
abbrev s_is_name : Stmt := top 4
abbrev s_NoNumber_init : Stmt := inClass (top 7) 0
abbrev s_law_cell : Stmt := top 9
abbrev s_law_box : Stmt := top 10
abbrev s_law_take : Stmt := top 11
abbrev s_law_far : Stmt := top 12
abbrev s_law_signs : Stmt := top 13
abbrev s_law_letters : Stmt := top 14
abbrev s_law_things : Stmt := top 15
abbrev s_law_whole_due : Stmt := top 16
abbrev s_law_name_due : Stmt := top 17
abbrev s_law : Stmt := top 18
structure Txt (K : PySem.W.Frag) (mg : Str → Option Value) : Prop where
  nf_NoNumber_found : PySem.W.findIn K (.ref (He.ga K "NoNumber")) "found" = some none
  b_StoneError : BiniC K (He.ga K "StoneError") "ValueError.__init__"
  n_abs : mg "abs" = none
  n_all : mg "all" = none
  n_bool : mg "bool" = none
  n_int : mg "int" = none
  n_isinstance : mg "isinstance" = none
  n_len : mg "len" = none
  n_max : mg "max" = none
  n_min : mg "min" = none
  n_range : mg "range" = none
  n_repr : mg "repr" = none
  n_str : mg "str" = none
  g_LETTERS : ∃ t, mg "LETTERS" = some (.str "abcdefghijklmnopqrstuvwxyz" t)
  g_MOST_LETTERS : ∃ t, mg "MOST_LETTERS" = some (.int 8 t)
  g_StoneError : mg "StoneError" = some (.ref (He.ga K "StoneError"))
  g_NoNumber : mg "NoNumber" = some (.ref (He.ga K "NoNumber"))
  x_NoNumber : XcC K (He.ga K "NoNumber")
  i_NoNumber : IniC K (He.ga K "NoNumber") (He.ma K (He.ga K "NoNumber") "__init__")
  off_NoNumber : noneOf K (.ref (He.ga K "NoNumber")) ["int", "bool", "str", "list", "tuple", "dict"]
  g_is_whole : mg "is_whole" = some (.ref (He.ga K "is_whole"))
  g_is_name : mg "is_name" = some (.ref (He.ga K "is_name"))
  g_law_cell : mg "_law_cell" = some (.ref (He.ga K "_law_cell"))
  g_law_box : mg "_law_box" = some (.ref (He.ga K "_law_box"))
  g_law_take : mg "_law_take" = some (.ref (He.ga K "_law_take"))
  g_law_far : mg "_law_far" = some (.ref (He.ga K "_law_far"))
  g_law_signs : mg "_law_signs" = some (.ref (He.ga K "_law_signs"))
  g_law_letters : mg "_law_letters" = some (.ref (He.ga K "_law_letters"))
  g_law_things : mg "_law_things" = some (.ref (He.ga K "_law_things"))
  g_law_whole_due : mg "_law_whole_due" = some (.ref (He.ga K "_law_whole_due"))
  g_law_name_due : mg "_law_name_due" = some (.ref (He.ga K "_law_name_due"))
  g_law : mg "law" = some (.ref (He.ga K "law"))
  d_is_whole : ∃ fd, FunD K "is_whole" "is_whole" (defArgs s_is_whole) (defBody s_is_whole) (defScope s_is_whole) [] [] (He.ga K "is_whole") fd
  d_is_name : ∃ fd, FunD K "is_name" "is_name" (defArgs s_is_name) (defBody s_is_name) (defScope s_is_name) [] [] (He.ga K "is_name") fd
  d_NoNumber_init : ∃ fd, FunD K "__init__" "NoNumber.__init__" (defArgs s_NoNumber_init) (defBody s_NoNumber_init) (defScope s_NoNumber_init) [] [] (He.ma K (He.ga K "NoNumber") "__init__") fd
  d_law_cell : ∃ fd, FunD K "_law_cell" "_law_cell" (defArgs s_law_cell) (defBody s_law_cell) (defScope s_law_cell) [] [] (He.ga K "_law_cell") fd
  d_law_box : ∃ fd, FunD K "_law_box" "_law_box" (defArgs s_law_box) (defBody s_law_box) (defScope s_law_box) [] [] (He.ga K "_law_box") fd
  d_law_take : ∃ fd, FunD K "_law_take" "_law_take" (defArgs s_law_take) (defBody s_law_take) (defScope s_law_take) [] [] (He.ga K "_law_take") fd
  d_law_far : ∃ fd, FunD K "_law_far" "_law_far" (defArgs s_law_far) (defBody s_law_far) (defScope s_law_far) [] [] (He.ga K "_law_far") fd
  d_law_signs : ∃ fd, FunD K "_law_signs" "_law_signs" (defArgs s_law_signs) (defBody s_law_signs) (defScope s_law_signs) [] [] (He.ga K "_law_signs") fd
  d_law_letters : ∃ fd, FunD K "_law_letters" "_law_letters" (defArgs s_law_letters) (defBody s_law_letters) (defScope s_law_letters) [] [] (He.ga K "_law_letters") fd
  d_law_things : ∃ fd, FunD K "_law_things" "_law_things" (defArgs s_law_things) (defBody s_law_things) (defScope s_law_things) [] [] (He.ga K "_law_things") fd
  d_law_whole_due : ∃ fd, FunD K "_law_whole_due" "_law_whole_due" (defArgs s_law_whole_due) (defBody s_law_whole_due) (defScope s_law_whole_due) [] [] (He.ga K "_law_whole_due") fd
  d_law_name_due : ∃ fd, FunD K "_law_name_due" "_law_name_due" (defArgs s_law_name_due) (defBody s_law_name_due) (defScope s_law_name_due) [] [] (He.ga K "_law_name_due") fd
  d_law : ∃ fd, FunD K "law" "law" (defArgs s_law) (defBody s_law) (defScope s_law) [] [] (He.ga K "law") fd
section
variable {P : Program} {w : World} {K : PySem.W.Frag} {mg : Str → Option Value} {base : Heap}

/-! is_whole -/
def wholeB (v : V) (l h : Int) : Bool := match v with
  | .int n => decide (l ≤ n) && decide (n ≤ h)
  | _ => false
def p_is_whole (K : PySem.W.Frag) : P3 := fun a b c H Q _ => ∃ l h : Int, b = .int l ∧ c = .int h ∧ Th K H a ∧ Q (.bl (wholeB a l h)) H
theorem sc_is_whole : FnScope ["thing", "low", "high"] ["thing", "low", "high"] (defScope s_is_whole) := ⟨rfl, rfl, rfl, by decide +kernel, rfl, by decide +kernel, by decide +kernel⟩
theorem c_is_whole (T : Txt K mg) : CalX P w K mg base 1 "is_whole" (sp3 (p_is_whole K)) [] := by
  obtain ⟨fd, F⟩ := T.d_is_whole
  refine ⟨_, fd, ["thing", "low", "high"], _, FunD.ok F sc_is_whole len3 (fun cdv A outer s H vs Q E hr h => ?_), T.g_is_whole, F.kp, FunD.bindsN F (fun _ _ _ _ _ _ us hl => match us, hl with | [_, _, _], _ => rfl), .nil⟩
  refine ⟨_, (pss_one (ps_ret (pe_and (pe_callB (call_isiXK (K := K)) (by rfl) T.n_isinstance (by decide +kernel) (pa_cons (pv 0) (pa_cons (pe_bltn (v := .ty "int") (by rfl) T.n_int (by decide +kernel) rfl) pa_nil))) (pe_and (pe_not (pe_callB (call_isiXK (K := K)) (by rfl) T.n_isinstance (by decide +kernel) (pa_cons (pv 0) (pa_cons (pe_bltn (v := .ty "bool") (by rfl) T.n_bool (by decide +kernel) rfl) pa_nil)))) (pe_one (pe_chain op_le op_le (pv 1) (pv 0) (pv 2))))))), ?_⟩
  obtain ⟨v, _, _, rfl, l, h, rfl, rfl, th, hQ⟩ := h
  refine entry (σ0 := [some _, some _, some _]) rfl ?_
  try dsimp only [cxOf]
  walk_at "s"
  rcases th with ⟨n, rfl⟩ | ⟨z, rfl, hz, kz⟩ | ⟨b, rfl⟩ | rfl | ⟨p, rfl, o⟩
  · walk_at "s"
    refine x_dec (fun c => ?_) fun c => ?_
    · walk_at "s"
      have e : wholeB (.int n) l h = decide (n ≤ h) := by
        show (decide (l ≤ n) && decide (n ≤ h)) = _
        rw [decide_eq_true c, Bool.true_and]
      rw [e] at hQ
      exact hQ
    · have e : wholeB (.int n) l h = false := by
        show (decide (l ≤ n) && decide (n ≤ h)) = _
        rw [decide_eq_false c, Bool.false_and]
      rw [e] at hQ
      exact hQ
  · walk_at "s"
    exact hQ
  · walk_at "s"
    exact hQ
  · walk_at "s"
    exact hQ
  · refine x_odd o (by decide +kernel) ?_
    walk_at "s"
    exact hQ

/-! is_name -/
def nameB (v : V) : Bool := match v with
  | .str z => decide (1 ≤ z.length) && (decide (z.length ≤ 8) && z.cps.toList.all fun c => decide (97 ≤ c) && decide (c ≤ 122))
  | _ => false
def p_is_name (K : PySem.W.Frag) : P1 := fun a H Q _ => Th K H a ∧ ∀ H', Same H H' → Q (.bl (nameB a)) H'
theorem in_letters (c : Nat) : decide (c ∈ ("abcdefghijklmnopqrstuvwxyz" : Str).cps.toList) = (decide (97 ≤ c) && decide (c ≤ 122)) := by
  have e : ("abcdefghijklmnopqrstuvwxyz" : Str).cps.toList = (List.range 26).map (· + 97) := by decide +kernel
  rw [e, Bool.eq_iff_iff]
  simp only [decide_eq_true_eq, Bool.and_eq_true, List.mem_map, List.mem_range]
  constructor
  · rintro ⟨a, h, rfl⟩; omega
  · intro h; exact ⟨c - 97, by omega, by omega⟩
theorem sc_is_name : FnScope ["thing", "sign"] ["thing"] (defScope s_is_name) := ⟨rfl, rfl, rfl, by decide +kernel, rfl, by decide +kernel, by decide +kernel⟩
theorem c_is_name (T : Txt K mg) : CalX P w K mg base 1 "is_name" (sp1 (p_is_name K)) [] := by
  obtain ⟨fd, F⟩ := T.d_is_name
  refine ⟨_, fd, ["thing"], _, FunD.ok F sc_is_name len1 (fun cdv A outer s H vs Q E hr h => ?_), T.g_is_name, F.kp, FunD.bindsN F (fun _ _ _ _ _ _ us hl => match us, hl with | [_], _ => rfl), .nil⟩
  refine ⟨_, (pss_cons (ps_if (PW.pt (pw_or (pt_not (pt_val (pe_callB (call_isiXK (K := K)) (by rfl) T.n_isinstance (by decide +kernel) (pa_cons (pv 0) (pa_cons (pe_bltn (v := .ty "str") (by rfl) T.n_str (by decide +kernel) rfl) pa_nil))))) (pw_or1 (pt_not (pt_chain op_le op_le pe_int (pe_callB (call_lenK (K := K)) (by rfl) T.n_len (by decide +kernel) (pa_cons (pv 0) pa_nil)) (pe_gi T.g_MOST_LETTERS)))))) (pss_one (ps_ret pe_bl)) pss_nil)
      (pss_one (ps_ret (pe_callB (cr_allK (K := K)) (by rfl) T.n_all (by decide +kernel) (pa_cons (pe_lc (own := [("sign", 1)]) rfl sc_is_name.nd (pi_str (pv 0)) (blkOk_by (own := [("sign", 1)]) (N := ["thing", "sign"]) (sc := defScope s_is_name) (by decide +kernel)) (fun _ _ _ _ _ => (pg_name (i := 1) sc_is_name.nd rfl (by first | exact Or.inl rfl | exact Or.inr rfl))) (fun _ _ _ _ _ => pts_nil) (fun _ _ _ _ _ => (pe_cmpR (op_inGK (K := K)) (pv 1) (pe_gs T.g_LETTERS) (by rfl)))) pa_nil))))), ?_⟩
  obtain ⟨v, rfl, th, hQ⟩ := h
  refine entry (σ0 := [some _, none]) rfl ?_
  try dsimp only [cxOf]
  walk_at "s"
  have no : ∀ {v : V}, nameB v = false → (∀ H', Same H H' → Q (.bl (nameB v)) H') → Q (.bl false) H := fun {v} e q => e ▸ q H fun _ _ h => h
  rcases th with ⟨n, rfl⟩ | ⟨z, rfl, hz, kz⟩ | ⟨b, rfl⟩ | rfl | ⟨p, rfl, o⟩
  · walk_at "s"
    exact no rfl hQ
  · walk_at "s"
    have hz2 : z.length ≤ 1000000 := by omega
    walk_at "s"
    have off : ¬ (1 ≤ (z.length : Int) ∧ (z.length : Int) ≤ 8) → nameB (.str z) = false := fun h => by
      show (decide (1 ≤ z.length) && (decide (z.length ≤ 8) && _)) = false
      by_cases h1 : 1 ≤ z.length
      · rw [decide_eq_false (p := z.length ≤ 8) (by omega), Bool.false_and, Bool.and_false]
      · rw [decide_eq_false h1, Bool.false_and]
    refine x_dec (fun c1 => ?_) fun c1 => ?_
    · walk_at "s"
      refine x_decN (fun c2 => ?_) fun c2 => ?_
      · walk_at "s"
        exact no (off fun h => c2 h.2) hQ
      · walk_at "s"
        intro d hd
        refine ⟨fun i H' => Same H H' ∧ H' d = some (.lst (((z.cps.toList.take i).map fun c => decide (c ∈ ("abcdefghijklmnopqrstuvwxyz" : Str).cps.toList)).map V.bl)), ⟨same_new hd, upd_same⟩, ?_, ?_⟩
        · rintro i c H' hc ⟨s1, ed⟩
          walk_at "s"
          refine ⟨_, ed, ?_, same_mut s1 hd, ?_⟩
          · rw [List.length_map, List.length_map, List.length_take]
            exact Nat.lt_of_le_of_lt (Nat.le_trans (Nat.min_le_right _ _) (by rw [← len_def]; exact hz)) (by decide)
          · rw [upd_same, List.take_add_one, hc, List.map_append, List.map_append]
            rfl
        · rintro H' ⟨s1, ed⟩
          walk_at "s"
          refine x_all (.inl (.inl ed)) ?_
          have e : (((z.cps.toList.take z.length).map fun c => decide (c ∈ ("abcdefghijklmnopqrstuvwxyz" : Str).cps.toList)).all id) = nameB (.str z) := by
            show _ = (decide (1 ≤ z.length) && (decide (z.length ≤ 8) && z.cps.toList.all fun c => decide (97 ≤ c) && decide (c ≤ 122)))
            rw [decide_eq_true (by omega : 1 ≤ z.length), decide_eq_true (by omega : z.length ≤ 8), Bool.true_and, Bool.true_and, len_def, List.take_length, List.all_map]
            congr 1
            funext c
            exact in_letters c
          rw [e]
          exact hQ _ s1
    · walk_at "s"
      exact no (off fun h => c1 h.1) hQ
  · walk_at "s"
    exact no rfl hQ
  · walk_at "s"
    exact no rfl hQ
  · refine x_odd o (by decide +kernel) ?_
    walk_at "s"
    exact no rfl hQ

/-! NoNumber_init -/
theorem sc_NoNumber_init : FnScope ["self", "found"] ["self", "found"] (defScope s_NoNumber_init) := ⟨rfl, rfl, rfl, by decide +kernel, rfl, by decide +kernel, by decide +kernel⟩
theorem m_NoNumber_init (T : Txt K mg) : ExcX P w K mg base 1 "NoNumber" (He.ga K "NoNumber") (sp2 (p_xini (He.ga K "NoNumber") "found")) [] := by
  obtain ⟨fd, F⟩ := T.d_NoNumber_init
  refine ⟨_, fd, ["self", "found"], _, T.x_NoNumber, T.i_NoNumber, FunD.ok F sc_NoNumber_init len2 (fun cdv A outer s H vs Q E hr h => ?_), T.g_NoNumber, FunD.bindsN F (fun _ _ _ _ _ _ us hl => match us, hl with | [_, _], _ => rfl), .nil⟩
  refine ⟨_, (pss_cons (ps_expr (pe_ocinit T.g_StoneError T.b_StoneError (pa_cons (pv 0) (pa_cons pe_str pa_nil))))
      (pss_one (ps_ost (pv 0) (pv 1)))), ?_⟩
  obtain ⟨_, b, rfl, e, rfl, he, hQ⟩ := h
  refine entry (σ0 := [some _, some _]) rfl ?_
  try dsimp only [cxOf]
  walk_at "s"
  refine x_veI ?_
  walk_at "s"
  refine veI1 T.x_NoNumber.o ?_ he ?_
  · exact Nat.le_of_ble_eq_true rfl
  refine x_ost ?_
  walk_at "s"
  exact ost1 T.x_NoNumber.o T.nf_NoNumber_found he fun H' x c => hQ _ x c

/-! law_cell -/
theorem sc_law_cell : FnScope ["script", "k"] ["script", "k"] (defScope s_law_cell) := ⟨rfl, rfl, rfl, by decide +kernel, rfl, by decide +kernel, by decide +kernel⟩
theorem c_law_cell (T : Txt K mg) : CalX P w K mg base 1 "_law_cell" (sp2 (p_law_cell K)) [] := by
  obtain ⟨fd, F⟩ := T.d_law_cell
  refine ⟨_, fd, ["script", "k"], _, FunD.ok F sc_law_cell len2 (fun cdv A outer s H vs Q E hr h => ?_), T.g_law_cell, F.kp, FunD.bindsN F (fun _ _ _ _ _ _ us hl => match us, hl with | [_, _], _ => rfl), .nil⟩
  refine ⟨_, (pss_cons (ps_if (pt_cmpR op_lt (pv 1) (pe_callB (call_lenK (K := K)) (by rfl) T.n_len (by decide +kernel) (pa_cons (pv 0) pa_nil)) (nomark _)) (pss_one (ps_ret (pe_ix (ix_seqK (K := K)) (pv 0) (pv 1) (fun _ _ => rfl)))) pss_nil)
      (pss_one (ps_ret (pe_op (op_plusK (K := K)) (pe_op op_mulX pe_int (pv 1)) pe_int)))), ?_⟩
  obtain ⟨_, _, rfl, p, ns, k, rfl, rfl, hk, hS, hQ⟩ := h
  refine entry (σ0 := [some _, some _]) rfl ?_
  try dsimp only [cxOf]
  walk_at "s"
  refine x_dec (fun c => ?_) fun c => ?_
  · walk_at "s"
    refine x_ixLS (v := .int (ns[k]?.getD 0)) hS ?_ (hQ _)
    · apply atI_nat
      rw [List.length_map] at c
      have : k < ns.length := by omega
      simp [this]
  · walk_at "s"
    exact hQ _

/-! law_box -/
theorem sc_law_box : FnScope ["cell"] ["cell"] (defScope s_law_box) := ⟨rfl, rfl, rfl, by decide +kernel, rfl, by decide +kernel, by decide +kernel⟩
theorem c_law_box (T : Txt K mg) : CalX P w K mg base 1 "_law_box" (sp1 p_law_box) [] := by
  obtain ⟨fd, F⟩ := T.d_law_box
  refine ⟨_, fd, ["cell"], _, FunD.ok F sc_law_box len1 (fun cdv A outer s H vs Q E hr h => ?_), T.g_law_box, F.kp, FunD.bindsN F (fun _ _ _ _ _ _ us hl => match us, hl with | [_], _ => rfl), .nil⟩
  refine ⟨_, (pss_one (ps_ret (pe_lst (pa_cons (pe_callB (call_max2X rfl) (by rfl) T.n_max (by decide +kernel) (pa_cons pe_int (pa_cons (pe_op op_sub (pv 0) (pe_op op_pow pe_int pe_int)) pa_nil))) (pa_cons (pe_op op_modN (pv 0) pe_int) (pa_cons pe_int pa_nil)))))), ?_⟩
  obtain ⟨_, rfl, n, rfl, hQ⟩ := h
  refine entry (σ0 := [some _]) rfl ?_
  try dsimp only [cxOf]
  walk_at "s"
  intro p H' hp s1 e1
  refine hQ _ _ hp s1 ⟨_, _, _, e1, ?_, ?_, ?_, ?_⟩ <;> omega

/-! law_take -/
theorem sc_law_take : FnScope ["box", "many", "digit", "number"] ["box", "many"] (defScope s_law_take) := ⟨rfl, rfl, rfl, by decide +kernel, rfl, by decide +kernel, by decide +kernel⟩
theorem c_law_take (T : Txt K mg) : CalX P w K mg base 1 "_law_take" (sp2 p_law_take) [] := by
  obtain ⟨fd, F⟩ := T.d_law_take
  refine ⟨_, fd, ["box", "many"], _, FunD.ok F sc_law_take len2 (fun cdv A outer s H vs Q E hr h => ?_), T.g_law_take, F.kp, FunD.bindsN F (fun _ _ _ _ _ _ us hl => match us, hl with | [_, _], _ => rfl), .nil⟩
  refine ⟨_, (pss_cons (ps_if (pt_cmpR op_gt (pe_ix (ix_seqK (K := K)) (pv 0) pe_int (fun _ _ => rfl)) pe_int (nomark _)) (pss_cons (ps_set (i := 2) sc_law_take.nd rfl (by first | exact Or.inl rfl | exact Or.inr rfl) (pe_op op_modN (pe_ix (ix_seqK (K := K)) (pv 0) pe_int (fun _ _ => rfl)) (pv 1)))
      (pss_cons (ps_asg (pe_op op_fdivX (pe_ix (ix_seqK (K := K)) (pv 0) pe_int (fun _ _ => rfl)) (pv 1)) (pg_sub (pv 0) pe_int set_list))
      (pss_one (ps_ret (pv 2))))) pss_nil)
      (pss_cons (ps_asg (pe_op (op_plusK (K := K)) (pe_ix (ix_seqK (K := K)) (pv 0) pe_int (fun _ _ => rfl)) pe_int) (pg_sub (pv 0) pe_int set_list))
      (pss_cons (ps_set (i := 3) sc_law_take.nd rfl (by first | exact Or.inl rfl | exact Or.inr rfl) (pe_op op_modN (pe_op op_pow (pe_op (op_plusK (K := K)) (pe_op (op_plusK (K := K)) (pe_ix (ix_seqK (K := K)) (pv 0) pe_int (fun _ _ => rfl)) (pe_op op_mulX pe_int (pe_ix (ix_seqK (K := K)) (pv 0) pe_int (fun _ _ => rfl)))) pe_int) pe_int) pe_int))
      (pss_cons (ps_set (i := 3) sc_law_take.nd rfl (by first | exact Or.inl rfl | exact Or.inr rfl) (pe_op op_modN (pe_op op_pow (pe_op (op_plusK (K := K)) (pv 3) (pe_op op_mulX pe_int (pe_ix (ix_seqK (K := K)) (pv 0) pe_int (fun _ _ => rfl)))) pe_int) pe_int))
      (pss_one (ps_ret (pe_op op_modN (pe_op op_fdivX (pv 3) pe_int) (pv 1)))))))), ?_⟩
  obtain ⟨_, _, rfl, p, m, k, rfl, rfl, m0, m1, bx, hQ⟩ := h
  refine entry (σ0 := [some _, some _, none, none]) rfl ?_
  try dsimp only [cxOf]
  obtain ⟨x, y, c, hb, y0, y1, c0, c1⟩ := bx
  walk_at "s"
  refine x_dec (fun hx => ?_) fun hx => ?_
  · walk_at "s"
    refine hQ _ _ (Int.emod_nonneg _ (by omega)) (Int.emod_lt_of_pos _ m0) ⟨_, _, _, upd_same, y0, y1, c0, by omega⟩ Chg.upd
  · walk_at "s"
    refine hQ _ _ (Int.emod_nonneg _ (by omega)) (Int.emod_lt_of_pos _ m0) ⟨_, _, _, upd_same, y0, y1, ?_, ?_⟩ Chg.upd <;> omega

/-! law_far -/
theorem sc_law_far : FnScope ["box", "number", "k"] ["box"] (defScope s_law_far) := ⟨rfl, rfl, rfl, by decide +kernel, rfl, by decide +kernel, by decide +kernel⟩
theorem c_law_far (T : Txt K mg) : CalX P w K mg base 2 "_law_far" (sp1 p_law_far) [] := by
  obtain ⟨fd, F⟩ := T.d_law_far
  refine ⟨_, fd, ["box"], _, FunD.ok F sc_law_far len1 (fun cdv A outer s H vs Q E hr h => ?_), T.g_law_far, F.kp, FunD.bindsN F (fun _ _ _ _ _ _ us hl => match us, hl with | [_], _ => rfl), .nil⟩
  refine ⟨_, (pss_cons (ps_set (i := 1) sc_law_far.nd rfl (by first | exact Or.inl rfl | exact Or.inr rfl) pe_int)
      (pss_cons (ps_for (passes_of rfl) rfl (pi_range1 (by rfl) T.n_range (pa_cons (pe_op (op_plusK (K := K)) pe_int (pe_x (c_law_take T) hr (by decide) passL (pa_cons (pv 0) (pa_cons pe_int pa_nil)))) pa_nil)) (pg_name (i := 2) sc_law_far.nd rfl (by first | exact Or.inl rfl | exact Or.inr rfl))
      (pss_one (ps_set (i := 1) sc_law_far.nd rfl (by first | exact Or.inl rfl | exact Or.inr rfl) (pe_op (op_plusK (K := K)) (pe_op op_mulX pe_int (pv 1)) (pe_x (c_law_take T) hr (by decide) passL (pa_cons (pv 0) (pa_cons pe_int pa_nil)))))))
      (pss_one (ps_ret (pe_ix (ix_seqK (K := K)) (pe_lst (pa_cons (pv 1) (pa_cons (pe_op op_sub pe_int (pv 1)) (pa_cons (pe_op op_sub (pe_op op_modN (pv 1) pe_int) pe_int) pa_nil)))) (pe_x (c_law_take T) hr (by decide) passL (pa_cons (pv 0) (pa_cons pe_int pa_nil))) (fun _ _ => rfl)))))), ?_⟩
  obtain ⟨_, rfl, p, k, rfl, bx, hQ⟩ := h
  refine entry (σ0 := [some _, none, none]) rfl ?_
  try dsimp only [cxOf]
  walk_at "s"
  refine take_use (k := k + 18) (bx.le (by omega)) (by omega) (by omega) fun d0 H1 d00 d01 bx1 ch1 => ?_
  walk_at "s"
  refine ⟨fun i σ' H' => ∃ (z : Nat) (v : Option V), σ' = [some (.ref p), some (.int (z : Int)), v] ∧ z < 1000 ^ i ∧ BoxAt (k + 18 - i) H' p ∧ Chg p H H', ⟨0, none, rfl, by decide, bx1, ch1⟩, ?_, ?_⟩
  · rintro i σ' H' hi ⟨z, v, rfl, hz, b2, c2⟩
    walk_at "s"
    refine take_use (k := k + 18 - (i + 1)) (b2.le (by omega)) (by omega) (by omega) fun d H2 e0 e1 b3 c3 => ?_
    walk_at "s"
    obtain ⟨dn, rfl⟩ : ∃ dn : Nat, d = (dn : Int) := ⟨d.toNat, by omega⟩
    refine ⟨1000 * z + dn, some (.int (0 + (i : Int))), ?_, ?_, b3, c2.trans c3⟩
    · simp
    · have e : 1000 ^ (i + 1) = 1000 ^ i * 1000 := rfl
      omega
  · rintro σ' H' ⟨z, v, rfl, hz, b2, c2⟩
    walk_at "s"
    intro q Hq hq sq eq
    walk_at "s"
    refine take_use (k := k) ((b2.le (j := k + 1) (by omega)).same sq) (by omega) (by omega) fun d H2 e0 e1 b3 c3 => ?_
    have hn : (1 + d0).toNat ≤ 9 := by omega
    have hz2 : z < 1000 ^ 9 := Nat.lt_of_lt_of_le hz (Nat.pow_le_pow_right (by decide) hn)
    have hz3 : z < 10 ^ 27 := hz2
    have hqp : q ≠ p := b2.ne hq
    have c4 : Chg p H H2 := (c2.trans (Chg.of sq)).trans c3
    have lq := c3 q _ hqp eq
    rcases (by omega : d = 0 ∨ d = 1 ∨ d = 2) with rfl | rfl | rfl
    all_goals
      walk_at "s"
      refine hQ _ _ ?_ b3 c4
      omega

/-! law_signs -/
def p_law_signs : P0 := fun H Q _ => ∀ z : Str, z.length = 95 → okS z → Q (.str z) H
theorem sc_law_signs : FnScope ["signs"] [] (defScope s_law_signs) := ⟨rfl, rfl, rfl, by decide +kernel, rfl, by decide +kernel, by decide +kernel⟩
theorem c_law_signs (T : Txt K mg) : CalX P w K mg base 1 "_law_signs" (sp0 p_law_signs) [] := by
  obtain ⟨fd, F⟩ := T.d_law_signs
  refine ⟨_, fd, [], _, FunD.ok F sc_law_signs len0 (fun cdv A outer s H vs Q E hr h => ?_), T.g_law_signs, F.kp, FunD.bindsN F (fun _ _ _ _ _ _ us hl => match us, hl with | [], _ => rfl), .nil⟩
  refine ⟨_, (pss_cons (ps_set (i := 0) sc_law_signs.nd rfl (by first | exact Or.inl rfl | exact Or.inr rfl) pe_str)
      (pss_one (ps_ret (pe_op (op_plusK (K := K)) (pv 0) pe_str)))), ?_⟩
  obtain ⟨rfl, hQ⟩ := h
  refine entry (σ0 := [none]) rfl ?_
  try dsimp only [cxOf]
  walk_at "s"
  exact hQ _ (by decide +kernel) (okS_app (okS_ofString _) (okS_ofString _))

/-! law_letters -/
def p_law_letters : P1 := fun a H Q _ => ∃ (p : Addr) (k : Nat), a = .ref p ∧ BoxAt (k + 15) H p ∧ ∀ z H', z.length ≤ 30 → okS z → BoxAt k H' p → Chg p H H' → Q (.str z) H'
theorem sc_law_letters : FnScope ["box", "small", "way", "found", "k", "at", "sign"] ["box"] (defScope s_law_letters) := ⟨rfl, rfl, rfl, by decide +kernel, rfl, by decide +kernel, by decide +kernel⟩
theorem c_law_letters (T : Txt K mg) : CalX P w K mg base 2 "_law_letters" (sp1 p_law_letters) [] := by
  obtain ⟨fd, F⟩ := T.d_law_letters
  refine ⟨_, fd, ["box"], _, FunD.ok F sc_law_letters len1 (fun cdv A outer s H vs Q E hr h => ?_), T.g_law_letters, F.kp, FunD.bindsN F (fun _ _ _ _ _ _ us hl => match us, hl with | [_], _ => rfl), .nil⟩
  refine ⟨_, (pss_cons (ps_set (i := 1) sc_law_letters.nd rfl (by first | exact Or.inl rfl | exact Or.inr rfl) pe_str)
      (pss_cons (ps_set (i := 2) sc_law_letters.nd rfl (by first | exact Or.inl rfl | exact Or.inr rfl) (pe_x (c_law_take T) hr (by decide) passL (pa_cons (pv 0) (pa_cons pe_int pa_nil))))
      (pss_cons (ps_set (i := 3) sc_law_letters.nd rfl (by first | exact Or.inl rfl | exact Or.inr rfl) (pe_joinK (K := K) pe_str (pe_lc (own := [("k", 4)]) rfl sc_law_letters.nd (pi_range1 (by rfl) T.n_range (pa_cons (pe_x (c_law_take T) hr (by decide) passL (pa_cons (pv 0) (pa_cons pe_int pa_nil))) pa_nil)) (blkOk_by (own := [("k", 4)]) (N := ["box", "small", "way", "found", "k", "at", "sign"]) (sc := defScope s_law_letters) (by decide +kernel)) (fun _ _ _ _ _ => (pg_name (i := 4) sc_law_letters.nd rfl (by first | exact Or.inl rfl | exact Or.inr rfl))) (fun _ _ _ _ _ => pts_nil) (fun _ _ _ _ _ => (pe_ix (ix_seqK (K := K)) (pv 1) (pe_x (c_law_take T) hr (by decide) passL (pa_cons (pv 0) (pa_cons pe_int pa_nil))) (fun _ _ => rfl))))))
      (pss_cons (ps_set (i := 5) sc_law_letters.nd rfl (by first | exact Or.inl rfl | exact Or.inr rfl) (pe_x (c_law_take T) hr (by decide) passL (pa_cons (pv 0) (pa_cons (pe_op (op_plusK (K := K)) (pe_callB (call_lenK (K := K)) (by rfl) T.n_len (by decide +kernel) (pa_cons (pv 3) pa_nil)) pe_int) pa_nil))))
      (pss_cons (ps_set (i := 6) sc_law_letters.nd rfl (by first | exact Or.inl rfl | exact Or.inr rfl) (pe_ix (ix_seqK (K := K)) (pe_x0 (c_law_signs T) hr (by decide) passL) (pe_x (c_law_take T) hr (by decide) passL (pa_cons (pv 0) (pa_cons pe_int pa_nil))) (fun _ _ => rfl)))
      (pss_cons (ps_if (pt_cmpR (op_eqGK (K := K) (hu64 hr)) (pv 2) pe_int (nomark _)) (pss_one (ps_ret (pe_op (op_plusK (K := K)) (pe_op (op_plusK (K := K)) (pe_slice (sl_anyK (K := K)) (pv 3) po_none (po_some (pv 5))) (pv 6)) (pe_slice (sl_anyK (K := K)) (pv 3) (po_some (pv 5)) po_none)))) pss_nil)
      (pss_cons (ps_if (pt_cmpR (op_eqGK (K := K) (hu64 hr)) (pv 2) pe_int (nomark _)) (pss_one (ps_ret (pe_op (op_plusK (K := K)) (pe_slice (sl_anyK (K := K)) (pv 3) po_none (po_some (pv 5))) (pe_slice (sl_anyK (K := K)) (pv 3) (po_some (pe_op (op_plusK (K := K)) (pv 5) pe_int)) po_none)))) pss_nil)
      (pss_cons (ps_if (pt_cmpR (op_eqGK (K := K) (hu64 hr)) (pv 2) pe_int (nomark _)) (pss_one (ps_ret (pe_op (op_plusK (K := K)) (pe_op (op_plusK (K := K)) (pe_slice (sl_anyK (K := K)) (pv 3) po_none (po_some (pv 5))) (pv 6)) (pe_slice (sl_anyK (K := K)) (pv 3) (po_some (pe_op (op_plusK (K := K)) (pv 5) pe_int)) po_none)))) pss_nil)
      (pss_one (ps_ret (pv 3))))))))))), ?_⟩
  obtain ⟨_, rfl, p, k, rfl, bx, hQ⟩ := h
  refine entry (σ0 := [some _, none, none, none, none, none, none]) rfl ?_
  try dsimp only [cxOf]
  walk_at "s"
  refine take_use (k := k + 14) (bx.le (by omega)) (by omega) (by omega) fun way H1 w0 w1 bx1 ch1 => ?_
  walk_at "s"
  refine take_use (k := k + 13) (bx1.le (by omega)) (by omega) (by omega) fun n H2 n0 n1 bx2 ch2 => ?_
  walk_at "s"
  intro d hd
  refine ⟨fun i H' => ∃ cs : List Nat, cs.length = i ∧ okS ⟨cs.toArray⟩ ∧ H' d = some (.lst ((cs.map one).map V.str)) ∧ BoxAt (k + 13 - i) H' p ∧ Chg p H2 H', ⟨[], rfl, okS_cs (by simp), upd_same, bx2.upd hd, Chg.of (same_new hd)⟩, ?_, ?_⟩
  · rintro i H' hi ⟨cs, el, oz, ed, b3, c3⟩
    walk_at "s"
    refine take_use (k := k + 13 - (i + 1)) (b3.le (by omega)) (by omega) (by omega) fun d2 H4 e0 e1 b4 c4 => ?_
    refine x_ixSr e0 e1 (by decide +kernel) fun c hc => ?_
    refine ⟨_, c4.at (bx2.ne hd) ed, ?_, cs ++ [c], ?_, ?_, ?_, ?_, ?_⟩
    · rw [List.length_map, List.length_map, el]
      exact Nat.lt_of_lt_of_le (by omega : i < 1000) (by decide)
    · rw [List.length_append, el]; rfl
    · rw [← str_app]
      exact okS_app oz (okS_one (okS_ofString _ c (List.mem_of_getElem? hc)))
    · rw [upd_same, List.map_append, List.map_append]; rfl
    · exact (b4.upd_of (bx2.ne hd)).le (by omega)
    · exact (c3.trans c4).updN hd
  · rintro H' ⟨cs, el, oz, ed, b3, c3⟩
    walk_at "s"
    refine x_joinCs ed (by omega) ?_
    obtain ⟨z, ez, hz, kz⟩ : ∃ z : Str, z = ⟨cs.toArray⟩ ∧ z.length ≤ 10 ∧ okS z := ⟨_, rfl, by rw [len_cs]; omega, oz⟩
    rw [← ez]
    have hz2 : z.length ≤ 1000000 := by omega
    walk_at "s"
    refine take_use (k := k + 2) (b3.le (by omega)) (by omega) (by omega) fun at_ H4 a0 a1 b4 c4 => ?_
    walk_at "s"
    intro z2 hz3 kz2
    walk_at "s"
    refine take_use (k := k + 1) (b4.le (by omega)) (by omega) (by omega) fun m H5 m0 m1 b5 c5 => ?_
    refine x_ixSr m0 (by omega) (by omega) fun c hc => ?_
    have kc : okS (one c) := okS_one (kz2 c (List.mem_of_getElem? hc))
    have cc : Chg p H H5 := (((ch1.trans ch2).trans c3).trans c4).trans c5
    have bb : BoxAt k H5 p := b5.le (by omega)
    walk_at "s"
    have q1 : ∀ lo hi, (cutS z lo hi).length ≤ 10 := fun lo hi => cut_le hz
    have q3 : ∀ lo, (cutS z none lo ++ one c).length ≤ 11 := fun lo => app_le (q1 none lo) (Nat.le_refl 1) (by decide)
    have q4 : ∀ lo, (cutS z none lo ++ one c).length ≤ 1000000 := fun lo => Nat.le_trans (q3 lo) (by decide)
    have q5 : ∀ lo hi, (cutS z lo hi).length ≤ 1000000 := fun lo hi => Nat.le_trans (q1 lo hi) (by decide)
    refine x_dec (fun _ => ?_) fun _ => ?_
    · walk_at "s"
      exact x_plusZ (q4 _) (q5 _ _) (hQ _ _ (app_le (q3 _) (q1 _ _) (by decide)) (okS_app (okS_app (okS_cut kz) kc) (okS_cut kz)) bb cc)
    · walk_at "s"
      refine x_dec (fun _ => ?_) fun _ => ?_
      · walk_at "s"
        exact hQ _ _ (app_le (q1 _ _) (q1 _ _) (by decide)) (okS_app (okS_cut kz) (okS_cut kz)) bb cc
      · walk_at "s"
        refine x_dec (fun _ => ?_) fun _ => ?_
        · walk_at "s"
          exact x_plusZ (q4 _) (q5 _ _) (hQ _ _ (app_le (q3 _) (q1 _ _) (by decide)) (okS_app (okS_app (okS_cut kz) kc) (okS_cut kz)) bb cc)
        · walk_at "s"
          exact hQ _ _ (by omega) kz bb cc

/-! law_things -/
def p_law_things (K : PySem.W.Frag) : P3 := fun a b c H Q _ => ∃ (p : Addr) (l h : Int) (k : Nat), a = .ref p ∧ b = .int l ∧ c = .int h ∧ l.natAbs < 10 ^ 28 ∧ BoxAt (k + 90) H p ∧
  ∀ q xs H', H' q = some (.lst xs) → q ≠ p → (∀ x ∈ xs, Th K H' x) → xs.length ≤ 20 → Chg p H H' → Q (.ref q) H'
theorem small_text {l : Int} (hl : l.natAbs < 10 ^ 28) : l.natAbs.log2 < 1920 ∧ (Str.ofString (toString l)).length ≤ 1000 := by
  have h1 : l.natAbs.log2 < 200 := log2_lt (Nat.lt_of_lt_of_le hl (by decide)) (by decide)
  refine ⟨by omega, ?_⟩
  have h3 : (Str.ofString (toString l)).length ≤ 29 := by
    have h4 := int_text_length_le10 (a := l) (k := 28) (by decide) hl
    rw [len_def, Str.ofString_eq_toList]
    simpa [String.length_toList] using h4
  omega
theorem sc_law_things : FnScope ["box", "low", "high", "numbers", "text", "others", "found"] ["box", "low", "high"] (defScope s_law_things) := ⟨rfl, rfl, rfl, by decide +kernel, rfl, by decide +kernel, by decide +kernel⟩
theorem c_law_things (T : Txt K mg) : CalX P w K mg base 3 "_law_things" (sp3 (p_law_things K)) [] := by
  obtain ⟨fd, F⟩ := T.d_law_things
  refine ⟨_, fd, ["box", "low", "high"], _, FunD.ok F sc_law_things len3 (fun cdv A outer s H vs Q E hr h => ?_), T.g_law_things, F.kp, FunD.bindsN F (fun _ _ _ _ _ _ us hl => match us, hl with | [_, _, _], _ => rfl), .nil⟩
  refine ⟨_, (pss_cons (ps_set (i := 3) sc_law_things.nd rfl (by first | exact Or.inl rfl | exact Or.inr rfl) (pe_lst (pa_cons (pv 1) (pa_cons (pv 2) (pa_cons (pe_op op_sub (pv 1) pe_int) (pa_cons (pe_op (op_plusK (K := K)) (pv 2) pe_int) (pa_cons (pe_op op_fdivX (pe_op (op_plusK (K := K)) (pv 1) (pv 2)) pe_int) (pa_cons (pe_x (c_law_far T) hr (by decide) passL (pa_cons (pv 0) pa_nil)) (pa_cons pe_int (pa_cons pe_int pa_nil))))))))))
      (pss_cons (ps_set (i := 4) sc_law_things.nd rfl (by first | exact Or.inl rfl | exact Or.inr rfl) (pe_x (c_law_letters T) hr (by decide) passL (pa_cons (pv 0) pa_nil)))
      (pss_cons (ps_set (i := 5) sc_law_things.nd rfl (by first | exact Or.inl rfl | exact Or.inr rfl) (pe_lst (pa_cons pe_non (pa_cons pe_bl (pa_cons pe_bl (pa_cons (pe_lst (pa_cons (pv 4) pa_nil)) (pa_cons (pe_tup (pa_cons (pv 4) pa_nil)) (pa_cons pe_dnewK (pa_cons (pe_disp (pps_cons pe_str (pv 4) pps_nil) (by rfl) (by rfl) (fun z => by cases z) (by decide)) (pa_cons (pe_callTy call_strX (by rfl) T.n_str (by decide +kernel) (pa_cons (pv 1) pa_nil)) (pa_cons pe_str (pa_cons (pe_exx (m_NoNumber_init T) hr (by decide) (pa_cons pe_str pa_nil)) (pa_cons (pe_lst (pa_cons pe_str pa_nil)) (pa_cons (pe_tup (pa_cons pe_str (pa_cons pe_str pa_nil))) pa_nil))))))))))))))
      (pss_cons (ps_set (i := 6) sc_law_things.nd rfl (by first | exact Or.inl rfl | exact Or.inr rfl) (pe_op (op_plusK (K := K)) (pv 3) (pe_lst (pa_cons (pv 4) (pa_cons (pe_x (c_law_letters T) hr (by decide) passL (pa_cons (pv 0) pa_nil)) (pa_cons (pe_op (op_plusK (K := K)) (pv 4) (pe_x (c_law_letters T) hr (by decide) passL (pa_cons (pv 0) pa_nil))) (pa_cons (pe_slice (sl_anyK (K := K)) (pv 4) po_none (po_some pe_int)) pa_nil)))))))
      (pss_one (ps_ret (pe_op (op_plusK (K := K)) (pv 6) (pe_lst (pa_cons (pe_ix (ix_seqK (K := K)) (pv 5) (pe_x (c_law_take T) hr (by decide) passL (pa_cons (pv 0) (pa_cons pe_int pa_nil))) (fun _ _ => rfl)) (pa_cons (pe_ix (ix_seqK (K := K)) (pv 5) (pe_x (c_law_take T) hr (by decide) passL (pa_cons (pv 0) (pa_cons pe_int pa_nil))) (fun _ _ => rfl)) (pa_cons pe_bl pa_nil))))))))))), ?_⟩
  obtain ⟨_, _, _, rfl, p, l, h, k, rfl, rfl, rfl, hl, bx, hQ⟩ := h
  refine entry (σ0 := [some _, some _, some _, none, none, none, none]) rfl ?_
  try dsimp only [cxOf]
  walk_at "s"
  refine far_use (k := k + 70) (bx.le (by omega)) fun n H1 n0 bx1 ch1 => ?_
  walk_at "s"
  intro q1 Hq hq1 sq1 eq1
  walk_at "s"
  have nq : q1 ≠ p := bx1.ne hq1
  refine ⟨p, k + 54, rfl, (bx1.same sq1).le (by omega), fun z H2 hz kz bx2 ch2 => ?_⟩
  have l1 := ch2.at nq eq1
  have c02 : Chg p H H2 := ((ch1.trans (Chg.of sq1)).trans ch2)
  clear ch1 ch2
  walk_at "s"
  intro qa Ha ha sa ea
  have na := bx2.ne ha
  have ba := bx2.same sa
  have ta : Thp K p Ha (.ref qa) := Thp.lst ea na
  have ca : Chg p H Ha := c02.trans (Chg.of sa)
  walk_at "s"
  intro qb Hb hb sb eb
  have bb := ba.same sb
  have tb : Thp K p Hb (.ref qb) := Thp.tup eb (ba.ne hb)
  walk_at "s"
  intro qc Hc hc sc ec
  have bc := bb.same sc
  have tc : Thp K p Hc (.ref qc) := Thp.dK ec (bb.ne hc)
  walk_at "s"
  intro qd Hd hd sd ed
  have bd := bc.same sd
  have td : Thp K p Hd (.ref qd) := Thp.dK ed (bc.ne hd)
  walk_at "s"
  refine x_strI (small_text hl).1 ?_
  walk_at "s"
  intro qe He he se ee
  have be := bd.same se
  obtain ⟨xp, yp, cp, epp, _⟩ := be
  have te : Thp K p He (.ref qe) := Thp.exc ee epp T.x_NoNumber.x T.off_NoNumber
  have be := bd.same se
  walk_at "s"
  intro qf Hf hf sf ef
  have bf := be.same sf
  have tf : Thp K p Hf (.ref qf) := Thp.lst ef (be.ne hf)
  walk_at "s"
  intro qg Hg hg sg eg
  have bg := bf.same sg
  have tg : Thp K p Hg (.ref qg) := Thp.tup eg (bf.ne hg)
  walk_at "s"
  intro qo Ho ho so eo
  have bo := bg.same so
  have no := bg.ne ho
  have cg : Chg p Hg Ho := Chg.of so
  have cf : Chg p Hf Ho := (Chg.of sg).trans cg
  have ce : Chg p He Ho := (Chg.of sf).trans cf
  have cd : Chg p Hd Ho := (Chg.of se).trans ce
  have cc : Chg p Hc Ho := (Chg.of sd).trans cd
  have cb : Chg p Hb Ho := (Chg.of sc).trans cc
  have ca' : Chg p Ha Ho := (Chg.of sb).trans cb
  have cH : Chg p H Ho := ca.trans ca'
  have lo := (Chg.trans (Chg.of sa) ca').at nq l1
  have all : ∀ x ∈ [V.non, V.bl true, V.bl false, V.ref qa, V.ref qb, V.ref qc, V.ref qd, V.str (Str.ofString (toString l)), V.str (Str.ofString ""), V.ref qe, V.ref qf, V.ref qg], Thp K p Ho x := by
    intro x hx
    simp only [List.mem_cons, List.not_mem_nil, or_false] at hx
    rcases hx with rfl | rfl | rfl | rfl | rfl | rfl | rfl | rfl | rfl | rfl | rfl | rfl
    · exact Th.non
    · exact Th.bl _
    · exact Th.bl _
    · exact ta.keep ca'
    · exact tb.keep cb
    · exact tc.keep cc
    · exact td.keep cd
    · exact Th.str (small_text hl).2 (okS_ofString _)
    · exact Th.str (by decide +kernel) (okS_ofString _)
    · exact te.keep ce
    · exact tf.keep cf
    · exact tg.keep cg
  clear ta tb tc td te tf tg
  walk_at "s"
  refine ⟨p, k + 38, rfl, bo.le (by omega), fun z2 H3 hz2 kz2 bx3 ch3 => ?_⟩
  walk_at "s"
  refine ⟨p, k + 22, rfl, bx3.le (by omega), fun z3 H4 hz3 kz3 bx4 ch4 => ?_⟩
  have c4 : Chg p Ho H4 := ch3.trans ch4
  have l4 := c4.at nq lo
  walk_at "s"
  intro qh Hh hh sh eh
  have l5 := sh _ _ l4
  walk_at "s"
  intro qi Hi hi si ei
  have bi := (bx4.same sh).same si
  have ci : Chg p Ho Hi := (c4.trans (Chg.of sh)).trans (Chg.of si)
  have eoi := ci.at no eo
  have alli := Thp.all all ci
  walk_at "s"
  refine take_use (k := k + 21) (bi.le (by omega)) (by omega) (by omega) fun d1 H5 d10 d11 bx5 ch5 => ?_
  obtain ⟨v1, a1, m1⟩ := atI_len (xs := [V.non, V.bl true, V.bl false, V.ref qa, V.ref qb, V.ref qc, V.ref qd, V.str (Str.ofString (toString l)), V.str (Str.ofString ""), V.ref qe, V.ref qf, V.ref qg]) d10 d11
  refine x_ixL (ch5.at no eoi) a1 ?_
  walk_at "s"
  refine take_use (k := k + 20) (bx5.le (by omega)) (by omega) (by omega) fun d2 H6 d20 d21 bx6 ch6 => ?_
  obtain ⟨v2, a2, m2⟩ := atI_len (xs := [V.non, V.bl true, V.bl false, V.ref qa, V.ref qb, V.ref qc, V.ref qd, V.str (Str.ofString (toString l)), V.str (Str.ofString ""), V.ref qe, V.ref qf, V.ref qg]) d20 d21
  have c6 : Chg p Hi H6 := ch5.trans ch6
  have ei6 := c6.at ((bx4.same sh).ne hi) ei
  refine x_ixL (c6.at no eoi) a2 ?_
  walk_at "s"
  intro qj Hj hj sj ej
  have ei7 := sj _ _ ei6
  walk_at "s"
  intro qk Hk hk sk ek
  have cij : Chg p Hi Hk := (c6.trans (Chg.of sj)).trans (Chg.of sk)
  refine hQ _ _ _ ek ((bx6.same sj).ne hk) (fun x hx => Thp.th (p := p) ?_) (Nat.le_of_ble_eq_true rfl) ((cH.trans ci).trans cij)
  have c1 : Thp K p Hk v1 := (alli _ m1).keep cij
  have c2 : Thp K p Hk v2 := (alli _ m2).keep cij
  simp only [List.mem_append, List.mem_cons, List.not_mem_nil, or_false] at hx
  rcases hx with ((rfl | rfl | rfl | rfl | rfl | rfl | rfl | rfl) | rfl | rfl | rfl | rfl) | rfl | rfl | rfl
  all_goals first
    | exact c1
    | exact c2
    | exact Th.int _
    | exact Th.bl _
    | (refine Th.str (Nat.le_trans (cut_le hz) (by decide)) (okS_cut kz))
    | (refine Th.str (app_le hz hz3 (by decide)) (okS_app kz kz3))
    | (refine Th.str (by omega) ?_; assumption)

/-! law_whole_due -/
theorem sc_law_whole_due : FnScope ["thing", "low", "high"] ["thing", "low", "high"] (defScope s_law_whole_due) := ⟨rfl, rfl, rfl, by decide +kernel, rfl, by decide +kernel, by decide +kernel⟩
theorem c_law_whole_due (T : Txt K mg) : CalX P w K mg base 1 "_law_whole_due" (sp3 (p_is_whole K)) [] := by
  obtain ⟨fd, F⟩ := T.d_law_whole_due
  refine ⟨_, fd, ["thing", "low", "high"], _, FunD.ok F sc_law_whole_due len3 (fun cdv A outer s H vs Q E hr h => ?_), T.g_law_whole_due, F.kp, FunD.bindsN F (fun _ _ _ _ _ _ us hl => match us, hl with | [_, _, _], _ => rfl), .nil⟩
  refine ⟨_, (pss_cons (ps_if (PW.pt (pw_or (pt_val (pe_callB (call_isiXK (K := K)) (by rfl) T.n_isinstance (by decide +kernel) (pa_cons (pv 0) (pa_cons (pe_bltn (v := .ty "bool") (by rfl) T.n_bool (by decide +kernel) rfl) pa_nil)))) (pw_or1 (pt_not (pt_val (pe_callB (call_isiXK (K := K)) (by rfl) T.n_isinstance (by decide +kernel) (pa_cons (pv 0) (pa_cons (pe_bltn (v := .ty "int") (by rfl) T.n_int (by decide +kernel) rfl) pa_nil)))))))) (pss_one (ps_ret pe_bl)) pss_nil)
      (pss_one (ps_ret (pe_and (pe_not (pe_cmpR op_lt (pv 0) (pv 1) (nomark _))) (pe_one (pe_not (pe_cmpR op_gt (pv 0) (pv 2) (nomark _)))))))), ?_⟩
  obtain ⟨v, _, _, rfl, l, h, rfl, rfl, th, hQ⟩ := h
  refine entry (σ0 := [some _, some _, some _]) rfl ?_
  try dsimp only [cxOf]
  walk_at "s"
  rcases th with ⟨n, rfl⟩ | ⟨z, rfl, hz, kz⟩ | ⟨b, rfl⟩ | rfl | ⟨p, rfl, o⟩
  · walk_at "s"
    refine x_decN (fun c => ?_) fun c => ?_
    · walk_at "s"
      have e : wholeB (.int n) l h = !decide (h < n) := by
        show (decide (l ≤ n) && decide (n ≤ h)) = _
        rw [decide_eq_true (by omega), Bool.true_and, ← decide_not]
        exact decide_eq_decide.mpr (by omega)
      rw [e] at hQ
      exact hQ
    · have e : wholeB (.int n) l h = false := by
        show (decide (l ≤ n) && decide (n ≤ h)) = _
        rw [decide_eq_false (by omega), Bool.false_and]
      rw [e] at hQ
      exact hQ
  · walk_at "s"
    exact hQ
  · walk_at "s"
    exact hQ
  · walk_at "s"
    exact hQ
  · refine x_odd o (by decide +kernel) ?_
    walk_at "s"
    refine x_odd o (by decide +kernel) ?_
    walk_at "s"
    exact hQ

/-! law_name_due -/
theorem sc_law_name_due : FnScope ["thing", "sign"] ["thing"] (defScope s_law_name_due) := ⟨rfl, rfl, rfl, by decide +kernel, rfl, by decide +kernel, by decide +kernel⟩
theorem c_law_name_due (T : Txt K mg) : CalX P w K mg base 1 "_law_name_due" (sp1 (p_is_name K)) [] := by
  obtain ⟨fd, F⟩ := T.d_law_name_due
  refine ⟨_, fd, ["thing"], _, FunD.ok F sc_law_name_due len1 (fun cdv A outer s H vs Q E hr h => ?_), T.g_law_name_due, F.kp, FunD.bindsN F (fun _ _ _ _ _ _ us hl => match us, hl with | [_], _ => rfl), .nil⟩
  refine ⟨_, (pss_cons (ps_if (PW.pt (pw_or (pt_not (pt_val (pe_callB (call_isiXK (K := K)) (by rfl) T.n_isinstance (by decide +kernel) (pa_cons (pv 0) (pa_cons (pe_bltn (v := .ty "str") (by rfl) T.n_str (by decide +kernel) rfl) pa_nil))))) (pw_or (pt_cmpR (op_eqGK (K := K) (hu64 hr)) (pe_callB (call_lenK (K := K)) (by rfl) T.n_len (by decide +kernel) (pa_cons (pv 0) pa_nil)) pe_int (nomark _)) (pw_or1 (pt_cmpR op_gt (pe_callB (call_lenK (K := K)) (by rfl) T.n_len (by decide +kernel) (pa_cons (pv 0) pa_nil)) pe_int (nomark _)))))) (pss_one (ps_ret pe_bl)) pss_nil)
      (pss_one (ps_ret (pe_cmpR (op_eqGK (K := K) (hu64 hr)) (pe_lc (own := [("sign", 1)]) rfl sc_law_name_due.nd (pi_str (pv 0)) (blkOk_by (own := [("sign", 1)]) (N := ["thing", "sign"]) (sc := defScope s_law_name_due) (by decide +kernel)) (fun _ _ _ _ _ => (pg_name (i := 1) sc_law_name_due.nd rfl (by first | exact Or.inl rfl | exact Or.inr rfl))) (fun _ _ _ _ _ => (pts_one (pt_not (pt_chain op_leS op_leS pe_str (pv 1) pe_str)))) (fun _ _ _ _ _ => (pv 1))) (pe_lst pa_nil) (nomark _))))), ?_⟩
  obtain ⟨v, rfl, th, hQ⟩ := h
  refine entry (σ0 := [some _, none]) rfl ?_
  try dsimp only [cxOf]
  walk_at "s"
  have no : ∀ {v : V}, nameB v = false → (∀ H', Same H H' → Q (.bl (nameB v)) H') → Q (.bl false) H := fun {v} e q => e ▸ q H fun _ _ h => h
  rcases th with ⟨n, rfl⟩ | ⟨z, rfl, hz, kz⟩ | ⟨b, rfl⟩ | rfl | ⟨p, rfl, o⟩
  · walk_at "s"
    exact no rfl hQ
  · have hz2 : z.length ≤ 1000000 := by omega
    walk_at "s"
    have off : ¬ (1 ≤ (z.length : Int) ∧ (z.length : Int) ≤ 8) → nameB (.str z) = false := fun h => by
      show (decide (1 ≤ z.length) && (decide (z.length ≤ 8) && _)) = false
      by_cases h1 : 1 ≤ z.length
      · rw [decide_eq_false (p := z.length ≤ 8) (by omega), Bool.false_and, Bool.and_false]
      · rw [decide_eq_false h1, Bool.false_and]
    refine x_dec (fun c1 => ?_) fun c1 => ?_
    · walk_at "s"
      exact no (off fun h => by omega) hQ
    · walk_at "s"
      refine x_dec (fun c2 => ?_) fun c2 => ?_
      · walk_at "s"
        exact no (off fun h => by omega) hQ
      · walk_at "s"
        intro d hd
        refine ⟨fun i H' => Same H H' ∧ H' d = some (.lst ((((z.cps.toList.take i).filter fun c => !(decide (97 ≤ c) && decide (c ≤ 122))).map one).map V.str)), ⟨same_new hd, upd_same⟩, ?_, ?_⟩
        · rintro i c H' hc ⟨s1, ed⟩
          walk_at "s"
          rw [sign_lt (z := Str.ofString "a") (k := 97) (by decide +kernel)]
          have step : ∀ b, (decide (97 ≤ c) && decide (c ≤ 122)) = b → (b = false → ((((z.cps.toList.take i).filter fun c => !(decide (97 ≤ c) && decide (c ≤ 122))).map one).map V.str) ++ [V.str ⟨#[c]⟩] = (((z.cps.toList.take (i + 1)).filter fun c => !(decide (97 ≤ c) && decide (c ≤ 122))).map one).map V.str) ∧
              (b = true → (((z.cps.toList.take i).filter fun c => !(decide (97 ≤ c) && decide (c ≤ 122))).map one).map V.str = (((z.cps.toList.take (i + 1)).filter fun c => !(decide (97 ≤ c) && decide (c ≤ 122))).map one).map V.str) := fun b hb => by
            rw [List.take_add_one, hc, List.filter_append]
            constructor
            · rintro rfl
              have e : ([c].filter fun c => !(decide (97 ≤ c) && decide (c ≤ 122))) = [c] := by simp [List.filter, hb]
              rw [show (some c).toList = [c] from rfl, e, List.map_append, List.map_append]
              rfl
            · rintro rfl
              have e : ([c].filter fun c => !(decide (97 ≤ c) && decide (c ≤ 122))) = [] := by simp [List.filter, hb]
              rw [show (some c).toList = [c] from rfl, e, List.append_nil]
          have small : ((((z.cps.toList.take i).filter fun c => !(decide (97 ≤ c) && decide (c ≤ 122))).map one).map V.str).length < sizeLine := by
            rw [List.length_map, List.length_map]
            exact Nat.lt_of_le_of_lt (Nat.le_trans (List.length_filter_le _ _) (Nat.le_trans (by rw [List.length_take]; exact Nat.min_le_right _ _) (by rw [← len_def]; exact hz))) (by decide)
          refine x_decN (fun a1 => ?_) fun a1 => ?_
          · walk_at "s"
            rw [sign_gt (z := Str.ofString "z") (k := 122) (by decide +kernel), Bool.not_not]
            refine x_dec (fun a2 => ?_) fun a2 => ?_
            · walk_at "s"
              refine ⟨_, ed, small, same_mut s1 hd, ?_⟩
              rw [upd_same, (step _ rfl).1 (by rw [decide_eq_false (p := c ≤ 122) (by omega), Bool.and_false])]
            · refine ⟨s1, ?_⟩
              rw [ed, (step _ rfl).2 (by rw [decide_eq_true (by omega : 97 ≤ c), decide_eq_true (by omega : c ≤ 122)]; rfl)]
          · walk_at "s"
            refine ⟨_, ed, small, same_mut s1 hd, ?_⟩
            rw [upd_same, (step _ rfl).1 (by rw [decide_eq_false (p := 97 ≤ c) (by omega), Bool.false_and])]
        · rintro H' ⟨s1, ed⟩
          walk_at "s"
          intro q Hq hq sq eq
          rw [len_def, List.take_length] at ed
          refine x_eqStrs (ws := []) (sq _ _ ed) eq (fun y hy => ?_) (by simp) ?_
          · obtain ⟨c, hc, rfl⟩ := List.mem_map.mp hy
            exact okS_one (kz c (List.mem_filter.mp hc).1)
          · have e : decide (((z.cps.toList.filter fun c => !(decide (97 ≤ c) && decide (c ≤ 122))).map one) = []) = nameB (.str z) := by
              show _ = (decide (1 ≤ z.length) && (decide (z.length ≤ 8) && z.cps.toList.all fun c => decide (97 ≤ c) && decide (c ≤ 122)))
              rw [decide_eq_true (by omega : 1 ≤ z.length), decide_eq_true (by omega : z.length ≤ 8), Bool.true_and, Bool.true_and, Bool.eq_iff_iff, decide_eq_true_eq, List.map_eq_nil_iff, List.filter_eq_nil_iff, List.all_eq_true]
              refine forall_congr' fun c => forall_congr' fun _ => ?_
              cases (decide (97 ≤ c) && decide (c ≤ 122)) <;> simp
            rw [e]
            exact hQ _ fun b o q1 => sq _ _ (s1 b o q1)
  · walk_at "s"
    exact no rfl hQ
  · walk_at "s"
    exact no rfl hQ
  · refine x_odd o (by decide +kernel) ?_
    walk_at "s"
    exact no rfl hQ

/-! law -/
theorem repr_bools {K : PySem.W.Frag} {H : Hp} {Q : VK} {q : Addr} {a b : Bool} (e : H q = some (.lst [.bl a, .bl b])) (h : Q (.str (PyData.shown (.list [.bool a, .bool b]))) H) : rRepr K [.ref q] H Q := by
  refine x_reprD (d := .list [.bool a, .bool b]) (.lst (.inl (.inl e)) (.cons (.bl a) (.cons (.bl b) .nil))) (by cases a <;> cases b <;> decide +kernel) (by cases a <;> cases b <;> decide +kernel) (by cases a <;> cases b <;> decide +kernel)
    (by cases a <;> cases b <;> decide +kernel) h
theorem sc_law : FnScope ["script", "k", "box", "low", "high", "things", "turn", "thing", "found"] ["script"] (defScope s_law) := ⟨rfl, rfl, rfl, by decide +kernel, rfl, by decide +kernel, by decide +kernel⟩
theorem c_law (T : Txt K mg) : ∃ fd, (∀ (s : Shared) (u : Value), BindsTo s fd ⟨[u], []⟩ [("script", u)]) ∧ ∀ base : Heap, FnG P w K mg base (L2.CX P w) 4 (He.ga K "law") fd ["script"] (sp1 (p_law K)) := by
  obtain ⟨fd, F⟩ := T.d_law
  have b := FunD.bindsA (ps := ["script"]) F (fun _ _ _ _ _ _ us hl => match us, hl with | [_], _ => rfl)
  refine ⟨fd, fun s v => b s [v] rfl, fun base => okG F sc_law len1 (fun cdv A outer s H vs Q E hG hr h => ?_)⟩
  refine ⟨_, (pss_cons (ps_for (passes_of rfl) rfl (pi_range1 (by rfl) T.n_range (pa_cons (pe_callB (call_max2X rfl) (by rfl) T.n_max (by decide +kernel) (pa_cons pe_int (pa_cons (pe_callB (call_min2X rfl) (by rfl) T.n_min (by decide +kernel) (pa_cons pe_int (pa_cons (pe_callB (call_lenK (K := K)) (by rfl) T.n_len (by decide +kernel) (pa_cons (pv 0) pa_nil)) pa_nil))) pa_nil))) pa_nil)) (pg_name (i := 1) sc_law.nd rfl (by first | exact Or.inl rfl | exact Or.inr rfl))
      (pss_cons (ps_set (i := 2) sc_law.nd rfl (by first | exact Or.inl rfl | exact Or.inr rfl) (pe_x (c_law_box T) hr (by decide) passL (pa_cons (pe_x (c_law_cell T) hr (by decide) passL (pa_cons (pv 0) (pa_cons (pv 1) pa_nil))) pa_nil)))
      (pss_cons (ps_set (i := 3) sc_law.nd rfl (by first | exact Or.inl rfl | exact Or.inr rfl) (pe_ix (ix_seqK (K := K)) (pe_lst (pa_cons (pe_op op_sub (pe_x (c_law_take T) hr (by decide) passL (pa_cons (pv 2) (pa_cons pe_int pa_nil))) pe_int) (pa_cons (pe_x (c_law_far T) hr (by decide) passL (pa_cons (pv 2) pa_nil)) pa_nil))) (pe_x (c_law_take T) hr (by decide) passL (pa_cons (pv 2) (pa_cons pe_int pa_nil))) (fun _ _ => rfl)))
      (pss_cons (ps_set (i := 4) sc_law.nd rfl (by first | exact Or.inl rfl | exact Or.inr rfl) (pe_op (op_plusK (K := K)) (pv 3) (pe_ix (ix_seqK (K := K)) (pe_lst (pa_cons (pe_op op_sub (pe_x (c_law_take T) hr (by decide) passL (pa_cons (pv 2) (pa_cons pe_int pa_nil))) pe_int) (pa_cons (pe_callB call_absX (by rfl) T.n_abs (by decide +kernel) (pa_cons (pe_x (c_law_far T) hr (by decide) passL (pa_cons (pv 2) pa_nil)) pa_nil)) pa_nil))) (pe_x (c_law_take T) hr (by decide) passL (pa_cons (pv 2) (pa_cons pe_int pa_nil))) (fun _ _ => rfl))))
      (pss_cons (ps_set (i := 5) sc_law.nd rfl (by first | exact Or.inl rfl | exact Or.inr rfl) (pe_x (c_law_things T) hr (by decide) passL (pa_cons (pv 2) (pa_cons (pv 3) (pa_cons (pv 4) pa_nil)))))
      (pss_one (ps_for (passes_of rfl) rfl (pi_range1 (by rfl) T.n_range (pa_cons pe_int pa_nil)) (pg_name (i := 6) sc_law.nd rfl (by first | exact Or.inl rfl | exact Or.inr rfl))
      (pss_one (ps_for (passes_of rfl) rfl (pi_list (pv 5)) (pg_name (i := 7) sc_law.nd rfl (by first | exact Or.inl rfl | exact Or.inr rfl))
      (pss_cons (ps_set (i := 8) sc_law.nd rfl (by first | exact Or.inl rfl | exact Or.inr rfl) (pe_lst (pa_cons (pe_x (c_is_whole T) hr (by decide) passL (pa_cons (pv 7) (pa_cons (pv 3) (pa_cons (pv 4) pa_nil)))) (pa_cons (pe_x (c_is_name T) hr (by decide) passL (pa_cons (pv 7) pa_nil)) pa_nil))))
      (pss_one (ps_if (pt_cmpR (op_neGK (K := K) (hu64 hr)) (pe_callB (call_reprK (K := K) hG (hu64 hr)) (by rfl) T.n_repr (by decide +kernel) (pa_cons (pv 8) pa_nil)) (pe_callB (call_reprK (K := K) hG (hu64 hr)) (by rfl) T.n_repr (by decide +kernel) (pa_cons (pe_lst (pa_cons (pe_x (c_law_whole_due T) hr (by decide) passL (pa_cons (pv 7) (pa_cons (pv 3) (pa_cons (pv 4) pa_nil)))) (pa_cons (pe_x (c_law_name_due T) hr (by decide) passL (pa_cons (pv 7) pa_nil)) pa_nil))) pa_nil)) (nomark _)) (pss_one (ps_ret pe_bl)) pss_nil))))))))))))
      (pss_one (ps_ret pe_bl))), ?_⟩
  obtain ⟨_, rfl, p, ns, rfl, hl, hS, hQ⟩ := h
  refine entry (σ0 := [some _, none, none, none, none, none, none, none, none]) rfl ?_
  try dsimp only [cxOf]
  walk_at "s"
  refine ⟨fun i σ' H' => Same H H' ∧ ∃ a1 a2 a3 a4 a5 a6 a7 a8, σ' = [some (.ref p), a1, a2, a3, a4, a5, a6, a7, a8], ⟨fun _ _ h => h, _, _, _, _, _, _, _, _, rfl⟩, ?_, ?_⟩
  · rintro i σ' H' hi ⟨s0, a1, a2, a3, a4, a5, a6, a7, a8, rfl⟩
    walk_at "s"
    rw [List.length_map] at hi
    refine ⟨p, ns, i, rfl, by simp, by omega, sql_keep hS s0, fun c => ?_⟩
    walk_at "s"
    refine ⟨c, rfl, fun x H1 hx s1 bx1 => ?_⟩
    have s2 : Same H H1 := Same.trans s0 s1
    have nx : H x = none := none_of s0 hx
    walk_at "s"
    refine take_use (k := 899999) (bx1.le (by omega)) (by omega) (by omega) fun d1 H2 d10 d11 bx2 ch2 => ?_
    walk_at "s"
    refine far_use (k := 899979) (bx2.le (by omega)) fun n1 H3 n10 bx3 ch3 => ?_
    have s3 := stay (stay s2 nx ch2) nx ch3
    walk_at "s"
    intro q1 H4 hq1 sq1 eq1
    have nq1 := bx3.ne hq1
    walk_at "s"
    refine take_use (k := 899978) ((bx3.same sq1).le (by omega)) (by omega) (by omega) fun d2 H5 d20 d21 bx5 ch5 => ?_
    have s5 := stay (Same.trans s3 sq1) nx ch5
    obtain ⟨low, hlow, elow⟩ : ∃ low : Int, low.natAbs < 10 ^ 28 ∧ atI [V.int (d1 - 4), V.int n1] d2 = some (.int low) := by
      rcases (by omega : d2 = 0 ∨ d2 = 1) with rfl | rfl
      · exact ⟨d1 - 4, by omega, rfl⟩
      · exact ⟨n1, by omega, rfl⟩
    refine x_ixL (ch5.at nq1 eq1) elow ?_
    walk_at "s"
    refine take_use (k := 899977) (bx5.le (by omega)) (by omega) (by omega) fun d3 H6 d30 d31 bx6 ch6 => ?_
    have s6 := stay s5 nx ch6
    walk_at "s"
    refine far_use (k := 899957) (bx6.le (by omega)) fun n2 H7 n20 bx7 ch7 => ?_
    have s7 := stay s6 nx ch7
    walk_at "s"
    intro q2 H8 hq2 sq2 eq2
    have nq2 := bx7.ne hq2
    walk_at "s"
    refine take_use (k := 899956) ((bx7.same sq2).le (by omega)) (by omega) (by omega) fun d4 H9 d40 d41 bx9 ch9 => ?_
    have s9 := stay (Same.trans s7 sq2) nx ch9
    obtain ⟨up, eup⟩ : ∃ up : Int, atI [V.int (d3 - 3), V.int (n2.natAbs : Int)] d4 = some (.int up) := by
      rcases (by omega : d4 = 0 ∨ d4 = 1) with rfl | rfl
      · exact ⟨_, rfl⟩
      · exact ⟨_, rfl⟩
    refine x_ixL (ch9.at nq2 eq2) eup ?_
    walk_at "s"
    refine ⟨x, low, low + up, 899866, rfl, rfl, rfl, hlow, bx9.le (by omega), fun q xs H10 eq nq th hz ch10 => ?_⟩
    have s10 := stay s9 nx ch10
    walk_at "s"
    refine ⟨fun j σ' H' => Same H10 H' ∧ ∃ b6 b7 b8, σ' = [some (.ref p), some (.int (0 + (i : Int))), some (.ref x), some (.int low), some (.int (low + up)), some (.ref q), b6, b7, b8], ⟨fun _ _ h => h, _, _, _, rfl⟩, ?_, ?_⟩
    · rintro j σ' H' hj ⟨t0, b6, b7, b8, rfl⟩
      walk_at "s"
      refine x_lstK (.inl (.inl (t0 _ _ eq))) ⟨fun m σ' H' => Same H10 H' ∧ ∃ c7 c8, σ' = [some (.ref p), some (.int (0 + (i : Int))), some (.ref x), some (.int low), some (.int (low + up)), some (.ref q), some (.int (0 + (j : Int))), c7, c8], ⟨t0, _, _, rfl⟩, ?_, ?_, ?_⟩
      · rintro m σ' H' _ ⟨t1, c7, c8, rfl⟩
        exact .inl (.inl (t1 _ _ eq))
      · rintro m v σ' Ha hv ⟨t1, c7, c8, rfl⟩
        have tv := (th v (List.mem_of_getElem? hv)).keep t1
        walk_at "s"
        refine ⟨low, low + up, rfl, rfl, tv, ?_⟩
        walk_at "s"
        refine ⟨tv, fun Hb sb => ?_⟩
        walk_at "s"
        intro qa Hc ha sc ec
        walk_at "s"
        refine repr_bools ec ?_
        walk_at "s"
        have tc := (tv.keep sb).keep sc
        refine ⟨low, low + up, rfl, rfl, tc, ?_⟩
        walk_at "s"
        refine ⟨tc, fun Hd sd => ?_⟩
        walk_at "s"
        intro qb He hb se ee
        walk_at "s"
        refine repr_bools ee ?_
        walk_at "s"
        refine x_decN (fun h => absurd rfl h) fun _ => ?_
        walk_at "s"
        exact ⟨(((t1.trans sb).trans sc).trans sd).trans se, _, _, rfl⟩
      · rintro σ' H' ⟨t1, c7, c8, rfl⟩
        exact ⟨t1, _, _, _, rfl⟩
    · rintro σ' H' ⟨t0, b6, b7, b8, rfl⟩
      exact ⟨Same.trans s10 t0, _, _, _, _, _, _, _, _, rfl⟩
  · rintro σ' H' ⟨s0, a1, a2, a3, a4, a5, a6, a7, a8, rfl⟩
    walk_at "s"
    exact hQ _
end
/-! the head -/
def factL : List (PySem.W.Frag → Bool) := [
  fun K => He.eqO (PySem.W.findIn K (.ref (He.ga K "NoNumber")) "found") (some none),
  fun K => biniB K (He.ga K "StoneError") "ValueError.__init__",
  fun K => (He.Fa.free "abs").ok K,
  fun K => (He.Fa.free "all").ok K,
  fun K => (He.Fa.free "bool").ok K,
  fun K => (He.Fa.free "int").ok K,
  fun K => (He.Fa.free "isinstance").ok K,
  fun K => (He.Fa.free "len").ok K,
  fun K => (He.Fa.free "max").ok K,
  fun K => (He.Fa.free "min").ok K,
  fun K => (He.Fa.free "range").ok K,
  fun K => (He.Fa.free "repr").ok K,
  fun K => (He.Fa.free "str").ok K,
  fun K => (He.Fa.str "LETTERS" "abcdefghijklmnopqrstuvwxyz").ok K,
  fun K => (He.Fa.int "MOST_LETTERS" 8).ok K,
  fun K => (He.Fa.glo "StoneError").ok K,
  fun K => (He.Fa.glo "NoNumber").ok K,
  fun K => xcB K (He.ga K "NoNumber"),
  fun K => iniB K (He.ga K "NoNumber") (He.ma K (He.ga K "NoNumber") "__init__"),
  fun K => offsB K (He.ga K "NoNumber") ["int", "bool", "str", "list", "tuple", "dict"],
  fun K => (He.Fa.glo "is_whole").ok K,
  fun K => (He.Fa.glo "is_name").ok K,
  fun K => (He.Fa.glo "_law_cell").ok K,
  fun K => (He.Fa.glo "_law_box").ok K,
  fun K => (He.Fa.glo "_law_take").ok K,
  fun K => (He.Fa.glo "_law_far").ok K,
  fun K => (He.Fa.glo "_law_signs").ok K,
  fun K => (He.Fa.glo "_law_letters").ok K,
  fun K => (He.Fa.glo "_law_things").ok K,
  fun K => (He.Fa.glo "_law_whole_due").ok K,
  fun K => (He.Fa.glo "_law_name_due").ok K,
  fun K => (He.Fa.glo "law").ok K]
def dd_is_whole : He.DefD := ⟨("is_whole", none), "is_whole", "is_whole", defArgs s_is_whole, defBody s_is_whole, defScope s_is_whole, [], []⟩
def dd_is_name : He.DefD := ⟨("is_name", none), "is_name", "is_name", defArgs s_is_name, defBody s_is_name, defScope s_is_name, [], []⟩
def dd_NoNumber_init : He.DefD := ⟨("NoNumber", some "__init__"), "__init__", "NoNumber.__init__", defArgs s_NoNumber_init, defBody s_NoNumber_init, defScope s_NoNumber_init, [], []⟩
def dd_law_cell : He.DefD := ⟨("_law_cell", none), "_law_cell", "_law_cell", defArgs s_law_cell, defBody s_law_cell, defScope s_law_cell, [], []⟩
def dd_law_box : He.DefD := ⟨("_law_box", none), "_law_box", "_law_box", defArgs s_law_box, defBody s_law_box, defScope s_law_box, [], []⟩
def dd_law_take : He.DefD := ⟨("_law_take", none), "_law_take", "_law_take", defArgs s_law_take, defBody s_law_take, defScope s_law_take, [], []⟩
def dd_law_far : He.DefD := ⟨("_law_far", none), "_law_far", "_law_far", defArgs s_law_far, defBody s_law_far, defScope s_law_far, [], []⟩
def dd_law_signs : He.DefD := ⟨("_law_signs", none), "_law_signs", "_law_signs", defArgs s_law_signs, defBody s_law_signs, defScope s_law_signs, [], []⟩
def dd_law_letters : He.DefD := ⟨("_law_letters", none), "_law_letters", "_law_letters", defArgs s_law_letters, defBody s_law_letters, defScope s_law_letters, [], []⟩
def dd_law_things : He.DefD := ⟨("_law_things", none), "_law_things", "_law_things", defArgs s_law_things, defBody s_law_things, defScope s_law_things, [], []⟩
def dd_law_whole_due : He.DefD := ⟨("_law_whole_due", none), "_law_whole_due", "_law_whole_due", defArgs s_law_whole_due, defBody s_law_whole_due, defScope s_law_whole_due, [], []⟩
def dd_law_name_due : He.DefD := ⟨("_law_name_due", none), "_law_name_due", "_law_name_due", defArgs s_law_name_due, defBody s_law_name_due, defScope s_law_name_due, [], []⟩
def dd_law : He.DefD := ⟨("law", none), "law", "law", defArgs s_law, defBody s_law, defScope s_law, [], []⟩
def fnL : List He.DefD := [dd_is_whole, dd_is_name, dd_NoNumber_init, dd_law_cell, dd_law_box, dd_law_take, dd_law_far, dd_law_signs, dd_law_letters, dd_law_things, dd_law_whole_due, dd_law_name_due, dd_law]
theorem txt_of {K : PySem.W.Frag} {h : Heap} {mg : Str → Option Value} (X : K.In h) (G : h.Ns mainGlobals mg) (s : SaysX (allB factL) fnL K) : Txt K mg := by
  have F := s.facts
  constructor
  · have c := allB_at F 0
    exact He.eqO_ok c
  · have c := allB_at F 1
    exact biniB_ok c
  · have c := allB_at F 2
    exact He.free_ok X G c
  · have c := allB_at F 3
    exact He.free_ok X G c
  · have c := allB_at F 4
    exact He.free_ok X G c
  · have c := allB_at F 5
    exact He.free_ok X G c
  · have c := allB_at F 6
    exact He.free_ok X G c
  · have c := allB_at F 7
    exact He.free_ok X G c
  · have c := allB_at F 8
    exact He.free_ok X G c
  · have c := allB_at F 9
    exact He.free_ok X G c
  · have c := allB_at F 10
    exact He.free_ok X G c
  · have c := allB_at F 11
    exact He.free_ok X G c
  · have c := allB_at F 12
    exact He.free_ok X G c
  · have c := allB_at F 13
    exact He.str_ok X G c
  · have c := allB_at F 14
    exact He.int_ok X G c
  · have c := allB_at F 15
    exact He.glo_ok X G c
  · have c := allB_at F 16
    exact He.glo_ok X G c
  · have c := allB_at F 17
    exact xcB_ok c
  · have c := allB_at F 18
    exact iniB_ok c
  · have c := allB_at F 19
    exact offsB_ok c
  · have c := allB_at F 20
    exact He.glo_ok X G c
  · have c := allB_at F 21
    exact He.glo_ok X G c
  · have c := allB_at F 22
    exact He.glo_ok X G c
  · have c := allB_at F 23
    exact He.glo_ok X G c
  · have c := allB_at F 24
    exact He.glo_ok X G c
  · have c := allB_at F 25
    exact He.glo_ok X G c
  · have c := allB_at F 26
    exact He.glo_ok X G c
  · have c := allB_at F 27
    exact He.glo_ok X G c
  · have c := allB_at F 28
    exact He.glo_ok X G c
  · have c := allB_at F 29
    exact He.glo_ok X G c
  · have c := allB_at F 30
    exact He.glo_ok X G c
  · have c := allB_at F 31
    exact He.glo_ok X G c
  · exact s.def_ 0 (d := dd_is_whole)
  · exact s.def_ 1 (d := dd_is_name)
  · exact s.def_ 2 (d := dd_NoNumber_init)
  · exact s.def_ 3 (d := dd_law_cell)
  · exact s.def_ 4 (d := dd_law_box)
  · exact s.def_ 5 (d := dd_law_take)
  · exact s.def_ 6 (d := dd_law_far)
  · exact s.def_ 7 (d := dd_law_signs)
  · exact s.def_ 8 (d := dd_law_letters)
  · exact s.def_ 9 (d := dd_law_things)
  · exact s.def_ 10 (d := dd_law_whole_due)
  · exact s.def_ 11 (d := dd_law_name_due)
  · exact s.def_ 12 (d := dd_law)
abbrev R : PySem.W.OpenRow := PySem.W.OpenLaw.row PySem.Challenge.rw_stonewalks_k01_wholes_and_names
abbrev hk : PySem.W.Hook := hookX 6 (allB factL) fnL
def ob (s : PySem.W.SharedT) : He.AlD := obsXG 6 (allB factL) fnL (HandSHeadRun.getT s)
theorem ob_eq (s : PySem.W.SharedT) : ob s = hk.obs s.abs := obsXG_eq (HandSHeadRun.getT_eq s)
theorem run (w : World) : HandSHeadRun.RunEq R (PySem.W.view R.prog [18]) hk ob 4000 ["LETTERS", "MOST_LETTERS", "is_whole", "is_name", "StoneError", "NoNumber", "_law_cell", "_law_box", "_law_take", "_law_far", "_law_signs", "_law_letters", "_law_things", "_law_whole_due", "_law_name_due"] w := by
  intro os
  kernel_rfl
end SW
open PySem PySem.W PySem.Calls PyProof.Rows
theorem PySem.Challenge.cw_stonewalks_k01_wholes_and_names_holds : PySem.Challenge.rw_stonewalks_k01_wholes_and_names.Holds := by
  w_on; o_law
  refine HandSHeadRun.head_any (r := OpenLaw.row PySem.Challenge.rw_stonewalks_k01_wholes_and_names) (q := view (OpenLaw.row PySem.Challenge.rw_stonewalks_k01_wholes_and_names).prog [18]) (H := SW.hk) (ob := SW.ob) (M := 4000) (loose := ["LETTERS", "MOST_LETTERS", "is_whole", "is_name", "StoneError", "NoNumber", "_law_cell", "_law_box", "_law_take", "_law_far", "_law_signs", "_law_letters", "_law_things", "_law_whole_due", "_law_name_due"]) (d := HandSHeadRun.topDef (OpenLaw.row PySem.Challenge.rw_stonewalks_k01_wholes_and_names).prog 18) (kwd := []) SW.ob_eq
    (by kernel_rfl) (fun s => by kernel_rfl) SW.run (by kernel_rfl) (by kernel_rfl) (by kernel_rfl) (by rfl) (by first | assumption | decide +kernel) (by decide +kernel) ⟨rfl, rfl, rfl, rfl, rfl, by decide +kernel⟩ ?hw ?hc
  case hw => w_witness2
  case hc =>
    refine SW.walk_endG (l := PySem.Challenge.rw_stonewalks_k01_wholes_and_names) (n := 63) (k := 4) (x := "script") rfl (by decide) (by kernel_rfl) ⟨rfl, by decide, by decide⟩ ?F SW.noCX
    intro w mg fa h Y G hmg0
    obtain ⟨K, KX, c⟩ := Y
    have hmg : mg ("law" : PySem.Str) = some (.ref fa) := by
      have e : (HandSHeadRun.topDef (OpenLaw.row PySem.Challenge.rw_stonewalks_k01_wholes_and_names).prog 18).name = ("law" : PySem.Str) := by kernel_rfl
      rw [← e]
      exact hmg0
    have T := SW.txt_of KX G c
    have e := hmg.symm.trans T.g_law
    cases e
    obtain ⟨fd, hb, F⟩ := SW.c_law (P := (PySem.Challenge.rw_stonewalks_k01_wholes_and_names).prog) (w := w) T
    exact ⟨K, fd, SW.sp1 (SW.p_law K), KX, hb, fun H a ns hl _ hS => ⟨.ref a, rfl, a, ns, rfl, hl, hS, fun _ => rfl⟩, fun base _ _ => F base⟩
