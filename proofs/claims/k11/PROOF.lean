import PyProof.Rows.All
import Wide.All
import OpenK.AllK
import Wide.FinOn
import KE.KStateDown
import HandS.ForMost
import HandS.ForExc
import HandS.Defaults
import HandS.IsInst
import HandS.Deep
import HandS.More
import HandS.SetFor
import HandS.Codes
import HandS.Head0
import HandS.Head1
import HandS.Head2
import HandS.HeadEnd
import HandS.HeadHook1
import HandS.HeadHook2
import HandS.Steps
import HandS.Evl
import HandS.ExcIs
import HandS.ExcValue
import HandS.SuiteRaise
import HandS.HotCalls
import HandS.ExcCtx
import HandS.Text
import HandS.Replace
import HandS.ReplaceLit
import PyProof.StrLawsReplace
import PySem.Challenge.RW_emptyhall_k11_texts_read
set_option Elab.async false
set_option linter.all false
set_option maxRecDepth 100000
set_option maxHeartbeats 2000000
/-! own layer: defs by name, a hook with one more look -/
namespace EH
open PySem PySem.Spec PyProof.Rows L2

/-! ### defs by name -/
abbrev FnP (K : PySem.W.Frag) (x qual : Str) (st : Stmt) (f : Addr) (fd : FuncData) : Prop := FunD K x qual (defArgs st) (defBody st) (defScope st) [] [] f fd
structure Cal (P : Program) (w : World) (K : PySem.W.Frag) (mg : Str → Option Value) (base : Heap) (CX : CXT) (k : Nat) (x : Str) (sp : Sp) : Prop where
  ex : ∃ (f : Addr) (fd : FuncData) (ps : List Str), FnOk P w K mg base CX k f fd ps sp ∧ mg x = some (.ref f) ∧ PySem.W.keepIn K (.ref f) = true ∧ Binds K fd ps []
structure Met (P : Program) (w : World) (K : PySem.W.Frag) (mg : Str → Option Value) (base : Heap) (CX : CXT) (k : Nat) (C : Addr) (m : Str) (sp : Sp) : Prop where
  ex : ∃ (f : Addr) (fd : FuncData) (ps : List Str), Cls K C ∧ Meth K C m f ∧ FnOk P w K mg base CX k f fd ps sp ∧ Binds K fd ps []
structure Mak (P : Program) (w : World) (K : PySem.W.Frag) (mg : Str → Option Value) (base : Heap) (CX : CXT) (k : Nat) (x : Str) (C : Addr) (sp : Sp) : Prop where
  ex : ∃ (f : Addr) (fd : FuncData) (ps : List Str), Mk K C f ∧ FnOk P w K mg base CX k f fd ps sp ∧ mg x = some (.ref C) ∧ Binds K fd ps []
section
variable {X : Cx} {CX : CXT} {E : XK} {k j : Nat} {C : Addr} {x m : Str} {sp : Sp} {p pos apos : Pos} {e o : Expr} {es : List Expr} {ta : TE} {t : TA}
theorem pe_c (c : Cal X.prog X.w X.K X.mg X.base CX k x sp) (hr : Room j X.A) (hk : k ≤ j) (hx : Passes CX X E) (hg : Gl X x) (ha : PA X (e :: es) t)
    (hdb : (x == ("__debug__" : Str)) = false := by decide) (he : starEach (e :: es) X.env = (false, eval e X.env) :: starEach es X.env := by rfl) (hpl : (backTo pos (starEach es X.env)).any (·.1) = false := by rfl) :
    PE X (.Call (.Name x p) (e :: es) [] pos) (tCall sp [] E t) := by
  obtain ⟨f, fd, ps, F, hm, kp, b⟩ := c.ex
  exact pe_call F (hr.mono hk) hg hm kp b .nil hx ha hdb he hpl
theorem pe_mk (c : Mak X.prog X.w X.K X.mg X.base CX k x C sp) (hr : Room j X.A) (hk : k + 1 ≤ j) (hx : Passes CX X E) (hg : Gl X x) (ha : PA X (e :: es) t)
    (hdb : (x == ("__debug__" : Str)) = false := by decide) (he : starEach (e :: es) X.env = (false, eval e X.env) :: starEach es X.env := by rfl) (hpl : (backTo pos (starEach es X.env)).any (·.1) = false := by rfl) :
    PE X (.Call (.Name x p) (e :: es) [] pos) (tMake C sp [] E t) := by
  obtain ⟨f, fd, ps, M, F, hm, b⟩ := c.ex
  exact pe_make M F (hr.mono hk) hg hm b .nil hx ha hdb he hpl
theorem pe_mt {pl : Sem Bool} (c : Met X.prog X.w X.K X.mg X.base CX k C m sp) (hr : Room j X.A) (hk : k ≤ j) (hx : Passes CX X E) (he : PE X o ta) (ha : PA X (e :: es) t)
    (hst : starEach (e :: es) X.env = (false, eval e X.env) :: starEach es X.env := by rfl) (hpl : (backTo pos (starEach es X.env)).any (·.1) = false := by rfl)
    (ht : eval (.Call (.Attribute o m apos) (e :: es) [] pos) X.env = (do
      let ov ← eval o X.env
      standAt apos.atName
      let (f, first) ← holding [ov] (getMethod ov m pl)
      callWith pos f first (backTo pos (starEach (e :: es) X.env)) (backToKw pos (keywordEach [] X.env))) := by rfl) :
    PE X (.Call (.Attribute o m apos) (e :: es) [] pos) (tMeth C m sp [] E ta t) := by
  obtain ⟨f, fd, ps, hc, hm, F, b⟩ := c.ex
  exact pe_meth (pl := pl) he hc hm F (hr.mono hk) b .nil hx ha hst hpl ht
theorem pe_mt0 {pl : Sem Bool} (c : Met X.prog X.w X.K X.mg X.base CX k C m sp) (hr : Room j X.A) (hk : k ≤ j) (hx : Passes CX X E) (he : PE X o ta)
    (ht : eval (.Call (.Attribute o m apos) [] [] pos) X.env = (do
      let ov ← eval o X.env
      standAt apos.atName
      let (f, first) ← holding [ov] (getMethod ov m pl)
      callWith pos f first (backTo pos (starEach [] X.env)) (backToKw pos (keywordEach [] X.env))) := by rfl) :
    PE X (.Call (.Attribute o m apos) [] [] pos) (tMeth C m sp [] E ta tNil) := by
  obtain ⟨f, fd, ps, hc, hm, F, b⟩ := c.ex
  exact pe_meth0 (pl := pl) he hc hm F (hr.mono hk) b .nil hx ht
end

/-! ### the hook of facts, with one more look -/
abbrev AlX : Type := He.AlD × Bool
def obsX (fa : List He.Fa) (fn : List He.DefD) (ex : PySem.W.Frag → Bool) (K : PySem.W.Frag) : AlX := (He.obsD fa fn K, ex K)
def valX (fn : List He.DefD) : AlX := (He.valD fn, true)
structure SaysX (fa : List He.Fa) (fn : List He.DefD) (ex : PySem.W.Frag → Bool) (K : PySem.W.Frag) : Prop where
  d : He.SaysD fa fn K
  x : ex K = true
def obsXG (n : Nat) (fa : List He.Fa) (fn : List He.DefD) (ex : PySem.W.Frag → Bool) (g : Addr → Option Obj) : AlX := obsX fa fn ex (He.frG g (He.asD g n))
def hookX (n : Nat) (fa : List He.Fa) (fn : List He.DefD) (ex : PySem.W.Frag → Bool) : PySem.W.Hook where
  α := AlX
  obs := fun s => obsXG n fa fn ex s.heap.get?
  val := fun _ => valX fn
  says := fun _ h => ∃ K : PySem.W.Frag, K.In h ∧ SaysX fa fn ex K
  of := fun _ _ e => ⟨_, He.frG_in, ⟨congrArg Prod.fst e, congrArg Prod.snd e⟩⟩
  keeps := fun _ _ _ ⟨K, hK, c⟩ k => ⟨K, PySem.W.Frag.In.keeps hK k, c⟩
theorem obsXG_eq {n : Nat} {fa : List He.Fa} {fn : List He.DefD} {ex : PySem.W.Frag → Bool} {g : Addr → Option Obj} {s : Shared} (h : ∀ a, g a = s.heap.get? a) : obsXG n fa fn ex g = (hookX n fa fn ex).obs s := by
  have e : g = s.heap.get? := funext h
  rw [e] <;> rfl
end EH

set_option maxHeartbeats 2000000
/-! own layer, 1: readings in short: values (Val), tests (Ans), lists of arguments (AV), statements -/
namespace EH
open PySem PySem.Spec PyProof.Rows L2
abbrev St := L2.St
def AV (t : TA) (σ : St) (H : Hp) (vs : List V) : Prop := ∀ Q : List V → Hp → Prop, Q vs H → t σ H Q
section
variable {K : PySem.W.Frag} {σ : St} {H : Hp} {ta tb tc te : TE} {t u : TT} {x y z v : V} {a b c : Bool} {i j k : Int}

theorem av_nil : AV tNil σ H [] := fun _ q => q
theorem av_cons {tr : TA} {vs : List V} (h : Val ta σ H x) (hr : AV tr σ H vs) : AV (tCons ta tr) σ H (x :: vs) := fun _ q => h _ (hr _ q)
theorem v_c : Val (tC v) σ H v := fun _ q => q
theorem v_var {n : Nat} (h : σ[n]? = some (some v)) : Val (tVar n) σ H v := fun _ q => ⟨v, h, q⟩
theorem v_I0 {g : Int → Int → V} (ha : Val ta σ H (.int i)) (hb : Val tb σ H (.int j)) : Val (tOp (rI0 g) ta tb) σ H (g i j) := fun _ q => ha _ (hb _ ⟨i, j, rfl, rfl, q⟩)
theorem v_I {C : Int → Int → Prop} {g : Int → Int → V} (ha : Val ta σ H (.int i)) (hb : Val tb σ H (.int j)) (hc : C i j) : Val (tOp (rI C g) ta tb) σ H (g i j) := fun _ q => ha _ (hb _ ⟨i, j, rfl, rfl, hc, q⟩)
theorem v_neg : Val ta σ H (.int i) → Val (tUn (rU fun i => .int (-i)) ta) σ H (.int (-i)) := fun ha _ q => ha _ ⟨i, rfl, q⟩
theorem v_eq (ha : Val ta σ H x) (hb : Val tb σ H y) (hs : scal x y = true) : Val (tOp rEq ta tb) σ H (.bl (decide (x = y))) := fun _ q => ha _ (hb _ ⟨hs, q⟩)
theorem v_ne (ha : Val ta σ H x) (hb : Val tb σ H y) (hs : scal x y = true) : Val (tOp rNe ta tb) σ H (.bl (!decide (x = y))) := fun _ q => ha _ (hb _ ⟨hs, q⟩)
abbrev rIsNQ : R2 := fun x y H Q => y = .non ∧ Q (.bl (decide (x = .non))) H
abbrev rNotNQ : R2 := fun x y H Q => y = .non ∧ Q (.bl (!decide (x = .non))) H
theorem v_isN (ha : Val ta σ H x) : Val (tOp rIsNQ ta (tC .non)) σ H (.bl (decide (x = .non))) := fun _ q => ha _ ⟨rfl, q⟩
theorem v_notN (ha : Val ta σ H x) : Val (tOp rNotNQ ta (tC .non)) σ H (.bl (!decide (x = .non))) := fun _ q => ha _ ⟨rfl, q⟩
theorem v_fld {p C dx : Addr} {fs : List (Str × V)} {f : Str} (ha : Val ta σ H (.ref p)) (ho : H p = some (.ins C dx fs)) (hc : Cls K C) (hn : NoAttr K C f) (hl : fs.lookup f = some v) : Val (tFld K ta f) σ H v := fun _ q => ha _ ⟨p, C, dx, fs, v, rfl, ho, hc, hn, hl, q⟩
theorem v_ixL {p : Addr} {xs : List V} (ha : Val ta σ H (.ref p)) (hb : Val tb σ H (.int i)) (h : SqL K H p xs) (hi : atI xs i = some v) : Val (tOp (rIxL K) ta tb) σ H v := fun _ q => ha _ (hb _ ⟨p, xs, i, v, rfl, rfl, h, hi, q⟩)
theorem v_ixT {p : Addr} {xs : List V} (ha : Val ta σ H (.ref p)) (hb : Val tb σ H (.int i)) (h : H p = some (.tup xs)) (hi : atI xs i = some v) : Val (tOp (rIxT K) ta tb) σ H v := fun _ q => ha _ (hb _ ⟨p, xs, i, v, rfl, rfl, SqT.of h, hi, q⟩)
abbrev rLenQ (K : PySem.W.Frag) : List V → Hp → VK → Prop := fun xs H Q => ∃ p ys, xs = [.ref p] ∧ (SqL K H p ys ∨ SqT K H p ys) ∧ Q (.int ys.length) H
theorem v_len {p : Addr} {xs : List V} (ha : Val ta σ H (.ref p)) (h : SqL K H p xs) : Val (tCB (rLenQ K) (tCons ta tNil)) σ H (.int xs.length) := fun _ q => ha _ ⟨p, xs, rfl, .inl h, q⟩
theorem v_call {tr : TA} {sp : Sp} {E : XK} {vs : List V} (ht : AV tr σ H vs) (hs : ∀ Q : VK, Q v H → sp (vs ++ []) H Q E) : Val (tCall sp [] E tr) σ H v := fun Q q => ht _ (hs Q q)
theorem v_if (hc : Ans t σ H b) (h1 : b = true → Val ta σ H v) (h2 : b = false → Val tb σ H v) : Val (tIf t ta tb) σ H v := fun Q q => hc _ (by
  cases b with
  | true => exact iteT (h1 rfl Q q)
  | false => exact iteF (h2 rfl Q q))
theorem v_and (h1 : Val ta σ H (.bl a)) (h2 : a = true → Val tb σ H (.bl b)) : Val (tAndV ta tb) σ H (.bl (a && b)) := fun Q q => h1 _ ⟨a, rfl, by
  cases a with
  | true => exact iteT (h2 rfl Q q)
  | false => exact iteF q⟩
theorem v_or (h1 : Val ta σ H (.bl a)) (h2 : a = false → Val tb σ H (.bl b)) : Val (tOrV ta tb) σ H (.bl (a || b)) := fun Q q => h1 _ ⟨a, rfl, by
  cases a with
  | true => exact iteT q
  | false => exact iteF (h2 rfl Q q)⟩
theorem v_not (h : Val ta σ H (.bl a)) : Val (tNotV ta) σ H (.bl (!a)) := fun _ q => h _ ⟨a, rfl, q⟩
theorem v_isi {tp : TE} {cl : V} {tt uu : Value} (ha : Val ta σ H x) (hb : Val tp σ H cl) (hc : ClsV cl uu) (ht : TyX K H x tt) (hk : PySem.W.kitOne K tt uu = some b) : Val (tCB (rIsi K) (tCons ta (tCons tp tNil))) σ H (.bl b) :=
  fun _ q => ha _ (hb _ ⟨x, cl, tt, uu, b, rfl, hc, ht, hk, q⟩)
theorem Val.to (h : Val te σ H v) (e : v = x) : Val te σ H x := e ▸ h

theorem a_I0 {p : Int → Int → Bool} (ha : Val ta σ H (.int i)) (hb : Val tb σ H (.int j)) : Ans (tTest (tOp (rI0 fun i j => .bl (p i j)) ta tb)) σ H (p i j) := fun _ q => ha _ (hb _ ⟨i, j, rfl, rfl, _, rfl, q⟩)
theorem a_test (h : Val te σ H (.bl b)) : Ans (tTest te) σ H b := fun _ q => h _ ⟨b, rfl, q⟩
theorem a_B (h : Val te σ H (.bl b)) : Ans (tB te) σ H b := fun _ q => h _ ⟨b, rfl, q⟩
theorem a_chain {p q : Int → Int → Bool} (ha : Val ta σ H (.int i)) (hb : Val tb σ H (.int j)) (hc : Val tc σ H (.int k)) :
    Ans (tTest (tChain (rI0 fun i j => .bl (p i j)) (rI0 fun i j => .bl (q i j)) ta tb tc)) σ H (p i j && q j k) := fun Q h => ha _ (hb _ ⟨i, j, rfl, rfl, _, rfl, by
  cases e : p i j with
  | true =>
    rw [e] at h
    exact iteT (hc _ ⟨j, k, rfl, rfl, _, rfl, h⟩)
  | false =>
    rw [e] at h
    exact iteF ⟨_, rfl, h⟩⟩)
theorem a_not (h : Ans t σ H a) : Ans (tNot t) σ H (!a) := fun _ q => h _ q
theorem a_and (h1 : Ans t σ H a) (h2 : a = true → Ans u σ H b) : Ans (tAnd t u) σ H (a && b) := fun Q q => h1 _ (by
  cases a with
  | true => exact iteT (h2 rfl Q q)
  | false => exact iteF q)
theorem a_or (h1 : Ans t σ H a) (h2 : a = false → Ans u σ H b) : Ans (tOr t u) σ H (a || b) := fun Q q => h1 _ (by
  cases a with
  | true => exact iteT q
  | false => exact iteF (h2 rfl Q q))

/-! ### statements; in a row (q_), at the end (s_) -/
variable {D : Ends} {ts tz tu : TS} {P : V → Hp → Prop}
theorem s_set {n : Nat} (h : Val te σ H v) (k : D.nx (σ.set n (some v)) H) : tAsg te (gName n) D σ H := h _ k
theorem q_set {n : Nat} (h : Val te σ H v) (k : tz D (σ.set n (some v)) H) : tSeq (tAsg te (gName n)) tz D σ H := h _ k
theorem s_setH {n : Nat} (h : ValH te σ H P) (k : ∀ v H', P v H' → D.nx (σ.set n (some v)) H') : tAsg te (gName n) D σ H := h _ k
theorem q_setH {n : Nat} (h : ValH te σ H P) (k : ∀ v H', P v H' → tz D (σ.set n (some v)) H') : tSeq (tAsg te (gName n)) tz D σ H := h _ k
theorem s_ret (h : Val te σ H v) (k : D.rt v H) : tRet te D σ H := h _ k
theorem s_retH (h : ValH te σ H P) (k : ∀ v H', P v H' → D.rt v H') : tRet te D σ H := h _ k
theorem s_if (h : Ans t σ H b) (h1 : b = true → ts D σ H) (h2 : b = false → tu D σ H) : tIfS t ts tu D σ H := h _ (by
  cases b with
  | true => exact iteT (h1 rfl)
  | false => exact iteF (h2 rfl))
theorem q_if (h : Ans t σ H b) (h1 : b = true → ts { D with nx := tz D } σ H) (h2 : b = false → tu { D with nx := tz D } σ H) : tSeq (tIfS t ts tu) tz D σ H := s_if (D := { D with nx := tz D }) h h1 h2
/-- an if without else -/
theorem q_when (h : Ans t σ H b) (h1 : b = true → ts { D with nx := tz D } σ H) (h2 : b = false → tz D σ H) : tSeq (tIfS t ts tNext) tz D σ H := s_if (D := { D with nx := tz D }) h h1 h2
theorem s_drop (h : Val te σ H v) (k : D.nx σ H) : tDrop te D σ H := h _ k
theorem q_drop (h : Val te σ H v) (k : tz D σ H) : tSeq (tDrop te) tz D σ H := h _ k
theorem s_dropH (h : ValH te σ H P) (k : ∀ v H', P v H' → D.nx σ H') : tDrop te D σ H := h _ k
theorem q_dropH (h : ValH te σ H P) (k : ∀ v H', P v H' → tz D σ H') : tSeq (tDrop te) tz D σ H := h _ k
theorem q_seq (k : ts { D with nx := tz D } σ H) : tSeq ts tz D σ H := k
theorem q_app {l : Addr} {xs : List V} (hl : H l = some (.lst xs)) (ha : Val ta σ H (.ref l)) (h : Val te σ H v) (hz : xs.length < sizeLine) (k : tz D σ (upd H l (.lst (xs ++ [v])))) :
    tSeq (tDrop (tBM K "list" rAppend ta (tCons te tNil))) tz D σ H := ha _ ⟨.inl ⟨rfl, _, SqL.of hl⟩, h _ ⟨l, xs, v, rfl, rfl, hl, hz, k⟩⟩
theorem s_app {l : Addr} {xs : List V} (hl : H l = some (.lst xs)) (ha : Val ta σ H (.ref l)) (h : Val te σ H v) (hz : xs.length < sizeLine) (k : D.nx σ (upd H l (.lst (xs ++ [v])))) :
    tDrop (tBM K "list" rAppend ta (tCons te tNil)) D σ H := ha _ ⟨.inl ⟨rfl, _, SqL.of hl⟩, h _ ⟨l, xs, v, rfl, rfl, hl, hz, k⟩⟩
theorem q_forL {p : Addr} {xs : List V} {g : TG} (h : Val te σ H (.ref p)) (hx : SqL K H p xs) (Pv : Nat → St → Hp → Prop) (h0 : Pv 0 σ H) (hl : ∀ i σ' H', i ≤ xs.length → Pv i σ' H' → SqL K H' p xs)
    (hs : ∀ i x σ' H', xs[i]? = some x → Pv i σ' H' → g x σ' H' fun σ2 H2 => ts { D with nx := Pv (i + 1), ct := Pv (i + 1), bk := tz D } σ2 H2) (hd : ∀ σ' H', Pv xs.length σ' H' → tz D σ' H') : tSeq (tFor (iList K te) g ts) tz D σ H :=
  h _ ⟨p, rfl, ⟨xs, hx⟩, for_list (K := K) (a := p) (xs := xs) (D := { D with nx := tz D }) Pv h0 hl hs hd⟩
theorem q_forR1 {tr : TA} {n : Int} {g : TG} (h : AV tr σ H [.int n]) (hn : -1000000 ≤ n ∧ n ≤ 1000000) (Pv : Nat → St → Hp → Prop) (h0 : Pv 0 σ H)
    (hs : ∀ (i : Nat) σ' H', (i : Int) < n → Pv i σ' H' → g (.int (i : Int)) σ' H' fun σ2 H2 => ts { D with nx := Pv (i + 1), ct := Pv (i + 1), bk := tz D } σ2 H2) (hd : ∀ σ' H', Pv n.toNat σ' H' → tz D σ' H') : tSeq (tFor (iRng1 tr) g ts) tz D σ H :=
  h _ ⟨n, rfl, by omega, by omega, for_range (lo := 0) (n := n.toNat) (D := { D with nx := tz D }) Pv h0 (fun i σ' H' hi p => by
    rw [Int.zero_add]
    exact hs i σ' H' (by omega) p) hd⟩
theorem q_forR2 {tr : TA} {lo n : Int} {g : TG} (h : AV tr σ H [.int lo, .int n]) (hn : -1000000 ≤ lo ∧ lo ≤ 1000000 ∧ -1000000 ≤ n ∧ n ≤ 1000000) (Pv : Nat → St → Hp → Prop) (h0 : Pv 0 σ H)
    (hs : ∀ (i : Nat) σ' H', lo + (i : Int) < n → Pv i σ' H' → g (.int (lo + (i : Int))) σ' H' fun σ2 H2 => ts { D with nx := Pv (i + 1), ct := Pv (i + 1), bk := tz D } σ2 H2) (hd : ∀ σ' H', Pv (n - lo).toNat σ' H' → tz D σ' H') : tSeq (tFor (iRng2 tr) g ts) tz D σ H :=
  h _ ⟨lo, n, rfl, by omega, for_range (lo := lo) (n := (n - lo).toNat) (D := { D with nx := tz D }) Pv h0 (fun i σ' H' hi p => hs i σ' H' (by omega) p) hd⟩
theorem q_while (Pv : Nat → St → Hp → Prop) {m : Nat} (h0 : Pv m σ H)
    (hs : ∀ m σ' H', Pv m σ' H' → ∃ b, Ans t σ' H' b ∧ (b = true → ∀ N : St → Hp → Prop, (∀ m' σ2 H2, m' < m → Pv m' σ2 H2 → N σ2 H2) → ts { D with nx := N, ct := N, bk := tz D } σ' H') ∧ (b = false → tz D σ' H')) : tSeq (tWhile t ts) tz D σ H := by
  refine ⟨Pv, ⟨m, h0⟩, fun m σ' H' p => ?_⟩
  obtain ⟨b, hb, h1, h2⟩ := hs m σ' H' p
  refine hb _ ?_
  cases b with
  | true => exact iteT ⟨fun σ2 H2 => ∃ m', m' < m ∧ Pv m' σ2 H2, fun σ2 H2 z => z, h1 rfl _ fun m' σ2 H2 l q => ⟨m', l, q⟩⟩
  | false => exact iteF (h2 rfl)

theorem q_fldH {p : Addr} {f : Str} (h : ValH te σ H P) (k : ∀ v H', P v H' → Val ta σ H' (.ref p) ∧ ∃ C dx fs, H' p = some (.ins C dx fs) ∧ Cls K C ∧ NoAttr K C f ∧ fs.length < 1000 ∧ tz D σ (upd H' p (.ins C dx (putF f v fs)))) :
    tSeq (sFld K ta te f) tz D σ H := h _ fun v H' p' => by
  obtain ⟨h1, C, dx, fs, h2, h3, h4, h5, h6⟩ := k v H' p'
  exact h1 _ ⟨p, C, dx, fs, rfl, h2, h3, h4, h5, h6⟩
theorem s_fldH {p : Addr} {f : Str} (h : ValH te σ H P) (k : ∀ v H', P v H' → Val ta σ H' (.ref p) ∧ ∃ C dx fs, H' p = some (.ins C dx fs) ∧ Cls K C ∧ NoAttr K C f ∧ fs.length < 1000 ∧ D.nx σ (upd H' p (.ins C dx (putF f v fs)))) :
    sFld K ta te f D σ H := h _ fun v H' p' => by
  obtain ⟨h1, C, dx, fs, h2, h3, h4, h5, h6⟩ := k v H' p'
  exact h1 _ ⟨p, C, dx, fs, rfl, h2, h3, h4, h5, h6⟩
theorem h_call {tr : TA} {sp : Sp} {E : XK} {vs : List V} (ht : AV tr σ H vs) (hs : ∀ Q : VK, (∀ v H', P v H' → Q v H') → sp (vs ++ []) H Q E) : ValH (tCall sp [] E tr) σ H P := fun Q q => ht _ (hs Q q)
theorem h_meth {tr : TA} {sp : Sp} {E : XK} {vs : List V} {C p dx : Addr} {m : Str} {fs : List (Str × V)} (ha : Val ta σ H (.ref p)) (ho : H p = some (.ins C dx fs)) (hl : fs.lookup m = none) (ht : AV tr σ H vs) (hs : ∀ Q : VK, (∀ v H', P v H' → Q v H') → sp (.ref p :: (vs ++ [])) H Q E) :
    ValH (tMeth C m sp [] E ta tr) σ H P := fun Q q => ha _ ⟨p, dx, fs, rfl, ho, hl, ht _ (hs Q q)⟩
theorem h_make {tr : TA} {sp : Sp} {E : XK} {vs : List V} {C : Addr} (ht : AV tr σ H vs)
    (hs : ∀ (Q : VK) x dx, H x = none → H dx = none → dx ≠ x → (∀ H', P (.ref x) H' → Q (.ref x) H') → sp (.ref x :: (vs ++ [])) (upd (upd H dx (.own x)) x (.ins C dx [])) (fun v H2 => v = .non ∧ Q (.ref x) H2) E) : ValH (tMake C sp [] E tr) σ H P :=
  fun Q q => ht _ fun x dx h1 h2 h3 => hs Q x dx h1 h2 h3 fun H' p => q _ _ p
/-! ### new objects -/
def NewL (H : Hp) (xs : List V) : V → Hp → Prop := fun v H' => ∃ p, v = .ref p ∧ H p = none ∧ H' = upd H p (.lst xs)
def NewT (H : Hp) (xs : List V) : V → Hp → Prop := fun v H' => ∃ p, v = .ref p ∧ H p = none ∧ H' = upd H p (.tup xs)
theorem h_lst {tr : TA} {xs : List V} (h : AV tr σ H xs) (hz : xs.length ≤ sizeLine) : ValH (tLst tr) σ H (NewL H xs) := fun Q q => h _ ⟨hz, fun p hp => q _ _ ⟨p, rfl, hp, rfl⟩⟩
theorem h_tup {tr : TA} {xs : List V} (h : AV tr σ H xs) (hz : xs.length ≤ sizeLine) : ValH (tTup tr) σ H (NewT H xs) := fun Q q => h _ ⟨hz, fun p hp => q _ _ ⟨p, rfl, hp, rfl⟩⟩
abbrev rListQ (K : PySem.W.Frag) : List V → Hp → VK → Prop := fun xs H Q => ∃ p ys, xs = [.ref p] ∧ (SqL K H p ys ∨ SqT K H p ys) ∧ ∀ l, H l = none → Q (.ref l) (upd H l (.lst ys))
theorem h_list {p : Addr} {xs : List V} (ha : Val ta σ H (.ref p)) (h : SqL K H p xs) : ValH (tCB (rListQ K) (tCons ta tNil)) σ H (NewL H xs) := fun Q q => ha _ ⟨p, xs, rfl, .inl h, fun l hl => q _ _ ⟨l, rfl, hl, rfl⟩⟩
theorem Val.h' (h : Val te σ H v) : ValH te σ H (fun v' H' => v' = v ∧ H' = H) := fun Q q => h Q (q v H ⟨rfl, rfl⟩)
theorem ValH.imp {P' : V → Hp → Prop} (h : ValH te σ H P) (k : ∀ v H', P v H' → P' v H') : ValH te σ H P' := fun Q q => h Q fun v H' p => q v H' (k v H' p)
end
/-! ### heaps -/
theorem same_upd {H : Hp} {p : Addr} {o : HO} (h : H p = none) : Same H (upd H p o) := fun b x e => by
  rw [upd_ne (ne_of_none e h)]
  exact e
theorem same_mut {H H' : Hp} {p : Addr} {o : HO} (e : Same H H') (h : H p = none) : Same H (upd H' p o) := fun b x q => by
  rw [upd_ne (ne_of_none q h)]
  exact e b x q
theorem ne_none {H : Hp} {a b : Addr} {o : HO} (h : H a = some o) (h' : H b = none) : a ≠ b := ne_of_none h h'
theorem sz_ok {n : Nat} (h : n ≤ 1000000) : n ≤ sizeLine := Nat.le_trans h (by decide)
theorem sz_lt {n : Nat} (h : n ≤ 1000000) : n < sizeLine := Nat.lt_of_le_of_lt h (by decide)
/-! ### the text's classes -/
structure Cs where
  House : Addr
  Flow : Addr
  BadHouse : Addr
  NoWalk : Addr
  BadPaper : Addr
  NoText : Addr
  HallError : Addr
structure HouseC (K : PySem.W.Frag) (C : Cs) : Prop where
  cl : Cls K C.House
  held : NoAttr K C.House "held"
  laid : NoAttr K C.House "laid"
structure FlowC (K : PySem.W.Frag) (C : Cs) : Prop where
  cl : Cls K C.Flow
  folk : NoAttr K C.Flow "folk"
  doors : NoAttr K C.Flow "doors"
  last : NoAttr K C.Flow "last"
  entered : NoAttr K C.Flow "entered"
  waited : NoAttr K C.Flow "waited"
  begun : NoAttr K C.Flow "begun"
/-! ### built-in names -/
structure Bn (mg : Str → Option Value) : Prop where
  len_ : mg "len" = none
  list_ : mg "list" = none
  tuple_ : mg "tuple" = none
  range_ : mg "range" = none
  sum_ : mg "sum" = none
  min_ : mg "min" = none
  max_ : mg "max" = none
  isinstance_ : mg "isinstance" = none
  str_ : mg "str" = none
  int_ : mg "int" = none
  bool_ : mg "bool" = none
  enumerate_ : mg "enumerate" = none
  ValueError_ : mg "ValueError" = none
/-- an own error -/
structure Xc (K : PySem.W.Frag) (mg : Str → Option Value) (nm : Str) (C : Addr) : Prop where
  xi : PySem.W.excIn K C He.veBase "ValueError.__new__" = true
  g : mg nm = some (.ref C)
  k : PySem.W.keepIn K (.ref C) = true
  b : PySem.W.subIn K (.ref C) (.type "BaseException") = some true
  t : PySem.W.typeIn K (.ref C) = some (.type "type")
/-! ### the library's rules, the written part named -/
section
variable {X : Cx} {K : PySem.W.Frag}
theorem ix_listK (h : X.K = K) : IxR X (rIxL K) := by subst h; exact ix_list
theorem ix_tupK (h : X.K = K) : IxR X (rIxT K) := by subst h; exact ix_tup
theorem sl_listK (h : X.K = K) : SlR X (rSlL K) := by subst h; exact sl_list
theorem call_len_seqK (h : X.K = K) : CallR X (.builtin "len") (rLenQ K) := by subst h; exact call_len_seq
theorem call_list_ofK (h : X.K = K) : CallR X (.type "list") (rListQ K) := by subst h; exact call_list_of
abbrev rTupQ (K : PySem.W.Frag) : List V → Hp → VK → Prop := fun xs H Q => ∃ a ys, xs = [.ref a] ∧ SqT K H a ys ∧ Q (.ref a) H
theorem call_tupleTK (h : X.K = K) : CallR X (.type "tuple") (rTupQ K) := by subst h; exact call_tupleT
abbrev rTup2Q (K : PySem.W.Frag) : List V → Hp → VK → Prop := fun xs H Q => ∃ p ys, xs = [.ref p] ∧ ((SqL K H p ys ∧ ∀ l, H l = none → Q (.ref l) (upd H l (.tup ys))) ∨ (SqT K H p ys ∧ Q (.ref p) H))
theorem call_tuple_ofK (h : X.K = K) : CallR X (.type "tuple") (rTup2Q K) := by subst h; exact call_tuple_of
theorem cr_sumK (h : X.K = K) (hc : X.calm = true) : CallR X (.builtin "sum") (rSum K) := by subst h; exact cr_sum hc
theorem cr_minK' (h : X.K = K) (hc : X.calm = true) : CallR X (.builtin "min") (rMin K) := by subst h; exact cr_min hc
theorem call_isiK' (h : X.K = K) : CallR X (.builtin "isinstance") (rIsi K) := by subst h; exact call_isi
theorem op_eqDK (h : X.K = K) (hu : X.A.units + 64 < cLine) : OpR X (compareOp .Eq) (rEqD K) := by subst h; exact op_eqD hu
theorem op_neDK (h : X.K = K) (hu : X.A.units + 64 < cLine) : OpR X (compareOp .NotEq) (rNeD K) := by subst h; exact op_neD hu
theorem op_in_seqK (h : X.K = K) : OpR X (compareOp .In) (rIn K false) := by subst h; exact op_in_seq
theorem op_notIn_seqK (h : X.K = K) : OpR X (compareOp .NotIn) (rIn K true) := by subst h; exact op_notIn_seq
theorem mt_indexK (h : X.K = K) : MtR X "list.index" (rIndex K) := by subst h; exact mt_index
theorem mt_lcountK (h : X.K = K) : MtR X "list.count" (rCntI K) := by subst h; exact mt_lcount
theorem pi_listK {tg l : Expr} {tl : TE} (h : X.K = K) (hl : PE X l tl) : PI X tg l (iList K tl) := by subst h; exact pi_list hl
theorem pi_tupK {tg l : Expr} {tl : TE} (h : X.K = K) (hl : PE X l tl) : PI X tg l (iTup K tl) := by subst h; exact pi_tup hl
theorem pi_enumK {e : Expr} {ta : TA} {p pos tpos : Pos} {elts : List Expr} {kk : Nat} (h : X.K = K) (hg : Gl X "enumerate") (hm : X.mg "enumerate" = none) (ha : PA X [e] ta) (hs : starEach [e] X.env = [(false, eval e X.env)] := by rfl) :
    PI X (.Tuple elts kk tpos) (.Call (.Name "enumerate" p) [e] [] pos) (iEnum K ta) := by subst h; exact pi_enum hg hm ha hs
theorem pe_fldK {e : Expr} {f : Str} {pos : Pos} {ta : TE} (h : X.K = K) (he : PE X e ta) (hb : attributeBase e f X.env (eval e X.env) = eval e X.env) : PE X (.Attribute e f pos) (tFld K ta f) := by subst h; exact pe_fld he hb
theorem ps_fldK {o value : Expr} {f : Str} {pos pos' : Pos} {ta tv : TE} (h : X.K = K) (ha : PE X o ta) (hv : PE X value tv) (hs : swapsWith value (some (.Attribute o f pos')) pos.line X.env = pure false) : PS X (.Assign [.Attribute o f pos'] value pos) (sFld K ta tv f) := by subst h; exact ps_fld ha hv hs
theorem pe_bm0K {o : Expr} {to : TE} {name : Str} {apos cpos : Pos} {T id : String} {r : V → List V → Hp → VK → Prop} (h : X.K = K) (pa : PlainAttrs T) (slot : Slot T name id) (hty : typeOf (.builtin id) = pure (.type "method_descriptor")) (hm : MtR X id r) (ho : PE X o to)
    (hbase : attributeBase o name X.env (eval o X.env) = eval o X.env := by rfl) (hline : (apos.endLine == cpos.line) = true := by rfl) : PE X (.Call (.Attribute o name apos) [] [] cpos) (tBM0 K T r to) := by subst h; exact pe_bm0 pa slot hty hm ho hbase hline
theorem pe_bmK {o e : Expr} {es : List Expr} {to : TE} {t : TA} {name : Str} {apos cpos : Pos} {T id : String} {r : V → List V → Hp → VK → Prop} (h : X.K = K) (pa : PlainAttrs T) (slot : Slot T name id) (hty : typeOf (.builtin id) = pure (.type "method_descriptor")) (hm : MtR X id r) (ho : PE X o to) (ha : PA X (e :: es) t)
    (hbase : attributeBase o name X.env (eval o X.env) = eval o X.env := by rfl)
    (hfew : ((backTo cpos (starEach (e :: es) X.env)).all (fun x => !x.1) && (backToKw cpos (keywordEach [] X.env)).all (fun x => x.1.isSome)
      && decide ((e :: es).length + ([] : List Keyword).length + (if ([] : List Keyword).isEmpty then 0 else 1) < 30)) = true := by rfl)
    (hline : (apos.endLine == cpos.line) = true := by rfl) (hs : starEach (e :: es) X.env = (false, eval e X.env) :: starEach es X.env := by rfl) (hplain : (backTo cpos (starEach es X.env)).any (·.1) = false := by rfl) :
    PE X (.Call (.Attribute o name apos) (e :: es) [] cpos) (tBM K T r to t) := by subst h; exact pe_bm pa slot hty hm ho ha hbase hfew hline hs hplain
theorem pg_tupK {es : List Expr} {k : Nat} {pos : Pos} {t : TGs} {n : Nat} (h : X.K = K) (hc : X.calm = true) (hh : PGs X es t)
    (hn : (assignEach es X.env).length = n := by rfl) (hst : (assignEach es X.env).findIdx? (·.1) = none := by rfl) : PG X (.Tuple es k pos) (gTup K n t) := by subst h; exact pg_tup hc hh hn hst
end
end EH

set_option maxHeartbeats 2000000
/-! own layer, 2: houses as data; lists of ways on the heap; comprehensions -/
namespace EH
open PySem PySem.Spec PyProof.Rows L2
/-! ### a def's promise under its name -/
section
variable {P : Program} {w : World} {K : PySem.W.Frag} {mg : Str → Option Value} {base : Heap}
theorem cal_of {CX : CXT} {k : Nat} {x : Str} {st : Stmt} {f : Addr} {fd : FuncData} {ps : List Str} {sp : Sp} (D : FnP K x x st f fd) (hm : mg x = some (.ref f)) (F : FnOk P w K mg base CX k f fd ps sp)
   (h : ∀ (kV doc pm : Value) (an : Option Addr) (cdv ct : Value) (us : List Value), us.length = ps.length → bindArgs (PySem.W.fnOf x x (defArgs st) (defBody st) (defScope st) .none kV doc pm an cdv ct) ⟨us, []⟩ = pure (ps.zip us)) :
   Cal P w K mg base CX k x sp := ⟨f, fd, ps, F, hm, D.kp, D.bindsN h⟩
theorem met_of {CX : CXT} {k : Nat} {x q : Str} {st : Stmt} {f A : Addr} {fd : FuncData} {ps : List Str} {sp : Sp} (D : FnP K x q st f fd) (hc : Cls K A) (hm : Meth K A x f) (F : FnOk P w K mg base CX k f fd ps sp)
   (h : ∀ (kV doc pm : Value) (an : Option Addr) (cdv ct : Value) (us : List Value), us.length = ps.length → bindArgs (PySem.W.fnOf x q (defArgs st) (defBody st) (defScope st) .none kV doc pm an cdv ct) ⟨us, []⟩ = pure (ps.zip us)) :
   Met P w K mg base CX k A x sp := ⟨f, fd, ps, hc, hm, F, D.bindsN h⟩
theorem mak_of {CX : CXT} {k : Nat} {x q : Str} {st : Stmt} {f A : Addr} {fd : FuncData} {ps : List Str} {sp : Sp} (D : FnP K "__init__" q st f fd) (hm : mg x = some (.ref A)) (M : Mk K A f) (F : FnOk P w K mg base CX k f fd ps sp)
   (h : ∀ (kV doc pm : Value) (an : Option Addr) (cdv ct : Value) (us : List Value), us.length = ps.length → bindArgs (PySem.W.fnOf "__init__" q (defArgs st) (defBody st) (defScope st) .none kV doc pm an cdv ct) ⟨us, []⟩ = pure (ps.zip us)) :
   Mak P w K mg base CX k x A sp := ⟨f, fd, ps, M, F, hm, D.bindsN h⟩
end
/-! ### data -/
structure Way where
  s : Int
  e : Int
  w : Int
  l : Int
  deriving DecidableEq, Inhabited
def wayV (w : Way) : List V := [.int w.s, .int w.e, .int w.w, .int w.l]
def intsD (ns : List Int) : PyData := .list (ns.map PyData.int)
def wayD (w : Way) : PyData := .tuple [.int w.s, .int w.e, .int w.w, .int w.l]
def waysD (ws : List Way) : PyData := .list (ws.map wayD)
inductive All2 {α β : Type} (R : α → β → Prop) : List α → List β → Prop
  | nil : All2 R [] []
  | cons {a b as bs} : R a b → All2 R as bs → All2 R (a :: as) (b :: bs)
theorem All2.len {α β : Type} {R : α → β → Prop} : ∀ {as : List α} {bs : List β}, All2 R as bs → as.length = bs.length
  | _, _, .nil => rfl
  | _, _, .cons _ t => congrArg Nat.succ t.len
theorem All2.imp {α β : Type} {R S : α → β → Prop} : ∀ {as : List α} {bs : List β}, All2 R as bs → (∀ a b, R a b → S a b) → All2 S as bs
  | _, _, .nil, _ => .nil
  | _, _, .cons h t, f => .cons (f _ _ h) (t.imp f)
theorem All2.get {α β : Type} {R : α → β → Prop} : ∀ {as : List α} {bs : List β} {i : Nat} {b : β}, All2 R as bs → bs[i]? = some b → ∃ a, as[i]? = some a ∧ R a b
  | _, _, _, _, .nil, h => by simp at h
  | _, _, 0, b, .cons h t, e => by
    simp at e
    subst e
    exact ⟨_, rfl, h⟩
  | _, _, i + 1, b, .cons h t, e => by
    obtain ⟨a, h1, h2⟩ := t.get (i := i) (by simpa using e)
    exact ⟨a, by simpa using h1, h2⟩
theorem All2.get' {α β : Type} {R : α → β → Prop} : ∀ {as : List α} {bs : List β} {i : Nat} {a : α}, All2 R as bs → as[i]? = some a → ∃ b, bs[i]? = some b ∧ R a b
  | _, _, _, _, .nil, h => by simp at h
  | _, _, 0, b, .cons h t, e => by
    simp at e
    subst e
    exact ⟨_, rfl, h⟩
  | _, _, i + 1, b, .cons h t, e => by
    obtain ⟨a, h1, h2⟩ := t.get' (i := i) (by simpa using e)
    exact ⟨a, by simpa using h1, h2⟩
theorem All2.set {α β : Type} {R : α → β → Prop} {a : α} {b : β} (r : R a b) : ∀ {as : List α} {bs : List β} (i : Nat), All2 R as bs → All2 R (as.set i a) (bs.set i b)
  | _, _, _, .nil => .nil
  | _, _, 0, .cons _ t => .cons r t
  | _, _, i + 1, .cons h t => .cons h (All2.set r i t)
theorem All2.of_get {α β : Type} {R : α → β → Prop} : ∀ {as : List α} {bs : List β}, as.length = bs.length → (∀ (i : Nat) (a : α) (b : β), as[i]? = some a → bs[i]? = some b → R a b) → All2 R as bs
  | [], [], _, _ => .nil
  | a :: as, b :: bs, hl, h => .cons (h 0 a b rfl rfl) (All2.of_get (by simpa using hl) fun i x y hx hy => h (i + 1) x y (by simpa using hx) (by simpa using hy))
def WayAt (H : Hp) (a : Addr) (w : Way) : Prop := H a = some (.tup (wayV w))
def WaysAt (H : Hp) (as : List Addr) (ws : List Way) : Prop := All2 (WayAt H) as ws
theorem WaysAt.same {H H' : Hp} {as : List Addr} {ws : List Way} (h : WaysAt H as ws) (e : Same H H') : WaysAt H' as ws := All2.imp h fun a w q => e a _ q
theorem WaysAt.fresh {H : Hp} {as : List Addr} {ws : List Way} (h : WaysAt H as ws) {p : Addr} (hp : H p = none) : p ∉ as := fun m => by
  obtain ⟨i, hi⟩ := List.getElem?_of_mem m
  obtain ⟨w, _, hw⟩ := All2.get' h hi
  have hw : H p = some (.tup (wayV w)) := hw
  rw [hp] at hw
  cases hw
/-! ### == of data -/
theorem dp_all_ints {K : PySem.W.Frag} {H : Hp} : ∀ ns : List Int, DpAll K H (ns.map V.int) (ns.map PyData.int)
  | [] => .nil
  | n :: ns => .cons (.int n) (dp_all_ints ns)
theorem dp_ints {K : PySem.W.Frag} {H : Hp} {p : Addr} {ns : List Int} (h : H p = some (.lst (ns.map V.int))) : Dp K H (.ref p) (intsD ns) := .lst (SqL.of h) (dp_all_ints ns)
theorem dp_way {K : PySem.W.Frag} {H : Hp} {p : Addr} {w : Way} (h : WayAt H p w) : Dp K H (.ref p) (wayD w) := .tup (SqT.of h) (.cons (.int _) (.cons (.int _) (.cons (.int _) (.cons (.int _) .nil))))
theorem dp_all_ways {K : PySem.W.Frag} {H : Hp} : ∀ {as : List Addr} {ws : List Way}, WaysAt H as ws → DpAll K H (as.map V.ref) (ws.map wayD)
  | _, _, .nil => .nil
  | _, _, .cons h t => .cons (dp_way h) (dp_all_ways t)
theorem dp_ways {K : PySem.W.Frag} {H : Hp} {p : Addr} {as : List Addr} {ws : List Way} (h : H p = some (.lst (as.map V.ref))) (hw : WaysAt H as ws) : Dp K H (.ref p) (waysD ws) := .lst (SqL.of h) (dp_all_ways hw)
theorem lay_ints : ∀ ns : List Int, PyData.canLayAll0 (ns.map PyData.int) = true
  | [] => rfl
  | n :: ns => by simp [PyData.canLayAll0, PyData.canLay0, lay_ints ns]
theorem lay_ways : ∀ ws : List Way, PyData.canLayAll0 (ws.map wayD) = true
  | [] => rfl
  | w :: ws => by simp [PyData.canLayAll0, PyData.canLay0, wayD, lay_ways ws]
theorem dep_ints : ∀ ns : List Int, PyData.depthAll (ns.map PyData.int) = 0
  | [] => rfl
  | n :: ns => by simp [PyData.depthAll, PyData.depth, dep_ints ns]
theorem dep_ways : ∀ ws : List Way, PyData.depthAll (ws.map wayD) ≤ 1
  | [] => by simp [PyData.depthAll]
  | w :: ws => by
    have := dep_ways ws
    simp [PyData.depthAll, PyData.depth, wayD, this]
theorem shaped_ints (ns : List Int) : SeqAt.shaped (intsD ns) = true := by
  simp [SeqAt.shaped, intsD, PyData.canLay0, lay_ints, PyData.depth, dep_ints]
theorem shaped_ways (ws : List Way) : SeqAt.shaped (waysD ws) = true := by
  have := dep_ways ws
  simp [SeqAt.shaped, waysD, PyData.canLay0, lay_ways, PyData.depth]
  omega
theorem shaped_nil : SeqAt.shaped (.list []) = true := by simp [SeqAt.shaped, PyData.canLay0, PyData.canLayAll0, PyData.depth, PyData.depthAll]
theorem shaped_pair {a b : PyData} (ha : SeqAt.shaped a = true) (hb : SeqAt.shaped b = true) (da : a.depth ≤ 60) (db : b.depth ≤ 60) : SeqAt.shaped (.list [a, b]) = true := by
  simp [SeqAt.shaped] at ha hb
  simp [SeqAt.shaped, PyData.canLay0, PyData.canLayAll0, PyData.depth, PyData.depthAll, ha.1, hb.1]
  omega
theorem dep_intsD (ns : List Int) : (intsD ns).depth ≤ 60 := by simp [intsD, PyData.depth, dep_ints]
theorem dep_waysD (ws : List Way) : (waysD ws).depth ≤ 60 := by
  have := dep_ways ws
  simp [waysD, PyData.depth]
  omega
theorem eqv_refl {d : PyData} (h : SeqAt.shaped d = true) : PyData.eqv d d = true := SeqAt.eqv_refl d (SeqAt.canLay_of_shaped h)
theorem eqvAll_ints : ∀ a b : List Int, PyData.eqvAll (a.map PyData.int) (b.map PyData.int) = decide (a = b)
  | [], [] => rfl
  | [], b :: bs => by simp [PyData.eqvAll]
  | a :: as, [] => by simp [PyData.eqvAll]
  | a :: as, b :: bs => by
    simp only [List.map_cons, PyData.eqvAll, PyData.eqv, eqvAll_ints as bs]
    by_cases h : a = b <;> simp [h]
theorem eqv_ints (a b : List Int) : PyData.eqv (intsD a) (intsD b) = decide (a = b) := by
  simp only [intsD, PyData.eqv, eqvAll_ints]
theorem eqv_way (a b : Way) : PyData.eqv (wayD a) (wayD b) = decide (a = b) := by
  obtain ⟨a1, a2, a3, a4⟩ := a
  obtain ⟨b1, b2, b3, b4⟩ := b
  simp only [wayD, PyData.eqv, PyData.eqvAll]
  rw [Bool.eq_iff_iff]
  simp
theorem eqvAll_ways : ∀ a b : List Way, PyData.eqvAll (a.map wayD) (b.map wayD) = decide (a = b)
  | [], [] => rfl
  | [], b :: bs => by simp [PyData.eqvAll]
  | a :: as, [] => by simp [PyData.eqvAll]
  | a :: as, b :: bs => by
    simp only [List.map_cons, PyData.eqvAll, eqv_way, eqvAll_ways as bs]
    by_cases h : a = b <;> simp [h]
theorem eqv_ways (a b : List Way) : PyData.eqv (waysD a) (waysD b) = decide (a = b) := by
  simp only [waysD, PyData.eqv, eqvAll_ways]
theorem eqv_ways_nil (a : List Way) : PyData.eqv (waysD a) (.list []) = decide (a = []) := by
  cases a <;> simp [waysD, PyData.eqv, PyData.eqvAll]
theorem eqv_ints_nil (a : List Int) : PyData.eqv (intsD a) (.list []) = decide (a = []) := by
  cases a <;> simp [intsD, PyData.eqv, PyData.eqvAll]
/-! ### comprehensions -/
/-- what is said of an item hangs on no list -/
def NoList (R : V → Hp → Prop) : Prop := ∀ v H H', R v H → (∀ a o, H a = some o → (∀ xs, o ≠ .lst xs) → H' a = some o) → R v H'
theorem noList_c {P : V → Prop} : NoList (fun v _ => P v) := fun _ _ _ h _ => h
theorem noList_tup {f : List V} {P : V → Prop} : NoList (fun v H => ∃ p, v = .ref p ∧ H p = some (.tup f)) := fun _ _ _ ⟨p, e, h⟩ k => ⟨p, e, k p _ h (fun _ z => by cases z)⟩
def Made (H : Hp) (n : Nat) (R : Nat → V → Hp → Prop) : V → Hp → Prop := fun v H' => ∃ D acc, v = .ref D ∧ H D = none ∧ Same H H' ∧ H' D = some (.lst acc) ∧ acc.length = n ∧ ∀ i x, acc[i]? = some x → R i x H'
/-- what a comprehension keeps: the list so far -/
structure LcInv (H1 : Hp) (D : Addr) (R : Nat → V → Hp → Prop) (i : Nat) (H' : Hp) : Prop where
  fr : H1 D = none
  sm : Same H1 H'
  acc : ∃ acc, H' D = some (.lst acc) ∧ acc.length = i ∧ ∀ k x, acc[k]? = some x → R k x H'
section
variable {K : PySem.W.Frag} {σ : L2.St} {H : Hp} {tl te : TE} {j : Nat} {vs : List Nat} {R : Nat → V → Hp → Prop}
theorem lc_start {D : Addr} (hD : H D = none) : LcInv H D R 0 (upd H D (.lst [])) := ⟨hD, same_upd hD, [], upd_same, rfl, fun k x h => by simp at h⟩
theorem lc_turn {H1 H' : Hp} {D : Addr} {i : Nat} {σ2 : L2.St} (hR : ∀ i, NoList (R i)) (hi : i < 100000) (p : LcInv H1 D R i H') (he : ValH te σ2 H' (fun v H2 => Same H' H2 ∧ R i v H2)) :
    tYes σ2 H' fun b H3 => if b = true then te σ2 H3 fun y H4 => ∃ acc, H4 D = some (.lst acc) ∧ acc.length < sizeLine ∧ LcInv H1 D R (i + 1) (upd H4 D (.lst (acc ++ [y]))) else LcInv H1 D R (i + 1) H3 := by
  obtain ⟨fr, sm, acc, ha, hl, hk⟩ := p
  refine iteT (B := LcInv H1 D R (i + 1) H') ?_
  refine he _ fun v H2 hv => ?_
  obtain ⟨e2, rv⟩ := hv
  refine ⟨acc, e2 D _ ha, sz_lt (by omega), fr, same_mut (sm.trans e2) fr, acc ++ [v], upd_same, by simp [hl], fun k x hx => ?_⟩
  have hst : ∀ a o, H2 a = some o → (∀ xs, o ≠ .lst xs) → (upd H2 D (.lst (acc ++ [v]))) a = some o := fun a o h1 h2 => by
    have : a ≠ D := fun z => by
      rw [z, e2 D _ ha] at h1
      exact h2 acc (Option.some.inj h1).symm
    rw [upd_ne this]
    exact h1
  by_cases hkl : k < acc.length
  · rw [List.getElem?_append_left hkl] at hx
    exact hR k x _ _ (hR k x _ _ (hk k x hx) fun a o h1 _ => e2 a o h1) hst
  · have hka : k = acc.length := by
      have := (List.getElem?_eq_some_iff.mp hx).1
      simp at this
      omega
    subst hka
    rw [List.getElem?_append_right (Nat.le_refl _), Nat.sub_self] at hx
    have : v = x := by simpa using hx
    subst this
    rw [hl]
    exact hR i v _ _ rv hst
/-- over range(n) -/
theorem h_lcR {tr : TA} {n : Int} (h : AV tr σ H [.int n]) (hn : 0 ≤ n ∧ n ≤ 40000) (hw : ∀ x, wipe ((wipe σ vs).set j (some x)) vs = wipe σ vs) (R : Nat → V → Hp → Prop) (hR : ∀ i, NoList (R i))
    (he : ∀ (i : Nat) H', (i : Int) < n → Same H H' → ValH te ((wipe σ vs).set j (some (.int (i : Int)))) H' (fun v H2 => Same H' H2 ∧ R i v H2)) : ValH (tLc (iRng1 tr) (gName j) tYes te vs) σ H (Made H n.toNat R) := fun Q q =>
  h _ ⟨n, rfl, by omega, by omega, fun D hD => lc_range (lo := 0) (n := n.toNat) (LcInv H D R) (lc_start hD) (fun i H' hi p => by
    rw [Int.zero_add]
    exact ⟨hw _, lc_turn hR (by omega) p (he i H' (by omega) p.sm)⟩) fun H' p => by
      obtain ⟨fr, sm, acc, h1, h2, h3⟩ := p
      exact q _ _ ⟨D, acc, rfl, fr, sm, h1, h2, h3⟩⟩
/-- over a list -/
theorem h_lcL {p : Addr} {xs : List V} (h : Val tl σ H (.ref p)) (hx : SqL K H p xs) (hz : xs.length ≤ 40000) (hw : ∀ x, wipe ((wipe σ vs).set j (some x)) vs = wipe σ vs) (R : Nat → V → Hp → Prop) (hR : ∀ i, NoList (R i))
    (he : ∀ (i : Nat) x H', xs[i]? = some x → Same H H' → ValH te ((wipe σ vs).set j (some x)) H' (fun v H2 => Same H' H2 ∧ R i v H2)) : ValH (tLc (iList K tl) (gName j) tYes te vs) σ H (Made H xs.length R) := fun Q q =>
  h _ ⟨p, rfl, ⟨xs, hx⟩, fun D hD => lc_list (K := K) (a := p) (xs := xs) (LcInv H D R) (lc_start hD) (fun i H' _ r => Evl.ex_l r.sm hx) (fun i x H' hi r =>
    ⟨hw _, lc_turn hR (by have := (List.getElem?_eq_some_iff.mp hi).1; omega) r (he i x H' hi r.sm)⟩) fun H' r => by
      obtain ⟨fr, sm, acc, h1, h2, h3⟩ := r
      exact q _ _ ⟨D, acc, rfl, fr, sm, h1, h2, h3⟩⟩
end
/-- items that are told by their place -/
theorem made_eq {H H' : Hp} {n : Nat} {f : Nat → V} {v : V} (h : Made H n (fun i x _ => x = f i) v H') : ∃ D, v = .ref D ∧ H D = none ∧ Same H H' ∧ H' D = some (.lst ((List.range n).map f)) := by
  obtain ⟨D, acc, rfl, fr, sm, h1, h2, h3⟩ := h
  refine ⟨D, rfl, fr, sm, ?_⟩
  have : acc = (List.range n).map f := by
    apply List.ext_getElem?
    intro i
    by_cases hi : i < n
    · rw [List.getElem?_map, List.getElem?_range hi]
      have hi' : i < acc.length := by omega
      rw [List.getElem?_eq_getElem hi']
      have := h3 i acc[i] (List.getElem?_eq_getElem hi')
      rw [this]
      rfl
    · rw [List.getElem?_eq_none (by omega), List.getElem?_eq_none (by simp; omega)]
  rw [h1, this]
/-- items that are tuples of ways -/
theorem made_ways {H H' : Hp} {n : Nat} {f : Nat → Way} {v : V} (h : Made H n (fun i x H2 => ∃ p, x = .ref p ∧ WayAt H2 p (f i)) v H') :
    ∃ D as, v = .ref D ∧ H D = none ∧ Same H H' ∧ H' D = some (.lst (as.map V.ref)) ∧ WaysAt H' as ((List.range n).map f) := by
  obtain ⟨D, acc, rfl, fr, sm, h1, h2, h3⟩ := h
  have key : ∀ (m : Nat) (l : List V) (g : Nat → Way), l.length = m → (∀ i x, l[i]? = some x → ∃ p, x = .ref p ∧ WayAt H' p (g i)) → ∃ as : List Addr, l = as.map V.ref ∧ WaysAt H' as ((List.range m).map g) := by
    intro m
    induction m with
    | zero =>
      intro l g hl _
      have : l = [] := List.eq_nil_of_length_eq_zero hl
      subst this
      exact ⟨[], rfl, .nil⟩
    | succ m ih =>
      intro l g hl hx
      cases l with
      | nil => simp at hl
      | cons x l =>
        obtain ⟨p, rfl, hp⟩ := hx 0 x rfl
        obtain ⟨as, e, hw⟩ := ih l (fun i => g (i + 1)) (by simpa using hl) fun i y hy => hx (i + 1) y (by simpa using hy)
        refine ⟨p :: as, by simp [e], ?_⟩
        rw [List.range_succ_eq_map, List.map_cons, List.map_map]
        exact .cons hp hw
  obtain ⟨as, e, hw⟩ := key n acc f h2 h3
  exact ⟨D, as, rfl, fr, sm, by rw [h1, e], hw⟩
/-- a written list at a reckoned place -/
theorem h_ixLst {K : PySem.W.Frag} {σ : L2.St} {H : Hp} {tr : TA} {tb : TE} {xs : List V} {i : Int} {z : V} (h : AV tr σ H xs) (hz : xs.length ≤ 1000) (hb : ∀ H', Same H H' → Val tb σ H' (.int i)) (hi : atI xs i = some z) :
    ValH (tOp (rIxL K) (tLst tr) tb) σ H (fun v H' => v = z ∧ Same H H') := fun Q q => h _ ⟨sz_ok (by omega), fun p hp => hb _ (same_upd hp) _ ⟨p, xs, i, z, rfl, rfl, SqL.of upd_same, hi, q _ _ ⟨rfl, same_upd hp⟩⟩⟩
end EH

set_option maxHeartbeats 2000000
/-! own layer, 3: values, tests, arguments that leave new objects behind (the heap grows) -/
namespace EH
open PySem PySem.Spec PyProof.Rows L2
def GV (te : TE) (σ : St) (H : Hp) (v : V) : Prop := ∀ Q : VK, (∀ H', Same H H' → Q v H') → te σ H Q
def AG (t : TT) (σ : St) (H : Hp) (b : Bool) : Prop := ∀ Q : Bool → Hp → Prop, (∀ H', Same H H' → Q b H') → t σ H Q
def AVG (t : TA) (σ : St) (H : Hp) (vs : List V) : Prop := ∀ Q : List V → Hp → Prop, (∀ H', Same H H' → Q vs H') → t σ H Q
section
variable {K : PySem.W.Frag} {σ : St} {H : Hp} {ta tb tc te : TE} {t u : TT} {x y z v : V} {a b c : Bool} {i j k : Int} {D : Ends} {ts tz tu : TS} {P : V → Hp → Prop}
theorem g_of (h : Val te σ H v) : GV te σ H v := fun Q q => h Q (q H (Same.refl H))
theorem ag_of (h : Ans t σ H b) : AG t σ H b := fun Q q => h Q (q H (Same.refl H))
theorem avg_of {tr : TA} {vs : List V} (h : AV tr σ H vs) : AVG tr σ H vs := fun Q q => h Q (q H (Same.refl H))
theorem g_I0 {g : Int → Int → V} (ha : GV ta σ H (.int i)) (hb : ∀ H', Same H H' → GV tb σ H' (.int j)) : GV (tOp (rI0 g) ta tb) σ H (g i j) := fun Q q => ha _ fun H1 e1 => hb H1 e1 _ fun H2 e2 => ⟨i, j, rfl, rfl, q H2 (e1.trans e2)⟩
theorem g_I {C : Int → Int → Prop} {g : Int → Int → V} (ha : GV ta σ H (.int i)) (hb : ∀ H', Same H H' → GV tb σ H' (.int j)) (hc : C i j) : GV (tOp (rI C g) ta tb) σ H (g i j) := fun Q q => ha _ fun H1 e1 => hb H1 e1 _ fun H2 e2 => ⟨i, j, rfl, rfl, hc, q H2 (e1.trans e2)⟩
theorem g_ixLst {tr : TA} {xs : List V} (h : AV tr σ H xs) (hz : xs.length ≤ 1000) (hb : ∀ H', Same H H' → Val tb σ H' (.int i)) (hi : atI xs i = some z) : GV (tOp (rIxL K) (tLst tr) tb) σ H z := fun Q q =>
  h_ixLst h hz hb hi Q fun v H' p => by
    obtain ⟨rfl, e⟩ := p
    exact q H' e
theorem g_call {tr : TA} {sp : Sp} {E : XK} {vs : List V} (ht : AV tr σ H vs) (hs : ∀ Q : VK, (∀ H', Same H H' → Q v H') → sp (vs ++ []) H Q E) : GV (tCall sp [] E tr) σ H v := fun Q q => ht _ (hs Q q)
theorem GV.h (h : GV te σ H v) : ValH te σ H (fun v' H' => v' = v ∧ Same H H') := fun Q q => h Q fun H' e => q v H' ⟨rfl, e⟩
theorem avg_nil : AVG tNil σ H [] := fun _ q => q H (Same.refl H)
theorem avg_cons {tr : TA} {vs : List V} (h : GV ta σ H x) (hr : ∀ H', Same H H' → AVG tr σ H' vs) : AVG (tCons ta tr) σ H (x :: vs) := fun _ q => h _ fun H1 e1 => hr H1 e1 _ fun H2 e2 => q H2 (e1.trans e2)
theorem h_tupG {tr : TA} {xs : List V} (h : AVG tr σ H xs) (hz : xs.length ≤ 1000) : ValH (tTup tr) σ H (fun v H' => ∃ p, v = .ref p ∧ H p = none ∧ Same H H' ∧ H' p = some (.tup xs)) := fun Q q => h _ fun H1 e1 => ⟨sz_ok (by omega), fun p hp => q _ _ ⟨p, rfl, e1.free hp, e1.trans (same_upd hp), upd_same⟩⟩
theorem h_lstG {tr : TA} {xs : List V} (h : AVG tr σ H xs) (hz : xs.length ≤ 1000) : ValH (tLst tr) σ H (fun v H' => ∃ p, v = .ref p ∧ H p = none ∧ Same H H' ∧ H' p = some (.lst xs)) := fun Q q => h _ fun H1 e1 => ⟨sz_ok (by omega), fun p hp => q _ _ ⟨p, rfl, e1.free hp, e1.trans (same_upd hp), upd_same⟩⟩
theorem ag_test (h : GV te σ H (.bl b)) : AG (tTest te) σ H b := fun _ q => h _ fun H1 e1 => ⟨b, rfl, q H1 e1⟩
theorem ag_B (h : GV te σ H (.bl b)) : AG (tB te) σ H b := fun _ q => h _ fun H1 e1 => ⟨b, rfl, q H1 e1⟩
theorem ag_not (h : AG t σ H a) : AG (tNot t) σ H (!a) := fun _ q => h _ q
theorem ag_and (h1 : AG t σ H a) (h2 : a = true → ∀ H', Same H H' → AG u σ H' b) : AG (tAnd t u) σ H (a && b) := fun Q q => h1 _ fun H1 e1 => by
  cases a with
  | true => exact iteT (h2 rfl H1 e1 Q fun H2 e2 => q H2 (e1.trans e2))
  | false => exact iteF (q H1 e1)
theorem ag_or (h1 : AG t σ H a) (h2 : a = false → ∀ H', Same H H' → AG u σ H' b) : AG (tOr t u) σ H (a || b) := fun Q q => h1 _ fun H1 e1 => by
  cases a with
  | true => exact iteT (q H1 e1)
  | false => exact iteF (h2 rfl H1 e1 Q fun H2 e2 => q H2 (e1.trans e2))
/-- == and != of data; the right one may be made on the way -/
theorem g_neD {d e : PyData} (ha : GV ta σ H x) (hb : ∀ H', Same H H' → ValH tb σ H' (fun y H2 => Same H' H2 ∧ Dp K H2 x d ∧ Dp K H2 y e)) (sd : SeqAt.shaped d = true) (se : SeqAt.shaped e = true) : GV (tOp (rNeD K) ta tb) σ H (.bl (!PyData.eqv d e)) :=
  fun Q q => ha _ fun H1 e1 => hb H1 e1 _ fun y H2 p => ⟨d, e, p.2.1, p.2.2, sd, se, q H2 (e1.trans p.1)⟩
theorem g_eqD {d e : PyData} (ha : GV ta σ H x) (hb : ∀ H', Same H H' → ValH tb σ H' (fun y H2 => Same H' H2 ∧ Dp K H2 x d ∧ Dp K H2 y e)) (sd : SeqAt.shaped d = true) (se : SeqAt.shaped e = true) : GV (tOp (rEqD K) ta tb) σ H (.bl (PyData.eqv d e)) :=
  fun Q q => ha _ fun H1 e1 => hb H1 e1 _ fun y H2 p => ⟨d, e, p.2.1, p.2.2, sd, se, q H2 (e1.trans p.1)⟩
/-- both operands may be made on the way -/
theorem g_neDH {d e : PyData} {P : V → Hp → Prop} (ha : ValH ta σ H P) (hb : ∀ x H', P x H' → Same H H' ∧ ValH tb σ H' (fun y H2 => Same H' H2 ∧ Dp K H2 x d ∧ Dp K H2 y e)) (sd : SeqAt.shaped d = true) (se : SeqAt.shaped e = true) : GV (tOp (rNeD K) ta tb) σ H (.bl (!PyData.eqv d e)) :=
  fun Q q => ha _ fun x H1 p1 => (hb x H1 p1).2 _ fun y H2 p => ⟨d, e, p.2.1, p.2.2, sd, se, q H2 ((hb x H1 p1).1.trans p.1)⟩
theorem h_nil {H : Hp} : ValH (tLst tNil) σ H (fun y H2 => Same H H2 ∧ Dp K H2 y (.list [])) := fun Q q => show ([] : List V).length ≤ sizeLine ∧ _ from ⟨Nat.zero_le _, fun p hp => q _ _ ⟨same_upd hp, .lst (SqL.of upd_same) .nil⟩⟩
theorem q_ifG (h : AG t σ H b) (h1 : b = true → ∀ H', Same H H' → ts { D with nx := tz D } σ H') (h2 : b = false → ∀ H', Same H H' → tu { D with nx := tz D } σ H') : tSeq (tIfS t ts tu) tz D σ H := h _ fun H' e => by
  cases b with
  | true => exact iteT (h1 rfl H' e)
  | false => exact iteF (h2 rfl H' e)
theorem q_whenG (h : AG t σ H b) (h1 : b = true → ∀ H', Same H H' → ts { D with nx := tz D } σ H') (h2 : b = false → ∀ H', Same H H' → tz D σ H') : tSeq (tIfS t ts tNext) tz D σ H := q_ifG h h1 h2
theorem q_setG {n : Nat} (h : GV te σ H v) (k : ∀ H', Same H H' → tz D (σ.set n (some v)) H') : tSeq (tAsg te (gName n)) tz D σ H := h _ k
theorem s_setG {n : Nat} (h : GV te σ H v) (k : ∀ H', Same H H' → D.nx (σ.set n (some v)) H') : tAsg te (gName n) D σ H := h _ k
theorem s_retG (h : GV te σ H v) (k : ∀ H', Same H H' → D.rt v H') : tRet te D σ H := h _ k
/-- if c: x = e, told by the value x has behind it -/
theorem q_ifset {n : Nat} (h : Ans t σ H b) (h1 : b = true → Val te σ H v) (h2 : b = false → σ.set n (some v) = σ) (k : tz D (σ.set n (some v)) H) : tSeq (tIfS t (tAsg te (gName n)) tNext) tz D σ H :=
  q_when h (fun hb => s_set (D := { D with nx := tz D }) (h1 hb) k) (fun hb => by
    rw [h2 hb] at k
    exact k)
/-- an if without else, what holds behind it told by M -/
theorem q_ifM (M : St → Hp → Prop) (h : AG t σ H b) (h1 : ∀ N : St → Hp → Prop, (∀ σ' H', M σ' H' → N σ' H') → b = true → ∀ H', Same H H' → ts { D with nx := N } σ H') (h2 : b = false → ∀ H', Same H H' → M σ H') (k : ∀ σ' H', M σ' H' → tz D σ' H') : tSeq (tIfS t ts tNext) tz D σ H :=
  q_ifG h (fun hb H' e => h1 (tz D) k hb H' e) fun hb H' e => k σ H' (h2 hb H' e)
theorem s_setLG {l : Addr} {xs : List V} {n : Nat} (hl : H l = some (.lst xs)) (h : GV te σ H v) (ho : ∀ H', Same H H' → Val ta σ H' (.ref l)) (hi : ∀ H', Same H H' → Val tb σ H' (.int i)) (hn : ixN xs.length i = some n) (k : ∀ H', Same H H' → D.nx σ (upd H' l (.lst (xs.set n v)))) :
    tAsg te (gSub ta tb rSetL) D σ H := h _ fun H1 e1 => ho H1 e1 _ (hi H1 e1 _ ⟨l, xs, i, n, rfl, rfl, e1 _ _ hl, hn, k H1 e1⟩)
/-- the value something new -/
theorem s_setLH {l : Addr} {xs : List V} {n : Nat} (hl : H l = some (.lst xs)) (h : ValH te σ H P) (hP : ∀ v H', P v H' → Same H H') (ho : ∀ H', Same H H' → Val ta σ H' (.ref l)) (hi : ∀ H', Same H H' → Val tb σ H' (.int i)) (hn : ixN xs.length i = some n) (k : ∀ v H', P v H' → D.nx σ (upd H' l (.lst (xs.set n v)))) :
    tAsg te (gSub ta tb rSetL) D σ H := h _ fun v H1 p => ho H1 (hP v H1 p) _ (hi H1 (hP v H1 p) _ ⟨l, xs, i, n, rfl, rfl, hP v H1 p _ _ hl, hn, k v H1 p⟩)
theorem at2 {a b i : Int} (h : i = 0 ∨ i = 1) : atI [V.int a, .int b] i = some (.int (if i = 0 then a else b)) := by
  rcases h with rfl | rfl <;> rfl
theorem ix_nn {n : Nat} {i : Int} (h : 0 ≤ i) (h2 : i < n) : ixN n i = some i.toNat := by
  unfold ixN
  rw [if_pos h, if_pos h2]
/-- xs[i] = v -/
theorem s_setL {l : Addr} {xs : List V} {n : Nat} (hl : H l = some (.lst xs)) (h : Val te σ H v) (ho : Val ta σ H (.ref l)) (hi : Val tb σ H (.int i)) (hn : ixN xs.length i = some n) (k : D.nx σ (upd H l (.lst (xs.set n v)))) :
    tAsg te (gSub ta tb rSetL) D σ H := h _ (ho _ (hi _ ⟨l, xs, i, n, rfl, rfl, hl, hn, k⟩))
theorem q_setL {l : Addr} {xs : List V} {n : Nat} (hl : H l = some (.lst xs)) (h : Val te σ H v) (ho : Val ta σ H (.ref l)) (hi : Val tb σ H (.int i)) (hn : ixN xs.length i = some n) (k : tz D σ (upd H l (.lst (xs.set n v)))) :
    tSeq (tAsg te (gSub ta tb rSetL)) tz D σ H := h _ (ho _ (hi _ ⟨l, xs, i, n, rfl, rfl, hl, hn, k⟩))
/-- append of something new -/
theorem q_appH {l : Addr} {xs : List V} (hl : H l = some (.lst xs)) (ha : Val ta σ H (.ref l)) (h : ValH te σ H P) (hz : xs.length ≤ 1000000) (hP : ∀ v H', P v H' → Same H H') (k : ∀ v H', P v H' → tz D σ (upd H' l (.lst (xs ++ [v])))) :
    tSeq (tDrop (tBM K "list" rAppend ta (tCons te tNil))) tz D σ H := ha _ ⟨.inl ⟨rfl, _, SqL.of hl⟩, h _ fun v H' p => ⟨l, xs, v, rfl, rfl, hP v H' p _ _ hl, sz_lt hz, k v H' p⟩⟩
theorem s_appH {l : Addr} {xs : List V} (hl : H l = some (.lst xs)) (ha : Val ta σ H (.ref l)) (h : ValH te σ H P) (hz : xs.length ≤ 1000000) (hP : ∀ v H', P v H' → Same H H') (k : ∀ v H', P v H' → D.nx σ (upd H' l (.lst (xs ++ [v])))) :
    tDrop (tBM K "list" rAppend ta (tCons te tNil)) D σ H := ha _ ⟨.inl ⟨rfl, _, SqL.of hl⟩, h _ fun v H' p => ⟨l, xs, v, rfl, rfl, hP v H' p _ _ hl, sz_lt hz, k v H' p⟩⟩
/-- x in a list made on the way -/
theorem g_inN {neg : Bool} {xs : List V} (ha : GV ta σ H x) (hb : ∀ H', Same H H' → ValH tb σ H' (fun v H2 => ∃ D, v = .ref D ∧ H' D = none ∧ Same H' H2 ∧ H2 D = some (.lst xs))) (hx : flatV x = true) (hxs : xs.all flatV = true) : GV (tOp (rIn K neg) ta tb) σ H (.bl (if neg then !inV x xs else inV x xs)) :=
  fun Q q => ha _ fun H1 e1 => hb H1 e1 _ fun y H2 p => by
    obtain ⟨D, rfl, _, e2, h⟩ := p
    exact ⟨D, xs, rfl, .inl (SqL.of h), hx, hxs, q H2 (e1.trans e2)⟩
theorem inV_none {x : V} : ∀ xs : List V, (∀ y ∈ xs, eqV y x = false) → inV x xs = false := fun xs h => by
  rw [inV, List.any_eq_false]
  intro y hy
  rw [h y hy]
  exact Bool.false_ne_true
/-! ### comprehensions whose items are told by what they come from -/
theorem lc_turnF {D : Addr} {acc : List V} {H' : Hp} {σ2 : L2.St} {tt : TT} {b : Bool} {out : V} (fr : H D = none) (sm : Same H H') (ha : H' D = some (.lst acc)) (hz : acc.length ≤ 100000) (ht : AG tt σ2 H' b) (he : b = true → ∀ H2, Same H' H2 → GV te σ2 H2 out)
    {Pn : Hp → Prop} (k : ∀ H2, Same H H2 → H2 D = some (.lst (acc ++ if b then [out] else [])) → Pn H2) :
    tt σ2 H' fun b H3 => if b = true then te σ2 H3 fun y H4 => ∃ acc, H4 D = some (.lst acc) ∧ acc.length < sizeLine ∧ Pn (upd H4 D (.lst (acc ++ [y]))) else Pn H3 := ht _ fun H3 e3 => by
  cases b with
  | true =>
    refine iteT (he rfl H3 e3 _ fun H4 e4 => ⟨acc, e4 _ _ (e3 _ _ ha), sz_lt (by omega), k _ (same_mut (sm.trans (e3.trans e4)) fr) upd_same⟩)
  | false => exact iteF (k H3 (sm.trans e3) (by simpa using e3 _ _ ha))
theorem take_map_filter {α : Type} {xs : List α} {f : α → Bool} {out : α → V} {i : Nat} {x : α} (h : xs[i]? = some x) : ((xs.take (i + 1)).filter f).map out = ((xs.take i).filter f).map out ++ if f x then [out x] else [] := by
  rw [List.take_add_one, h]
  simp only [Option.toList, List.filter_append, List.map_append]
  by_cases hf : f x = true <;> simp [hf]
theorem h_lcF {α : Type} {tl : TE} {tt : TT} {j : Nat} {vs : List Nat} {p : Addr} (xs : List α) (emb out : α → V) (f : α → Bool) (h : Val tl σ H (.ref p)) (hx : SqL K H p (xs.map emb)) (hz : xs.length ≤ 40000) (hw : ∀ x, wipe ((wipe σ vs).set j (some x)) vs = wipe σ vs)
    (ht : ∀ x H', x ∈ xs → Same H H' → AG tt ((wipe σ vs).set j (some (emb x))) H' (f x)) (he : ∀ x H', x ∈ xs → f x = true → Same H H' → GV te ((wipe σ vs).set j (some (emb x))) H' (out x)) :
    ValH (tLc (iList K tl) (gName j) tt te vs) σ H (fun v H' => ∃ D, v = .ref D ∧ H D = none ∧ Same H H' ∧ H' D = some (.lst ((xs.filter f).map out))) := fun Q q =>
  h _ ⟨p, rfl, ⟨_, hx⟩, fun D hD => lc_list (K := K) (a := p) (xs := xs.map emb) (fun i H' => Same H H' ∧ H' D = some (.lst (((xs.take i).filter f).map out))) ⟨same_upd hD, upd_same⟩ (fun i H' _ r => Evl.ex_l r.1 hx)
    (fun i x H' hi r => by
      rw [List.getElem?_map] at hi
      cases e : xs[i]? with
      | none =>
        rw [e] at hi
        cases hi
      | some y =>
        rw [e] at hi
        have hi : emb y = x := Option.some.inj hi
        subst hi
        have hm := List.mem_of_getElem? e
        have hl : (((xs.take i).filter f).map out).length ≤ xs.length := by
          rw [List.length_map]
          exact Nat.le_trans (List.length_filter_le _ _) (List.length_take_le' _ _)
        refine ⟨hw _, lc_turnF hD r.1 r.2 (by omega) (ht y H' hm r.1) (fun hf H2 e2 => he y H2 hm hf (r.1.trans e2)) fun H2 e2 h2 => ⟨e2, ?_⟩⟩
        rw [h2, take_map_filter e])
    fun H' r => q _ _ ⟨D, rfl, hD, r.1, by rw [r.2, List.length_map, List.take_length]⟩⟩
/-- over range(lo, hi) or range(n): the numbers told -/
theorem h_lcF2 {tr : TA} {tt : TT} {j : Nat} {vs : List Nat} {lo hi : Int} (out : Int → V) (f : Int → Bool) (h : AV tr σ H [.int lo, .int hi]) (hz : -100000 ≤ lo ∧ lo ≤ 100000 ∧ -100000 ≤ hi ∧ hi ≤ 100000 ∧ hi - lo ≤ 40000) (hw : ∀ x, wipe ((wipe σ vs).set j (some x)) vs = wipe σ vs)
    (ht : ∀ (x : Int) H', lo ≤ x → x < hi → Same H H' → AG tt ((wipe σ vs).set j (some (.int x))) H' (f x)) (he : ∀ (x : Int) H', lo ≤ x → x < hi → f x = true → Same H H' → GV te ((wipe σ vs).set j (some (.int x))) H' (out x)) :
    ValH (tLc (iRng2 tr) (gName j) tt te vs) σ H (fun v H' => ∃ D, v = .ref D ∧ H D = none ∧ Same H H' ∧ H' D = some (.lst ((((List.range (hi - lo).toNat).map fun (k : Nat) => lo + (k : Int)).filter f).map out))) := fun Q q =>
  h _ ⟨lo, hi, rfl, by omega, fun D hD => lc_range (lo := lo) (n := (hi - lo).toNat) (fun i H' => Same H H' ∧ H' D = some (.lst (((((List.range (hi - lo).toNat).map fun (k : Nat) => lo + (k : Int)).take i).filter f).map out))) ⟨same_upd hD, upd_same⟩
    (fun i H' hi' r => by
      have e : ((List.range (hi - lo).toNat).map fun (k : Nat) => lo + (k : Int))[i]? = some (lo + (i : Int)) := by
        rw [List.getElem?_map, List.getElem?_range hi']
        rfl
      have hl : (((((List.range (hi - lo).toNat).map fun (k : Nat) => lo + (k : Int)).take i).filter f).map out).length ≤ (hi - lo).toNat := by
        rw [List.length_map]
        refine Nat.le_trans (List.length_filter_le _ _) (Nat.le_trans (List.length_take_le' _ _) ?_)
        simp
      refine ⟨hw _, lc_turnF hD r.1 r.2 (by omega) (ht _ H' (by omega) (by omega) r.1) (fun hf H2 e2 => he _ H2 (by omega) (by omega) hf (r.1.trans e2)) fun H2 e2 h2 => ⟨e2, ?_⟩⟩
      rw [h2, take_map_filter e])
    fun H' r => q _ _ ⟨D, rfl, hD, r.1, by
      rw [r.2, List.take_of_length_le (by simp)]⟩⟩
theorem h_lcF1 {tr : TA} {tt : TT} {j : Nat} {vs : List Nat} {hi : Int} (out : Int → V) (f : Int → Bool) (h : AV tr σ H [.int hi]) (hz : 0 ≤ hi ∧ hi ≤ 40000) (hw : ∀ x, wipe ((wipe σ vs).set j (some x)) vs = wipe σ vs)
    (ht : ∀ (x : Int) H', 0 ≤ x → x < hi → Same H H' → AG tt ((wipe σ vs).set j (some (.int x))) H' (f x)) (he : ∀ (x : Int) H', 0 ≤ x → x < hi → f x = true → Same H H' → GV te ((wipe σ vs).set j (some (.int x))) H' (out x)) :
    ValH (tLc (iRng1 tr) (gName j) tt te vs) σ H (fun v H' => ∃ D, v = .ref D ∧ H D = none ∧ Same H H' ∧ H' D = some (.lst ((((List.range hi.toNat).map fun (k : Nat) => (k : Int)).filter f).map out))) := fun Q q =>
  h _ ⟨hi, rfl, by omega, by omega, fun D hD => lc_range (lo := 0) (n := hi.toNat) (fun i H' => Same H H' ∧ H' D = some (.lst (((((List.range hi.toNat).map fun (k : Nat) => (k : Int)).take i).filter f).map out))) ⟨same_upd hD, upd_same⟩
    (fun i H' hi' r => by
      rw [Int.zero_add]
      have e : ((List.range hi.toNat).map fun (k : Nat) => (k : Int))[i]? = some (i : Int) := by
        rw [List.getElem?_map, List.getElem?_range hi']
        rfl
      have hl : (((((List.range hi.toNat).map fun (k : Nat) => (k : Int)).take i).filter f).map out).length ≤ hi.toNat := by
        rw [List.length_map]
        refine Nat.le_trans (List.length_filter_le _ _) (Nat.le_trans (List.length_take_le' _ _) ?_)
        simp
      refine ⟨hw _, lc_turnF hD r.1 r.2 (by omega) (ht _ H' (by omega) (by omega) r.1) (fun hf H2 e2 => he _ H2 (by omega) (by omega) hf (r.1.trans e2)) fun H2 e2 h2 => ⟨e2, ?_⟩⟩
      rw [h2, take_map_filter e])
    fun H' r => q _ _ ⟨D, rfl, hD, r.1, by
      rw [r.2, List.take_of_length_le (by simp)]⟩⟩
theorem ag_yes : AG tYes σ H true := fun _ q => q H (Same.refl H)
theorem v_tupT {p : Addr} {ys : List V} (ha : Val ta σ H (.ref p)) (h : H p = some (.tup ys)) : Val (tCB (rTupQ K) (tCons ta tNil)) σ H (.ref p) := fun _ q => ha _ ⟨p, ys, rfl, SqT.of h, q⟩
end
end EH

set_option maxHeartbeats 2000000
/-! own layer, 4: list.count of data; an error that a clause catches and keeps as a value; isinstance of such -/
namespace EH
open PySem PySem.Spec PyProof.Rows L2
section
variable {X : Cx}
def rCntD (K : PySem.W.Frag) : V → List V → Hp → VK → Prop := fun x xs H Q => ∃ (a : Addr) (y : V) (d : PyData) (ds : List PyData), x = V.ref a ∧ xs = [y] ∧ Dp K H (V.ref a) (.list ds) ∧ Dp K H y d ∧ SeqAt.shaped (.list ds) = true ∧ SeqAt.shaped d = true ∧ Q (.int (ds.countP fun z => PyData.eqv z d : Nat)) H
theorem room65 {A : Around} {k : Nat} (hr : Room k A) : A.units + 65 < cLine := by have := hr.un; omega
theorem mt_countD {K : PySem.W.Frag} (hK : X.K = K) (hu : X.A.units + 65 < cLine) : MtR X "list.count" (rCntD K) := by
  subst hK
  intro pins s σ H x xs v us Q I rx rxs h
  obtain ⟨a, y, d, ds, rfl, rfl, hl, hy, sl, sd, q⟩ := h
  cases rx
  cases rxs with
  | cons ry rt =>
    rename_i uy ut
    cases rt
    obtain ⟨bs, r1⟩ := Dp.reads I d y uy hy ry
    have hxs : PyData.canLayAll0 ds = true := SeqAt.canLay_of_shaped sl
    have hroom : X.A.units + 1 + min (PyData.depthAll ds) d.depth < cLine := by
      have h1 := SeqAt.depth_of_shaped sd
      have h2 : min (PyData.depthAll ds) d.depth ≤ d.depth := Nat.min_le_right _ _
      omega
    cases hl with
    | lst hs ha =>
      obtain ⟨its, rv, ⟨⟨cls, dd, data, sls⟩, n, ho, hc, hdn, hdt⟩, hlen⟩ := I.list hs
      simp only at hc hdt
      subst hc hdt
      obtain ⟨as, h4⟩ := Dp.readsAll I ds _ its ha rv
      have hmap : its.map (SeqAt.readOf s.heap) = ds := SeqAt.readsAll_map ds its as hxs h4
      refine call_meets PySem.F.slot_list_count ⟨_, ho, rfl⟩ PySem.F.entry_list_count (PySem.F.args_list_count_2 _ _)
        (SeqAt.list_countAt a its.toArray n dd sls uy (fun u => PyData.eqv (SeqAt.readOf s.heap u) d)) ⟨ho, SeqAt.items_eqAt (vs := its.toArray) (show ReadsAll s.heap its.toArray.toList ds as from h4) r1 hxs (SeqAt.canLay_of_shaped sd) hroom, ?_⟩
      have ec : its.toArray.toList.countP (fun u => PyData.eqv (SeqAt.readOf s.heap u) d) = ds.countP fun z => PyData.eqv z d := by
        rw [← hmap, List.countP_map]
        rfl
      refine ⟨.int (ds.countP fun z => PyData.eqv z d : Nat), H, I.tok _, ⟨s.toks, ?_⟩, q⟩
      show Value.int ((its.toArray.toList.countP (fun u => PyData.eqv (SeqAt.readOf s.heap u) d) : Nat) : Int) s.toks = Value.int ((ds.countP fun z => PyData.eqv z d : Nat) : Int) s.toks
      rw [ec]
end
/-! ### an error kept -/
/-- an error of the class cls stands at a -/
def ExK (cls : Value) (a : Addr) : HO := .ext fun h => ∃ (oe : Obj) (vs : Array Value), h.get? a = some oe ∧ Zc cls none oe ∧ oe.data = .fields vs
theorem exK_ok {P : Program} {w : World} {H : Hp} {h : Heap} {a : Addr} {cls : Value} {oe : Obj} {vs : Array Value} (e : h.get? a = some oe) (z : Zc cls none oe) (d : oe.data = .fields vs) : ObjOk P w H h a (ExK cls a) :=
  ⟨⟨oe, vs, e, z, d⟩, ⟨oe, e⟩, fun _ _ ⟨o, v, q, r⟩ k => ⟨o, v, k o q, r⟩⟩
section
variable {X : Cx} {pins : List (Addr × Obj)} {σ : St} {H : Hp} {s : Shared}
/-- an object of ours, new since the entry, is tracked from here on -/
theorem Inv.track {a : Addr} {o : HO} {ob : Obj} (I : Inv X pins σ H s) (hb : s.heap.get? a = some ob) (hd : ∀ v, ob.data ≠ .cell v) (na : H a = none) (n0 : X.s_0.heap.get? a = none) (nL : a ≠ X.env.locals) (np : ∀ p ∈ X.pn ++ pins, p.1 ≠ a)
    (new : ObjOk X.prog X.w (upd H a o) s.heap a o) : Inv X pins σ (upd H a o) s := by
  have ne : ∀ b u, H b = some u → b ≠ a := fun b u e => ne_of_none e na
  have nc : ∀ x c, X.env.cells.lookup x = some c → c ≠ a := fun x c e z => by
    obtain ⟨v, o', h1, h2⟩ := I.cell x c e
    rw [z, hb] at h1
    cases h1
    exact hd v h2
  refine ⟨I.ok, I.os, I.bare, ⟨I.base.keep, I.base.slot, fun b u q n hx => ?_, I.base.there, fun b xs q => ?_, fun b u xs q => ?_, fun b ps q => ?_⟩, I.loc, I.cell, ?_, fun x c e => ?_, fun p hp => ?_, fun b u e => ?_, I.len⟩
  · have : b ≠ a := fun z => by
      rw [z, n0] at q
      cases q
    rw [upd_ne this]
    exact I.base.free b u q n hx
  · have := I.base.tups b xs q
    rw [upd_ne (ne _ _ this)]
    exact this
  · have := I.base.frzs b u xs q
    rw [upd_ne (ne _ _ this)]
    exact this
  · obtain ⟨more, e⟩ := I.base.tbls b ps q
    exact ⟨more, by rw [upd_ne (ne _ _ e)]; exact e⟩
  · rw [upd_ne nL.symm]
    exact I.free
  · rw [upd_ne (nc x c e)]
    exact I.freeC x c e
  · obtain ⟨h1, h2, h3⟩ := I.pin p hp
    refine ⟨h1, ?_, h3⟩
    rw [upd_ne (np p hp)]
    exact h2
  · by_cases hba : b = a
    · subst hba
      rw [upd_same] at e
      cases e
      exact new
    · rw [upd_ne hba] at e
      exact (I.hok b u e).stay (fun _ _ _ q => q) (fun c q => by rw [upd_ne (ne _ _ q)]; exact q) fun c xs q => by rw [upd_ne (ne _ _ q)]; exact q
theorem Inv.unsuiteP {a : Addr} {q : Addr × Obj} {pn' : List (Addr × Obj)} (I : Inv (X.suite a (q :: (X.pn ++ pins))) pn' σ H s) (ok : X.Ok) : Inv X (q :: pins) σ H s :=
  ⟨ok, I.os, I.bare, I.base, I.loc, I.cell, I.free, I.freeC, fun p hp => I.pin p (List.mem_append_left _ (by
    rcases List.mem_append.mp hp with h | h
    · exact List.mem_cons_of_mem _ (List.mem_append_left _ h)
    · rcases List.mem_cons.mp h with h | h
      · rw [h]; exact List.mem_cons_self
      · exact List.mem_cons_of_mem _ (List.mem_append_right _ h))), I.hok, I.len⟩
theorem Inv.unpin {q : Addr × Obj} (I : Inv X (q :: pins) σ H s) : Inv X pins σ H s := I.pins_of fun p hp => I.pin p (List.mem_append_right _ (List.mem_cons_of_mem _ hp))
end
/-- what the clause 'except x as n' wishes, the error kept behind it (slot i is n's) -/
def wKeep (K : PySem.W.Frag) (c : Value) (i : Nat) (ts : Addr → Value → Option Addr → TS) (Wout : WX) (D : Ends) : WX := fun cls d σ H =>
  ∃ b, PySem.W.exmOne K cls c = some b ∧ (b = true → d = none ∧ ∀ a, H a = none → ts a cls d { nx := fun σ' H' => D.nx (σ'.set i none) (upd H' a (ExK cls a)), rt := fun _ _ => False } (σ.set i (some (.ref a))) H) ∧ (b = false → Wout cls d σ H)
section
variable {X : Cx} {x n : Str} {c : Value} {i : Nat} {body suite : List Stmt} {b₀ : Stmt} {np pos pos' : Pos} {tb : WX → TS} {ts : Addr → Value → Option Addr → TS} {Wout : WX}
theorem ps_try_keep {K : PySem.W.Frag} (hK : X.K = K) (hs : X.stack = X.env :: X.outer) (hf : X.env.frame = some X.env.locals) (hex : X.ex = []) (hN : X.N.Nodup) (hi : X.N[i]? = some n) (hln : X.env.kindOf n = some .local) (hc : Names X x c) (tk : Takes X Wout)
    (hb : ∀ (W : WX) (pn : List (Addr × Obj)) (xe : Value → Shared → Prop), Takes (X.tr pn xe) W → PassesOwn (model X.prog X.w) X.A X.env xe → PSs (X.tr pn xe) body (tb W))
    (hsu : ∀ (a : Addr) (oe : Obj) (cls : Value) (d : Option Addr) (pn : List (Addr × Obj)), Zc cls d oe → (∃ vs, oe.data = .fields vs) → PSs (X.suite a ((a, oe) :: pn)) (b₀ :: suite) (ts a cls d)) :
    PS X (.Try body [.ExceptHandler (some (.Name x np)) (some n) (b₀ :: suite) pos'] [] [] pos) (fun D σ H => tb (wKeep K c i ts Wout D) D σ H) := by
  subst hK
  refine ⟨fun pins s σ H D I h => ?_⟩
  have ok := I.ok
  have hfr : X.A.frames = some (X.env :: X.outer) := by rw [ok.frames, hs]
  have hloc : Loc X.env.scope n := .inl hln
  refine wpAny_Try_except ?_
  refine wpAny_mono ((hb (wKeep X.K c i ts Wout D) (X.pn ++ pins) (fun e s₁ => wpAny (model X.prog X.w) X.A (noteFrame e X.env) (fun _ s₂ => wpAny (model X.prog X.w) X.A (setFlight e none) (fun _ s₃ =>
    wpAny (model X.prog X.w) X.A (handleBy e X.env [.ExceptHandler (some (.Name x np)) (some n) (b₀ :: suite) pos']) (SP X pins D) X.xe s₃) X.xe s₂) X.xe s₁) (fun u s' xx => ?_) PassesOwn.looking).run [] s σ H D (I.toTry _) h) (fun f s1 hsp => ?_) (fun e s1 he => he)
  · obtain ⟨a, B, sI, pins', σ', H', cls, d, rfl, J', nb, up, sky, na, os, ag, b, hb1, hyes, hno⟩ := xx
    have J : Inv X pins σ' H' sI := J'.ofTry ok
    have sky' : Sky B (X.env :: X.outer) a (Zc cls d) X.env.locals s'.heap := by rw [← hs]; exact sky
    show wpAny (model X.prog X.w) X.A (noteFrame (.ref a) X.env) _ _ _
    refine Sky.land Zc.steady hfr hf sky' fun h3 fl3 up3 => ?_
    have J3 : Inv X pins σ' H' { s' with heap := h3 } := J.landed nb fl3.1 (up.trans up3) os ag
    obtain ⟨oe3, vs3, he3, hz3, hd3⟩ := fl3.there
    have notFr : ∀ {h : Heap} {o : Obj} {vs : Array Value}, h.FunFrames B (X.env :: X.outer) → h.get? a = some o → o.data = .fields vs → a ∉ frs (X.env :: X.outer) := fun {h o vs} ff e dd hm => by
      obtain ⟨_, o', e', hnf⟩ := ff.mem hm
      rw [e] at e'; cases e'
      exact hnf _ dd
    have nfr := notFr fl3.2.2.1 he3 hd3
    have nL : a ≠ X.env.locals := fun z => nfr (List.mem_filterMap.mpr ⟨X.env, List.mem_cons_self, by rw [hf, z]⟩)
    have nF : a ∉ X.fs := fun hm => by
      obtain ⟨e, he, q⟩ := List.mem_filterMap.mp hm
      exact nfr (List.mem_filterMap.mpr ⟨e, List.mem_cons_of_mem _ he, q⟩)
    -- the error is new since the entry
    have nI : sI.heap.get? a = none := by
      cases e : sI.heap.get? a with
      | none => rfl
      | some o =>
        have h1 := nb a o e (by rw [hs]; exact nfr)
        rw [fl3.2.1] at h1
        cases h1
    have n0 : X.s_0.heap.get? a = none := by
      cases e : X.s_0.heap.get? a with
      | none => rfl
      | some o =>
        obtain ⟨o', e'⟩ := J.base.there a o e (by rw [hex]; simp)
        rw [nI] at e'
        cases e'
    have npp : ∀ p ∈ X.pn ++ pins, p.1 ≠ a := fun p hp z => by
      obtain ⟨h1, _⟩ := J.pin p hp
      rw [z, nI] at h1
      cases h1
    have S3 := J3.suite he3 hd3 na nL nF
    refine wpAny_handleBy_cons (codeAny_handlers_test ?_) (by intro q; cases q)
    have LT : PySem.W.Looks (model X.prog X.w) h3 (typeOf (.ref a)) cls := fun A Q E s k q => wpAny_typeOf_ref (k _ _ he3) (by rw [hz3.1]; exact q)
    have LM := PySem.W.exm_one (M := model X.prog X.w) (J3.kIn) LT hb1
    have test : ∀ {Q : Value → Shared → Prop} {E : Value → Shared → Prop}, Q c { s' with heap := h3 } → wpAny (model X.prog X.w) (X.A.mark (some (.ref a))) (eval (.Name x np) X.env) Q E { s' with heap := h3 } := fun {Q E} q => by
      obtain ⟨hg, hdbg, hm | ⟨hm, hv, hnn⟩⟩ := hc
      · exact ld_glob (X := X.suite a ((a, oe3) :: (X.pn ++ pins))) S3 hg hm q hdbg
      · exact ld_blt (X := X.suite a ((a, oe3) :: (X.pn ++ pins))) S3 hg hm hv q hnn hdbg
    refine test (LM.here ?_)
    cases b with
    | true =>
      obtain ⟨dn, hyes⟩ := hyes rfl
      subst dn
      refine codeAny_handlers_suite_as ?_
      refine HandSPX.lands_againZ fl3 fun h4 fl4 up4 => ?_
      have J4 : Inv X pins σ' H' { s' with heap := h4 } := J.landed nb fl4.1 ((up.trans up3).trans up4) os ag
      obtain ⟨oe4, vs4, he4, hz4, hd4⟩ := fl4.there
      have S4 := J4.suite he4 hd4 na nL nF
      refine store_ok (X := X.suite a ((a, oe4) :: (X.pn ++ pins))) (v := .ref a) S4 hN hi hloc rfl (fun s5 S5 => ?_) (.inr hln)
      refine wpAny_mono ((hsu a oe4 cls none (X.pn ++ pins) hz4 ⟨_, hd4⟩).run [] s5 _ H' _ S5 (hyes a na)) (fun f s6 hsp => ?_) (fun _ _ z => False.elim z)
      cases f with
      | next =>
        obtain ⟨σ6, H6, S6, q6⟩ := hsp
        refine gone_ok (Inv.unsuiteP S6 ok) hN hi hln fun s7 J7 => ?_
        obtain ⟨e7, m7, _⟩ := J7.pin (a, oe4) (List.mem_append_right _ List.mem_cons_self)
        exact ⟨_, _, Inv.track (Inv.unpin J7) e7 (fun v z => by rw [hd4] at z; cases z) m7 n0 nL npp (exK_ok e7 hz4 hd4), q6⟩
      | brk =>
        obtain ⟨σ6, H6, S6, q6⟩ := hsp
        exact False.elim q6
      | cont =>
        obtain ⟨σ6, H6, S6, q6⟩ := hsp
        exact False.elim q6
      | ret u =>
        obtain ⟨v6, σ6, H6, S6, r6, q6⟩ := hsp
        exact False.elim q6
    | false =>
      show wpAny _ X.A (handleBy (.ref a) X.env []) _ _ _
      refine wpAny_handleBy_nil ?_
      obtain ⟨k1, k2, k3, oe, vs, T, oT, ts', he, hz, hd, h1, hr⟩ := id fl3
      unfold PySem.passOn
      refine wpAny_bind (wpAny_field he hd h1 ?_)
      rw [if_neg (show ¬ ((Value.ref T == Value.none) = true) from by simp)]
      have fin : wpAny (model X.prog X.w) X.A (setFlight (.ref a) X.env.frame) (fun _ s4 => wpAny (model X.prog X.w) X.A (throw (.ref a) : Sem Flow) (SP X pins D) X.xe s4) X.xe { s' with heap := h3 } := by
        rw [hf]
        refine HandSPX.setFlight_upZ fl3 fun h4 hh4 up4 => wpAny_throw (tk _ _ ?_)
        exact ⟨a, B, sI, pins, σ', H', cls, d, rfl, J, nb, (up.trans up3).trans up4, .inr (.inr (by rw [hs]; exact hh4)), na, os, ag, hno rfl⟩
      first
        | exact wpAny_bind (wpAny_pure (wpAny_bind fin))
        | exact wpAny_bind fin
  · cases f with
    | next =>
      obtain ⟨σ', H', J', q⟩ := hsp
      exact wpAny_execs_nil ⟨σ', H', J'.ofTry ok, q⟩
    | brk =>
      obtain ⟨σ', H', J', q⟩ := hsp
      exact ⟨σ', H', J'.ofTry ok, q⟩
    | cont =>
      obtain ⟨σ', H', J', q⟩ := hsp
      exact ⟨σ', H', J'.ofTry ok, q⟩
    | ret u =>
      obtain ⟨v, σ', H', J', r, q⟩ := hsp
      exact ⟨v, σ', H', J'.ofTry ok, r, q⟩
end
/-- isinstance of a kept error -/
def rIsK (K : PySem.W.Frag) : List V → Hp → VK → Prop := fun xs H Q => ∃ (a D : Addr) (c : V) (cv : Value) (b : Bool), xs = [.ref a, c] ∧ H a = some (ExK (.ref D) a) ∧ ExcC K D ∧ ClsV c cv ∧ PySem.W.kitOne K (.ref D) cv = some b ∧ Q (.bl b) H
theorem call_isKK {X : Cx} {K : PySem.W.Frag} (hK : X.K = K) : CallR X (.builtin "isinstance") (rIsK K) := by
  subst hK
  intro pins s σ H xs us Q I r h
  obtain ⟨a, D, c, cv, b, rfl, ha, C, hcv, e, q⟩ := h
  cases r with
  | cons rx rr =>
    cases rr with
    | cons rt rr =>
      cases rr
      cases rx
      have ec := hcv.eq rt
      subst ec
      obtain ⟨⟨oe, vs, hget, hz, hv⟩, _⟩ := I.hok a _ ha
      have J : PySem.W.InstAt s.heap a oe D none := by
        obtain ⟨oc, od, oda, osl⟩ := oe
        obtain ⟨h1, h2⟩ := hz
        dsimp only at h1 h2 hv
        subst h1 h2 hv
        exact ⟨hget, rfl, rfl, trivial⟩
      exact PySem.W.kia_one (PySem.W.handS_kitx_exc C.hg C.hk C.hs C.hd C.ha C.hn C.ht C.hm) I.kIn J e (fun z => nomatch z) fun tk => ⟨.bl b, H, I.kept (t' := tk) fun _ _ z => z, rfl, q⟩
/-! ### calls within a try: what is raised is wished for at the slots -/
section
variable {X : Cx} {CX : CXT} {E : St → XK} {k j : Nat} {C : Addr} {x : Str} {sp : Sp} {p pos : Pos} {e : Expr} {es : List Expr} {t : TA}
theorem pe_cS (c : Cal X.prog X.w X.K X.mg X.base CX k x sp) (hr : Room j X.A) (hk : k ≤ j) (hx : ∀ σ, PassesAt CX X σ (E σ)) (hg : Gl X x) (ha : PA X (e :: es) t)
    (hdb : (x == ("__debug__" : Str)) = false := by decide) (he : starEach (e :: es) X.env = (false, eval e X.env) :: starEach es X.env := by rfl) (hpl : (backTo pos (starEach es X.env)).any (·.1) = false := by rfl) :
    PE X (.Call (.Name x p) (e :: es) [] pos) (tCallS sp E t) := by
  obtain ⟨f, fd, ps, F, hm, kp, b⟩ := c.ex
  exact pe_callS F (hr.mono hk) hg hm kp b hx ha hdb he hpl
def tMakeS (C : Addr) (sp : Sp) (E : St → XK) (t : TA) : TE := fun σ H Q => t σ H fun vs H1 => ∀ x dx, H1 x = none → H1 dx = none → dx ≠ x →
  sp (.ref x :: vs) (upd (upd H1 dx (.own x)) x (.ins C dx [])) (fun v H2 => v = .non ∧ Q (.ref x) H2) (E σ)
theorem pe_mkS (c : Mak X.prog X.w X.K X.mg X.base CX k x C sp) (hr : Room j X.A) (hk : k + 1 ≤ j) (hx : ∀ σ, PassesAt CX X σ (E σ)) (hg : Gl X x) (ha : PA X (e :: es) t)
    (hdb : (x == ("__debug__" : Str)) = false := by decide) (he : starEach (e :: es) X.env = (false, eval e X.env) :: starEach es X.env := by rfl) (hpl : (backTo pos (starEach es X.env)).any (·.1) = false := by rfl) :
    PE X (.Call (.Name x p) (e :: es) [] pos) (tMakeS C sp E t) := by
  obtain ⟨f, fd, ps, M, F, hm, hb⟩ := c.ex
  have hr := hr.mono hk
  refine ⟨fun pins s σ H Q I h => ?_⟩
  refine wpAny_Call_Name_kw (ld_glob I hg hm ?_ hdb)
  refine PySem.W.callWith_K (h₀ := X.base) I.ok.mod.kin M.kp (thn (ha.run pos pins s σ H _ I h) fun us s1 ⟨vs, H1, I1, r, q⟩ => ⟨I1.kIn, ?_⟩) he hpl
  have I2 := Inv.made (C := C) I1
  have hq := q (s1.heap.objs.size + 1) s1.heap.objs.size (I1.hok.fresh (Nat.le_succ _)) (I1.hok.fresh (Nat.le_refl _)) (Nat.ne_of_lt (Nat.lt_succ_self _))
  have r2 : Vals (V.ref (s1.heap.objs.size + 1) :: vs) (Value.ref (s1.heap.objs.size + 1) :: us) := .cons rfl r
  have hl : (Value.ref (s1.heap.objs.size + 1) :: us ++ []).length = ps.length := by
    have e2 := F.len _ _ _ _ hq
    rw [List.append_nil, ← r2.length, e2]
  have b := hb _ (Value.ref (s1.heap.objs.size + 1) :: us) I2.kIn hl
  rw [List.append_nil] at b
  refine wpAny_call (make_map (f := f) I1.kIn M.makes M.init (beq_iff_eq.mp M.fn) (codeAny_mono (F.run _ X.stack _ _ ⟨Value.ref (s1.heap.objs.size + 1) :: us, []⟩ _ _ _ (E σ) (hr.make C us []) (I2.env0.make C us []) b r2 hq) fun r s' hq' => ?_))
  cases r with
  | error e => exact hx σ pins _ _ e s' I2 hq'
  | ok fl =>
    cases fl with
    | ret u =>
      obtain ⟨v, H', I3, rv, ev, q3⟩ := I2.after hq'
      subst ev
      exact ⟨rv, ⟨V.ref (s1.heap.objs.size + 1), H', I3, rfl, q3⟩⟩
    | next => exact False.elim hq'
    | brk => exact False.elim hq'
    | cont => exact False.elim hq'
end
/-! ### what isinstance leans on, looked at in the written part -/
def eqB (a b : Option (Option Value)) : Bool := decide (a = b)
def excB (K : PySem.W.Frag) (D : Addr) : Bool :=
  decide (PySem.W.findIn K (.ref D) "__getattribute__" = some (some (.builtin "BaseException.__getattribute__"))) && (decide (PySem.W.findIn K (.ref D) "__getattr__" = some none) && (decide (PySem.W.subIn K (.ref D) (.type "BaseException") = some true) &&
  (PySem.W.hasDictIn K D && (decide (PySem.W.findIn K (.ref D) "__class__" = some (some (.builtin "object.__class__"))) && (decide (PySem.W.specialIn K (.builtin "object.__class__") "__get__" = some (some (.builtin "getset_descriptor.__get__"))) &&
  (decide (PySem.W.takesIn K (.builtin "object.__class__") = some true) && decide (PySem.W.mroIn K D (.type "object") = some true)))))))
theorem excB_ok {K : PySem.W.Frag} {D : Addr} (h : excB K D = true) : ExcC K D := by
  simp only [excB, Bool.and_eq_true, decide_eq_true_eq] at h
  obtain ⟨h1, h2, h3, h4, h5, h6, h7, h8⟩ := h
  exact ⟨h1, h2, h3, h4, h5, h6, h7, h8⟩
def insB (K : PySem.W.Frag) (D : Addr) : Bool :=
  decide (PySem.W.findIn K (.ref D) "__class__" = some (some (.builtin "object.__class__"))) && (decide (PySem.W.specialIn K (.builtin "object.__class__") "__get__" = some (some (.builtin "getset_descriptor.__get__"))) &&
  (decide (PySem.W.takesIn K (.builtin "object.__class__") = some true) && (decide (PySem.W.mroIn K D (.type "object") = some true) && decide (PySem.W.kitOne K (.ref D) (.ref D) = some true))))
theorem insB_ok {K : PySem.W.Frag} {D : Addr} (c : Cls K D) (h : insB K D = true) : C8.InsC K D := by
  simp only [insB, Bool.and_eq_true, decide_eq_true_eq] at h
  obtain ⟨h1, h2, h3, h4, h5⟩ := h
  exact ⟨c, h1, h2, h3, h4, h5⟩
/-- the error class at D is the i-th of the four, beneath the two -/
structure AloneC (K : PySem.W.Frag) (C : Cs) (D : Addr) (i : Nat) : Prop where
  ex : ExcC K D
  k0 : PySem.W.kitOne K (.ref D) (.ref C.BadHouse) = some (decide (i = 0))
  k1 : PySem.W.kitOne K (.ref D) (.ref C.NoWalk) = some (decide (i = 1))
  k2 : PySem.W.kitOne K (.ref D) (.ref C.BadPaper) = some (decide (i = 2))
  k3 : PySem.W.kitOne K (.ref D) (.ref C.NoText) = some (decide (i = 3))
  kh : PySem.W.kitOne K (.ref D) (.ref C.HallError) = some true
  kv : PySem.W.kitOne K (.ref D) (.type "ValueError") = some true
def aloneB (K : PySem.W.Frag) (C : Cs) (D : Addr) (i : Nat) : Bool :=
  excB K D && (decide (PySem.W.kitOne K (.ref D) (.ref C.BadHouse) = some (decide (i = 0))) && (decide (PySem.W.kitOne K (.ref D) (.ref C.NoWalk) = some (decide (i = 1))) && (decide (PySem.W.kitOne K (.ref D) (.ref C.BadPaper) = some (decide (i = 2))) &&
  (decide (PySem.W.kitOne K (.ref D) (.ref C.NoText) = some (decide (i = 3))) && (decide (PySem.W.kitOne K (.ref D) (.ref C.HallError) = some true) && decide (PySem.W.kitOne K (.ref D) (.type "ValueError") = some true))))))
theorem aloneB_ok {K : PySem.W.Frag} {C : Cs} {D : Addr} {i : Nat} (h : aloneB K C D i = true) : AloneC K C D i := by
  simp only [aloneB, Bool.and_eq_true, decide_eq_true_eq] at h
  obtain ⟨h1, h2, h3, h4, h5, h6, h7⟩ := h
  exact ⟨excB_ok h1, h2, h3, h4, h5, h6, h7⟩
/-- the errors' names -/
structure ExcG (mg : Str → Option Value) (C : Cs) : Prop where
  BadHouse : mg "BadHouse" = some (.ref C.BadHouse)
  NoWalk : mg "NoWalk" = some (.ref C.NoWalk)
  BadPaper : mg "BadPaper" = some (.ref C.BadPaper)
  NoText : mg "NoText" = some (.ref C.NoText)
  HallError : mg "HallError" = some (.ref C.HallError)
abbrev rIsHQ (A : Addr) : List V → Hp → VK → Prop := fun xs H Q => ∃ a dx fs, xs = [.ref a, .ref A] ∧ H a = some (.ins A dx fs) ∧ Q (.bl true) H
theorem call_isCK {X : Cx} {K : PySem.W.Frag} {A : Addr} (hK : X.K = K) (c : C8.InsC K A) : CallR X (.builtin "isinstance") (rIsHQ A) := by subst hK; exact C8.call_isC c
section
variable {K : PySem.W.Frag} {σ : St} {H : Hp} {ta tb : TE}
theorem v_isK {a D : Addr} {c : V} {cv : Value} {b : Bool} (ha : Val ta σ H (.ref a)) (hb : Val tb σ H c) (hH : H a = some (ExK (.ref D) a)) (hC : ExcC K D) (hc : ClsV c cv) (hk : PySem.W.kitOne K (.ref D) cv = some b) : Val (tCB (rIsK K) (tCons ta (tCons tb tNil))) σ H (.bl b) :=
  fun _ q => ha _ (hb _ ⟨a, D, c, cv, b, rfl, hH, hC, hc, hk, q⟩)
theorem g_neS {x y : V} (ha : GV ta σ H x) (hb : ∀ H', Same H H' → GV tb σ H' y) (hs : scal x y = true) : GV (tOp rNe ta tb) σ H (.bl (!decide (x = y))) := fun Q q => ha _ fun H1 e1 => hb H1 e1 _ fun H2 e2 => ⟨hs, q H2 (e1.trans e2)⟩
theorem g_eqS {x y : V} (ha : GV ta σ H x) (hb : ∀ H', Same H H' → GV tb σ H' y) (hs : scal x y = true) : GV (tOp rEq ta tb) σ H (.bl (decide (x = y))) := fun Q q => ha _ fun H1 e1 => hb H1 e1 _ fun H2 e2 => ⟨hs, q H2 (e1.trans e2)⟩
theorem s_ifG {D : Ends} {ts tu : TS} {t : TT} {b : Bool} (h : AG t σ H b) (h1 : b = true → ∀ H', Same H H' → ts D σ H') (h2 : b = false → ∀ H', Same H H' → tu D σ H') : tIfS t ts tu D σ H := h _ fun H' e => by
  cases b with
  | true => exact iteT (h1 rfl H' e)
  | false => exact iteF (h2 rfl H' e)
theorem v_isH {a A dx : Addr} {fs : List (Str × V)} (ha : Val ta σ H (.ref a)) (hb : Val tb σ H (.ref A)) (hH : H a = some (.ins A dx fs)) : Val (tCB (rIsHQ A) (tCons ta (tCons tb tNil))) σ H (.bl true) := fun _ q => ha _ (hb _ ⟨a, dx, fs, rfl, hH, q⟩)
end
end EH

set_option maxHeartbeats 2000000
/-! own layer, 6: texts; a call whose error has no context of its own -/
namespace EH
open PySem PySem.Spec PyProof.Rows L2
abbrev FIG : Str := "0123456789"
theorem passLN {X : Cx} : Passes (L2N.CX X.prog X.w) X E0 := fun _ _ _ _ _ _ _ h => by
  obtain ⟨_, _, _, _, _, _, _, _, _, _, _, _, z⟩ := h
  exact z.elim
abbrev rSplitQ : V → List V → Hp → VK → Prop := fun x xs H Q => ∃ a b, x = .str a ∧ xs = [.str b] ∧ (b.length == 0) = false ∧ a.length + 2 ≤ sizeLine ∧ rNewStrs (Txt.split a b) H Q
abbrev rJoinQ (K : PySem.W.Frag) : V → List V → Hp → VK → Prop := fun x xs H Q => ∃ a p, ∃ ys : List Str, x = .str a ∧ xs = [.ref p] ∧ (SqL K H p (ys.map V.str) ∨ SqT K H p (ys.map V.str)) ∧ (ys.map (·.length)).sum + ys.length * a.length ≤ 16777216 ∧ Q (.str (Txt.join a ys)) H
abbrev rIdxQ : V → List V → Hp → VK → Prop := fun x xs H Q => ∃ a b i rest, x = .str a ∧ xs = [.str b] ∧ Builtin.Str.occurrences a b 0 a.length 1 = i :: rest ∧ Q (.int (i : Nat)) H
section
variable {X : Cx} {K : PySem.W.Frag} {o e : Expr} {to te : TE}
theorem pe_joinK {apos pos : Pos} (h : X.K = K) (ho : PE X o to) (he : PE X e te) (hs : starEach [e] X.env = [(false, eval e X.env)] := by rfl) (hbase : attributeBase o "join" X.env (eval o X.env) = eval o X.env := by rfl) (hline : (apos.endLine == pos.line) = true := by rfl) :
    PE X (.Call (.Attribute o "join" apos) [e] [] pos) (tM1 (rJoinQ K) to te) := by subst h; exact pe_join ho he hs hbase hline
end
section
variable {K : PySem.W.Frag} {σ : St} {H : Hp} {ta tb te : TE} {a b : Str} {D : Ends}
theorem h_split (ha : Val ta σ H (.str a)) (hb : Val tb σ H (.str b)) (h0 : (b.length == 0) = false) (hz : a.length ≤ 1000000) : ValH (tM1 rSplitQ ta tb) σ H (NewL H ((Txt.split a b).map V.str)) := fun Q q =>
  ha _ ⟨⟨a, rfl⟩, hb _ ⟨a, b, rfl, rfl, h0, sz_ok2 hz, fun p hp => q _ _ ⟨p, rfl, hp, rfl⟩⟩⟩
where
  sz_ok2 {n : Nat} (h : n ≤ 1000000) : n + 2 ≤ sizeLine := Nat.le_trans (Nat.add_le_add_right h 2) (by decide)
theorem g_join {ys : List Str} (ha : Val ta σ H (.str a)) (hb : ValH tb σ H (fun v H' => ∃ p, v = .ref p ∧ Same H H' ∧ H' p = some (.lst (ys.map V.str)))) (hz : (ys.map (·.length)).sum + ys.length * a.length ≤ 16777216) : GV (tM1 (rJoinQ K) ta tb) σ H (.str (Txt.join a ys)) := fun Q q =>
  ha _ ⟨⟨a, rfl⟩, hb _ fun v H' z => by
    obtain ⟨p, rfl, e, h⟩ := z
    exact ⟨a, p, ys, rfl, rfl, .inl (SqL.of h), hz, q H' e⟩⟩
abbrev rAddSQ : R2 := fun x y H Q => ∃ i j, x = .str i ∧ y = .str j ∧ i.length + j.length ≤ sizeLine ∧ Q (.str (i ++ j)) H
theorem v_addS (ha : Val ta σ H (.str a)) (hb : Val tb σ H (.str b)) (hz : a.length + b.length ≤ 1000000) : Val (tOp rAddSQ ta tb) σ H (.str (a ++ b)) := fun _ q => ha _ (hb _ ⟨a, b, rfl, rfl, sz_ok hz, q⟩)
theorem g_addS (ha : GV ta σ H (.str a)) (hb : ∀ H', Same H H' → GV tb σ H' (.str b)) (hz : a.length + b.length ≤ 1000000) : GV (tOp rAddSQ ta tb) σ H (.str (a ++ b)) := fun _ q => ha _ fun H1 e1 => hb H1 e1 _ fun H2 e2 => ⟨a, b, rfl, rfl, sz_ok hz, q H2 (e1.trans e2)⟩
abbrev rStrQ : List V → Hp → VK → Prop := fun xs H Q => ∃ i, xs = [.int i] ∧ i.natAbs.log2 < 1920 ∧ Q (.str (toString i)) H
theorem v_strI {i : Int} (ha : Val ta σ H (.int i)) (h : i.natAbs.log2 < 1920) : Val (tCB rStrQ (tCons ta tNil)) σ H (.str (toString i)) := fun _ q => ha _ ⟨i, rfl, h, q⟩
abbrev rLenSQ : List V → Hp → VK → Prop := fun xs H Q => ∃ z, xs = [.str z] ∧ z.length ≤ sizeLine ∧ Q (.int z.length) H
theorem v_lenS (ha : Val ta σ H (.str a)) (hz : a.length ≤ 1000000) : Val (tCB rLenSQ (tCons ta tNil)) σ H (.int a.length) := fun _ q => ha _ ⟨a, rfl, sz_ok hz, q⟩
theorem a_notInS {c : Nat} {z : Str} (ha : Val ta σ H (.str ⟨#[c]⟩)) (hb : Val tb σ H (.str z)) : Ans (tTest (tOp rNotInS ta tb)) σ H (!decide (c ∈ z.cps.toList)) := fun _ q => ha _ (hb _ ⟨c, z, rfl, rfl, _, rfl, q⟩)
theorem v_idxS {i : Nat} {rest : List Nat} (ha : Val ta σ H (.str a)) (hb : Val tb σ H (.str b)) (h : Builtin.Str.occurrences a b 0 a.length 1 = i :: rest) : Val (tM1 rIdxQ ta tb) σ H (.int (i : Nat)) := fun _ q => ha _ ⟨⟨a, rfl⟩, hb _ ⟨a, b, i, rest, rfl, rfl, h, q⟩⟩
end
/-! ### figures -/
/-- the number that a word of one figure writes -/
def figZ (w : Str) : Option Int := match w.cps.toList with
  | [c] => if c ∈ FIG.cps.toList then some ((c : Int) - 48) else none
  | _ => none
theorem one_sign {w : Str} (h : w.length = 1) : ∃ c, w = ⟨#[c]⟩ := by
  obtain ⟨a⟩ := w
  have h : a.size = 1 := h
  obtain ⟨l⟩ := a
  match l, h with
  | [c], _ => exact ⟨c, rfl⟩
theorem fig_idx {c : Nat} (h : c ∈ FIG.cps.toList) : (48 ≤ c ∧ c ≤ 57) ∧ ∃ rest, Builtin.Str.occurrences FIG ⟨#[c]⟩ 0 FIG.length 1 = (c - 48) :: rest := by
  have e : FIG.cps.toList = [48, 49, 50, 51, 52, 53, 54, 55, 56, 57] := by decide +kernel
  rw [e] at h
  simp only [List.mem_cons, List.not_mem_nil, or_false] at h
  rcases h with rfl | rfl | rfl | rfl | rfl | rfl | rfl | rfl | rfl | rfl <;> exact ⟨by omega, ⟨[], by decide +kernel⟩⟩
end EH

set_option maxHeartbeats 2000000
/-! own layer, 7: a written list whose first item begins with a written text (a token is out behind it); weights of lists of texts -/
namespace EH
open PySem PySem.Spec PyProof.Rows L2
theorem pa_consT {X : Cx} {c : Str} {j : Nat} {p0 p1 : Pos} {e2 : Expr} {es : List Expr} {tb : TE} {ta : TA} (hb : PE X e2 tb) (hr : PAT X es ta)
    (hs : starEach (.BinOp (.Constant (.str c) j p0) .Add e2 p1 :: es) X.env = (false, eval (.BinOp (.Constant (.str c) j p0) .Add e2 p1) X.env) :: starEach es X.env := by rfl) :
    PA X (.BinOp (.Constant (.str c) j p0) .Add e2 p1 :: es) (tCons (tOp rAddSQ (tC (.str c)) tb) ta) := by
  refine ⟨fun pos pins s σ H Q I h => ?_⟩
  rw [hs]
  show wpAny _ _ (spliced ((false, eval (.BinOp (.Constant (.str c) j p0) .Add e2 p1) X.env) :: backTo pos (starEach es X.env))) _ _ s
  have first : wpAny (model X.prog X.w) X.A (eval (.BinOp (.Constant (.str c) j p0) .Add e2 p1) X.env) (fun v s1 => 1 ≤ s1.toks ∧ EP X pins σ (fun x H1 => ta σ H1 fun xs H2 => Q (x :: xs) H2) v s1) X.xe s := by
    refine wpAny_BinOp (Calls.Constant_str ?_)
    refine wpAny_mono (wpAny_toks_of (n := 1) (show 1 ≤ s.toks + 1 by omega) (hb.run pins { s with toks := s.toks + 1 } σ H _ (I.tok _) h)) (fun u s2 q => ?_) (fun _ _ z => z.2)
    obtain ⟨hk, y, H2, I2, r2, q2⟩ := q
    exact wpAny_mono (wpAny_toks_of hk (op_add_str pins s2 σ H2 (.str c) y _ u _ I2 ⟨_, rfl⟩ r2 q2)) (fun _ _ z => z) (fun _ _ z => z.2)
  refine Calls.spliced_cons (wpAny_mono first (fun v s1 q => ?_) fun _ _ z => z)
  obtain ⟨hk, x, H1, I1, r1, q1⟩ := q
  exact thn (hr pos pins s1 σ H1 _ hk I1 q1) fun us s2 ⟨xs, H2, I2, r2, q2⟩ => ⟨x :: xs, H2, I2, .cons r1 r2, q2⟩
theorem v_repl {σ : St} {H : Hp} {to : TE} {x y z : Str} (h : Val to σ H (.str x)) (hz : x.length + (x.length + 1) * z.length ≤ 16777216) : Val (CwR.tReplC to y z) σ H (.str (Txt.replace x y z)) := fun _ q => h _ ⟨x, rfl, hz, q⟩
/-- the weight of a list of texts: its signs, and one for each -/
def wgt (ss : List Str) : Nat := (ss.map (·.length)).sum + ss.length
theorem wgt_append (a b : List Str) : wgt (a ++ b) = wgt a + wgt b := by simp [wgt]; omega
theorem wgt_one (x : Str) : wgt [x] = x.length + 1 := by simp [wgt]
theorem wgt_take : ∀ (n : Nat) (ss : List Str), wgt (ss.take n) ≤ wgt ss
  | 0, ss => by simp [wgt]
  | n + 1, [] => by simp [wgt]
  | n + 1, x :: ss => by
    have := wgt_take n ss
    simp only [wgt, List.take_succ_cons, List.map_cons, List.sum_cons, List.length_cons] at this ⊢
    omega
theorem wgt_drop : ∀ (n : Nat) (ss : List Str), wgt (ss.drop n) ≤ wgt ss
  | 0, ss => Nat.le_refl _
  | n + 1, [] => by simp [wgt]
  | n + 1, x :: ss => by
    have := wgt_drop n ss
    simp only [wgt, List.drop_succ_cons, List.map_cons, List.sum_cons, List.length_cons] at this ⊢
    omega
theorem wgt_mem {ss : List Str} {x : Str} (h : x ∈ ss) : x.length + 1 ≤ wgt ss := by
  induction ss with
  | nil => cases h
  | cons y ss ih =>
    simp only [wgt, List.map_cons, List.sum_cons, List.length_cons] at ih ⊢
    rcases List.mem_cons.mp h with rfl | h
    · omega
    · have := ih h
      omega
theorem wgt_len (ss : List Str) : ss.length ≤ wgt ss := by unfold wgt; omega
theorem wgt_set : ∀ (i : Nat) (ss : List Str) (x : Str), wgt (ss.set i x) ≤ wgt ss + (x.length + 1)
  | _, [], x => by simp [wgt]
  | 0, y :: ss, x => by
    simp only [wgt, List.set_cons_zero, List.map_cons, List.sum_cons, List.length_cons]
    omega
  | i + 1, y :: ss, x => by
    have := wgt_set i ss x
    simp only [wgt, List.set_cons_succ, List.map_cons, List.sum_cons, List.length_cons] at this ⊢
    omega
theorem wgt_split (x y : Str) (h : 1 ≤ y.length) : wgt (Txt.split x y) ≤ x.length + 1 := PyProof.Rows.split_weight x y h
theorem wgt_join {sep : Str} (h : sep.length = 1) (ss : List Str) : (Txt.join sep ss).length ≤ wgt ss := by
  have := StrLaws.join_length_le sep ss
  rw [h, Nat.mul_one] at this
  rw [TL.join_eq]
  exact this
theorem repl_len (x z : Str) (c : Nat) (hz : z.length ≤ 2) : (Txt.replace x ⟨#[c]⟩ z).length ≤ 2 * x.length + 2 := by
  rw [StrLaws.replace_one]
  have h1 := StrLaws.join_length_le z (Txt.split x ⟨#[c]⟩)
  have h2 := wgt_split x ⟨#[c]⟩ (Nat.le_refl 1)
  unfold wgt at h2
  have h3 : (Txt.split x ⟨#[c]⟩).length * z.length ≤ (Txt.split x ⟨#[c]⟩).length * 2 := Nat.mul_le_mul_left _ hz
  omega
end EH

set_option maxHeartbeats 2000000
namespace EH
open PySem PySem.Spec PyProof.Rows L2
local macro_rules | `(tactic| kbo_bools) => `(tactic| first
  | exact v_c
  | exact v_var rfl
  | assumption
  | ((with_reducible refine' v_I0 ?ka ?kb); (case ka => kbo_bools); (case kb => kbo_bools))
  | ((with_reducible refine' v_I ?ka ?kb ?kc); (case ka => kbo_bools); (case kb => kbo_bools); (case kc => first | assumption | exact (by decide) | exact ⟨by decide, by decide⟩ | exact Or.inl ⟨by decide, by decide⟩ | exact Or.inr ⟨by decide, by decide⟩ | exact Or.inl ⟨by omega, by omega⟩ | exact Or.inr ⟨by omega, by omega⟩ | exact (show (0 : Int) < _ by omega)))
  | ((with_reducible refine' v_neg ?ka); (case ka => kbo_bools))
  | ((with_reducible refine' v_eq ?ka ?kb ?kc); (case ka => kbo_bools); (case kb => kbo_bools); (case kc => rfl))
  | ((with_reducible refine' v_ne ?ka ?kb ?kc); (case ka => kbo_bools); (case kb => kbo_bools); (case kc => rfl))
  | (refine' v_isN ?ka; (case ka => kbo_bools))
  | (refine' v_notN ?ka; (case ka => kbo_bools))
  | ((with_reducible refine' v_ixT ?ka ?kb ?kc ?kd); (case ka => kbo_bools); (case kb => kbo_bools); (case kc => assumption); (case kd => rfl))
  | (refine' v_len ?ka ?kb; (case ka => kbo_bools); (case kb => kln_le))
  | ((with_reducible refine' v_and ?ka ?kb); (case ka => kbo_bools); (case kb => (intro; kbo_bools)))
  | ((with_reducible refine' v_or ?ka ?kb); (case ka => kbo_bools); (case kb => (intro; kbo_bools)))
  | ((with_reducible refine' v_not ?ka); (case ka => kbo_bools)))
local macro_rules | `(tactic| kbt_split) => `(tactic| first
  | assumption
  | ((with_reducible refine' a_not ?ka); (case ka => kbt_split))
  | ((with_reducible refine' a_and ?ka ?kb); (case ka => kbt_split); (case kb => (intro; kbt_split)))
  | ((with_reducible refine' a_or ?ka ?kb); (case ka => kbt_split); (case kb => (intro; kbt_split)))
  | (refine' a_I0 ?ka ?kb; (case ka => kbo_bools); (case kb => kbo_bools))
  | (refine' a_chain ?ka ?kb ?kc; (case ka => kbo_bools); (case kb => kbo_bools); (case kc => kbo_bools))
  | ((with_reducible refine' a_test ?ka); (case ka => kbo_bools))
  | ((with_reducible refine' a_B ?ka); (case ka => kbo_bools)))
local macro_rules | `(tactic| kxs_still) => `(tactic| first
  | exact av_nil
  | ((with_reducible refine' av_cons ?ka ?kb); (case ka => kbo_bools); (case kb => kxs_still)))
local macro_rules | `(tactic| kln_le) => `(tactic| first
  | assumption
  | exact SqL.of (by assumption))
local macro_rules | `(tactic| l_intsC) => `(tactic| first
  | ((with_reducible refine' q_when ?c ?h1 ?h2); (case c => kbt_split))
  | ((with_reducible refine' q_if ?c ?h1 ?h2); (case c => kbt_split))
  | ((with_reducible refine' s_if ?c ?h1 ?h2); (case c => kbt_split)))
local macro_rules | `(tactic| kopn_word) => `(tactic| first
  | ((with_reducible refine' q_set ?c ?h1); (case c => kbo_bools))
  | ((with_reducible refine' s_set ?c ?h1); (case c => kbo_bools))
  | ((with_reducible refine' s_ret ?c ?h1); (case c => kbo_bools)))

abbrev prg : Program := PySem.Challenge.pw_emptyhall_k11_texts_read
def top (i : Nat) : Stmt := PySem.Challenge.pw_emptyhall_k11_texts_read.main.body.getD i (.Pass ⟨0, 0, 0, 0⟩)
abbrev s_see_way : Stmt := top 8
abbrev s_House_init : Stmt := inClass (top 9) 0
abbrev s_House_people : Stmt := inClass (top 9) 1
abbrev s_House_ways : Stmt := inClass (top 9) 2
abbrev s_numbers_of : Stmt := top 12
abbrev s_read : Stmt := top 13
abbrev s_law_cell_at : Stmt := top 15
abbrev s_law_draw : Stmt := top 16
abbrev s_law_whole : Stmt := top 17
abbrev s_law_people : Stmt := top 18
abbrev s_law_way : Stmt := top 19
abbrev s_law_house : Stmt := top 20
abbrev s_law_shown : Stmt := top 21
abbrev s_law_alone : Stmt := top 22
abbrev s_law_words : Stmt := top 23
abbrev s_law_spoiled : Stmt := top 24
abbrev s_law_line : Stmt := top 25
abbrev s_law_due : Stmt := top 26
abbrev s_law_told : Stmt := top 27
abbrev s_law : Stmt := top 28
def d_see_way : He.DefD := ⟨("see_way", none), "see_way", "see_way", defArgs s_see_way, defBody s_see_way, defScope s_see_way, [], []⟩
def d_House_init : He.DefD := ⟨("House", some "__init__"), "__init__", "House.__init__", defArgs s_House_init, defBody s_House_init, defScope s_House_init, [], []⟩
def d_House_people : He.DefD := ⟨("House", some "people"), "people", "House.people", defArgs s_House_people, defBody s_House_people, defScope s_House_people, [], []⟩
def d_House_ways : He.DefD := ⟨("House", some "ways"), "ways", "House.ways", defArgs s_House_ways, defBody s_House_ways, defScope s_House_ways, [], []⟩
def d_numbers_of : He.DefD := ⟨("numbers_of", none), "numbers_of", "numbers_of", defArgs s_numbers_of, defBody s_numbers_of, defScope s_numbers_of, [], []⟩
def d_read : He.DefD := ⟨("read", none), "read", "read", defArgs s_read, defBody s_read, defScope s_read, [], []⟩
def d_law_cell_at : He.DefD := ⟨("_law_cell_at", none), "_law_cell_at", "_law_cell_at", defArgs s_law_cell_at, defBody s_law_cell_at, defScope s_law_cell_at, [], []⟩
def d_law_draw : He.DefD := ⟨("_law_draw", none), "_law_draw", "_law_draw", defArgs s_law_draw, defBody s_law_draw, defScope s_law_draw, [], []⟩
def d_law_whole : He.DefD := ⟨("_law_whole", none), "_law_whole", "_law_whole", defArgs s_law_whole, defBody s_law_whole, defScope s_law_whole, [], []⟩
def d_law_people : He.DefD := ⟨("_law_people", none), "_law_people", "_law_people", defArgs s_law_people, defBody s_law_people, defScope s_law_people, [], []⟩
def d_law_way : He.DefD := ⟨("_law_way", none), "_law_way", "_law_way", defArgs s_law_way, defBody s_law_way, defScope s_law_way, [], []⟩
def d_law_house : He.DefD := ⟨("_law_house", none), "_law_house", "_law_house", defArgs s_law_house, defBody s_law_house, defScope s_law_house, [], []⟩
def d_law_shown : He.DefD := ⟨("_law_shown", none), "_law_shown", "_law_shown", defArgs s_law_shown, defBody s_law_shown, defScope s_law_shown, [], []⟩
def d_law_alone : He.DefD := ⟨("_law_alone", none), "_law_alone", "_law_alone", defArgs s_law_alone, defBody s_law_alone, defScope s_law_alone, [], []⟩
def d_law_words : He.DefD := ⟨("_law_words", none), "_law_words", "_law_words", defArgs s_law_words, defBody s_law_words, defScope s_law_words, [], []⟩
def d_law_spoiled : He.DefD := ⟨("_law_spoiled", none), "_law_spoiled", "_law_spoiled", defArgs s_law_spoiled, defBody s_law_spoiled, defScope s_law_spoiled, [], []⟩
def d_law_line : He.DefD := ⟨("_law_line", none), "_law_line", "_law_line", defArgs s_law_line, defBody s_law_line, defScope s_law_line, [], []⟩
def d_law_due : He.DefD := ⟨("_law_due", none), "_law_due", "_law_due", defArgs s_law_due, defBody s_law_due, defScope s_law_due, [], []⟩
def d_law_told : He.DefD := ⟨("_law_told", none), "_law_told", "_law_told", defArgs s_law_told, defBody s_law_told, defScope s_law_told, [], []⟩
def d_law : He.DefD := ⟨("law", none), "law", "law", defArgs s_law, defBody s_law, defScope s_law, [], []⟩
def fn : List He.DefD := [d_see_way, d_House_init, d_House_people, d_House_ways, d_numbers_of, d_read, d_law_cell_at, d_law_draw, d_law_whole, d_law_people, d_law_way, d_law_house, d_law_shown, d_law_alone, d_law_words, d_law_spoiled, d_law_line, d_law_due, d_law_told, d_law]
def fa : List He.Fa := [.glo "see_way", .glo "numbers_of", .glo "read", .glo "_law_cell_at", .glo "_law_draw", .glo "_law_whole", .glo "_law_people", .glo "_law_way", .glo "_law_house", .glo "_law_shown", .glo "_law_alone", .glo "_law_words", .glo "_law_spoiled", .glo "_law_line", .glo "_law_due", .glo "_law_told", .glo "law", .free "len", .free "list", .free "tuple", .free "range", .free "sum", .free "min", .free "max", .free "isinstance", .free "str", .free "int", .free "bool", .free "enumerate", .free "ValueError", .glo "HallError", .exc "HallError", .glo "BadHouse", .exc "BadHouse", .glo "NoWalk", .exc "NoWalk", .glo "BadPaper", .exc "BadPaper", .glo "NoText", .exc "NoText", .glo "House", .cls "House", .mkr "House", .noat "House" "held", .noat "House" "laid", .meth "House" "people", .meth "House" "ways", .str "FIGURES" "0123456789", .exm "HallError" "BadHouse" false, .exm "BadHouse" "BadHouse" true, .exm "NoWalk" "BadHouse" false, .exm "BadPaper" "BadHouse" false, .exm "NoText" "BadHouse" false, .exm "HallError" "HallError" true, .exm "BadHouse" "HallError" true, .exm "NoWalk" "HallError" true, .exm "BadPaper" "HallError" true, .exm "NoText" "HallError" true]
def loose : List PySem.Str := ["_wall", "__name__", "HallError", "BadHouse", "NoWalk", "BadPaper", "NoText", "see_way", "House", "FIGURES", "numbers_of", "read", "_law_cell_at", "_law_draw", "_law_whole", "_law_people", "_law_way", "_law_house", "_law_shown", "_law_alone", "_law_words", "_law_spoiled", "_law_line", "_law_due", "_law_told"]
/-! ### the law's draws -/
def cellZ (ns : List Int) (k : Int) : Int := if k < ns.length then ns.getD k.toNat 0 else 0
def drawZ (ns : List Int) (k : Int) : Int := (cellZ ns (k % 61) + 7919 * k) * (48271 + 2 * k) % 2147483647
theorem draw_nn (ns : List Int) (k : Int) : 0 ≤ drawZ ns k := Int.emod_nonneg _ (by decide)
def sp_law_cell_at (K : PySem.W.Frag) (C : Cs) : Sp := fun vs H Q _ => ∃ (a : Addr) (ns : List Int) (k : Int), vs = [.ref a, .int k] ∧ SqL K H a (ns.map V.int) ∧ 0 ≤ k ∧ Q (.int (cellZ ns k)) H
def sp_law_draw (K : PySem.W.Frag) (C : Cs) : Sp := fun vs H Q _ => ∃ (a : Addr) (ns : List Int) (k : Int), vs = [.ref a, .int k] ∧ SqL K H a (ns.map V.int) ∧ (0 ≤ k ∧ k ≤ 1000) ∧ Q (.int (drawZ ns k)) H
theorem at_ints {ns : List Int} {k : Int} (h0 : 0 ≤ k) (h : k < ns.length) : atI (ns.map V.int) k = some (.int (ns.getD k.toNat 0)) := by
  obtain ⟨j, rfl⟩ : ∃ j : Nat, k = j := ⟨k.toNat, by omega⟩
  have hj : j < ns.length := by omega
  refine atI_nat ?_
  rw [List.getElem?_map, List.getElem?_eq_getElem hj]
  simp [List.getD_eq_getElem?_getD, List.getElem?_eq_getElem hj]
section
variable {P : Program} {w : World} {K : PySem.W.Frag} {mg : Str → Option Value} {base : Heap} {C : Cs}
abbrev N_law_cell_at : List PySem.Str := ["script", "k"]
theorem sc_law_cell_at : FnScope N_law_cell_at ["script", "k"] (defScope s_law_cell_at) := ⟨rfl, rfl, rfl, by decide +kernel, rfl, by decide +kernel, by decide +kernel⟩
theorem c_law_cell_at {f fd} (D : FnP K "_law_cell_at" "_law_cell_at" s_law_cell_at f fd) (hm : mg "_law_cell_at" = some (.ref f)) (G : Bn mg) : Cal P w K mg base CX0 1 "_law_cell_at" (sp_law_cell_at K C) := by
  refine cal_of D hm (D.ok sc_law_cell_at (fun vs H Q E h => ?_) (fun cdv A outer s H vs Q E hr h => ?_)) (fun _ _ _ _ _ _ us hl => match us, hl with | [_, _], _ => rfl)
  · obtain ⟨a, ns, k, rfl, hS, hk, q⟩ := h
    rfl
  · obtain ⟨a, ns, k, rfl, hS, hk, q⟩ := h
    have hu := hu_of hr
    refine ⟨_, PSs.nox (pss_cons (ps_if (pt_cmpR op_lt (pv 1) (pe_callB (id := "len") (call_len_seqK (K := K) rfl) (by rfl) G.len_ (by decide +kernel) (pa_cons (pv 0) pa_nil)) (nomark _))
          (pss_one (ps_ret (pe_ix (ix_listK (K := K) rfl) (pv 0) (pv 1) (fun _ _ => rfl))))
          pss_nil)
        (pss_one (ps_ret pe_int))), ?_⟩
    l_intsC
    all_goals intro hb
    · have hb : k < ns.length := by simpa using hb
      refine s_ret (v_ixL (by kbo_bools) (by kbo_bools) hS (at_ints hk hb)) ?_
      simpa [cellZ, hb] using q
    · have hb : ¬ k < ns.length := by simpa using hb
      kopn_word
      simpa [cellZ, hb] using q
abbrev N_law_draw : List PySem.Str := ["script", "k"]
theorem sc_law_draw : FnScope N_law_draw ["script", "k"] (defScope s_law_draw) := ⟨rfl, rfl, rfl, by decide +kernel, rfl, by decide +kernel, by decide +kernel⟩
theorem c_law_draw {f fd} (D : FnP K "_law_draw" "_law_draw" s_law_draw f fd) (hm : mg "_law_draw" = some (.ref f)) (G : Bn mg) (c_law_cell_at : Cal P w K mg base CX0 1 "_law_cell_at" (sp_law_cell_at K C)) : Cal P w K mg base CX0 2 "_law_draw" (sp_law_draw K C) := by
  refine cal_of D hm (D.ok sc_law_draw (fun vs H Q E h => ?_) (fun cdv A outer s H vs Q E hr h => ?_)) (fun _ _ _ _ _ _ us hl => match us, hl with | [_, _], _ => rfl)
  · obtain ⟨a, ns, k, rfl, hS, hk, q⟩ := h
    rfl
  · obtain ⟨a, ns, k, rfl, hS, hk, q⟩ := h
    have hu := hu_of hr
    refine ⟨_, PSs.nox (pss_one (ps_ret (pe_op op_mod (pe_op op_mul (pe_op op_add (pe_c c_law_cell_at hr (by decide) pass0 rfl (pa_cons (pv 0) (pa_cons (pe_op op_mod (pv 1) pe_int) pa_nil))) (pe_op op_mul pe_int (pv 1))) (pe_op op_add pe_int (pe_op op_mul pe_int (pv 1)))) pe_int))), ?_⟩
    refine s_ret (v := .int (drawZ ns k)) (v_I (i := (cellZ ns (k % 61) + 7919 * k) * (48271 + 2 * k)) (v_I (v_I0 (i := cellZ ns (k % 61)) (v_call (vs := [.ref a, .int (k % 61)]) (by kxs_still) fun Q q => ⟨a, ns, k % 61, rfl, hS, by omega, q⟩) (by kbo_bools)) (by kbo_bools) (.inr ⟨by omega, by omega⟩)) (by kbo_bools) (by decide)) q
end
/-- a draw, as a value -/
theorem v_draw {K : PySem.W.Frag} {C : Cs} {σ : St} {H : Hp} {ta tb : TE} {a : Addr} {ns : List Int} {k : Int} (hS : SqL K H a (ns.map V.int)) (ha : Val ta σ H (.ref a)) (hb : Val tb σ H (.int k)) (hk : 0 ≤ k ∧ k ≤ 1000) :
    Val (tCall (sp_law_draw K C) [] E0 (tCons ta (tCons tb tNil))) σ H (.int (drawZ ns k)) := v_call (av_cons ha (av_cons hb av_nil)) fun Q q => ⟨a, ns, k, rfl, hS, hk, q⟩
local macro_rules | `(tactic| kbo_bools) => `(tactic| (refine' v_draw ?ka ?kb ?kc ?kd; (case ka => kln_le); (case kb => kbo_bools); (case kc => kbo_bools); (case kd => omega)))
/-! ### a drawn house -/
def mostZ (ns : List Int) : Int := [3, 2, 5, 10].getD (drawZ ns 2 % 4).toNat 3
def peopleZ (ns : List Int) (n : Int) : List Int := (List.range n.toNat).map fun (k : Nat) => drawZ ns (3 + (k : Int)) % mostZ ns
theorem at4 {a b c d : Int} {x : Int} (hx : 0 ≤ x) : atI [V.int a, .int b, .int c, .int d] (x % 4) = some (.int ([a, b, c, d].getD (x % 4).toNat a)) := by
  have h : x % 4 = 0 ∨ x % 4 = 1 ∨ x % 4 = 2 ∨ x % 4 = 3 := by omega
  rcases h with e | e | e | e <;> rw [e] <;> rfl
theorem at3 {a b c : Int} {x : Int} (hx : 0 ≤ x) : atI [V.int a, .int b, .int c] (x % 3) = some (.int ([a, b, c].getD (x % 3).toNat a)) := by
  have h : x % 3 = 0 ∨ x % 3 = 1 ∨ x % 3 = 2 := by omega
  rcases h with e | e | e <;> rw [e] <;> rfl
theorem most_pos (ns : List Int) : 0 < mostZ ns ∧ mostZ ns ≤ 10 := by
  have h : drawZ ns 2 % 4 = 0 ∨ drawZ ns 2 % 4 = 1 ∨ drawZ ns 2 % 4 = 2 ∨ drawZ ns 2 % 4 = 3 := by omega
  unfold mostZ
  rcases h with e | e | e | e <;> rw [e] <;> decide
/-- a new list of these ints -/
def RetInts (ns : List Int) (H : Hp) (Q : VK) : Prop := ∀ p H', H p = none → Same H H' → H' p = some (.lst (ns.map V.int)) → Q (.ref p) H'
def sp_law_people (K : PySem.W.Frag) (C : Cs) : Sp := fun vs H Q _ => ∃ (a : Addr) (ns : List Int) (n : Int), vs = [.ref a, .int n] ∧ SqL K H a (ns.map V.int) ∧ (0 ≤ n ∧ n ≤ 10) ∧ RetInts (peopleZ ns n) H Q
section
variable {P : Program} {w : World} {K : PySem.W.Frag} {mg : Str → Option Value} {base : Heap} {C : Cs}
abbrev N_law_people : List PySem.Str := ["script", "rooms", "most", "k"]
theorem sc_law_people : FnScope N_law_people ["script", "rooms"] (defScope s_law_people) := ⟨rfl, rfl, rfl, by decide +kernel, rfl, by decide +kernel, by decide +kernel⟩
theorem c_law_people {f fd} (D : FnP K "_law_people" "_law_people" s_law_people f fd) (hm : mg "_law_people" = some (.ref f)) (G : Bn mg) (c_law_draw : Cal P w K mg base CX0 2 "_law_draw" (sp_law_draw K C)) : Cal P w K mg base CX0 3 "_law_people" (sp_law_people K C) := by
  refine cal_of D hm (D.ok sc_law_people (fun vs H Q E h => ?_) (fun cdv A outer s H vs Q E hr h => ?_)) (fun _ _ _ _ _ _ us hl => match us, hl with | [_, _], _ => rfl)
  · obtain ⟨a, ns, n, rfl, hS, hn, q⟩ := h
    rfl
  · obtain ⟨a, ns, n, rfl, hS, hn, q⟩ := h
    have hu := hu_of hr
    refine ⟨_, PSs.nox (pss_cons (ps_set (i := 2) sc_law_people.nd rfl (Or.inr rfl) (pe_ix (ix_listK (K := K) rfl) (pe_lst (pa_cons pe_int (pa_cons pe_int (pa_cons pe_int (pa_cons pe_int pa_nil))))) (pe_op op_mod (pe_c c_law_draw hr (by decide) pass0 rfl (pa_cons (pv 0) (pa_cons pe_int pa_nil))) pe_int) (fun _ _ => rfl)))
        (pss_one (ps_ret (pe_lc (own := [("k", 3)]) (g := gName 3) rfl sc_law_people.nd (pi_range1 rfl G.range_ (pa_cons (pv 1) pa_nil)) (blkOk_by (own := [("k", 3)]) (N := N_law_people) (sc := defScope s_law_people) (by decide +kernel)) (fun _ _ _ _ _ => pg_name (i := 3) sc_law_people.nd rfl (Or.inl rfl)) (fun _ _ _ _ _ => pts_nil) (fun _ _ _ _ _ => (pe_op op_mod (pe_c c_law_draw hr (by decide) pass0 rfl (pa_cons (pv 0) (pa_cons (pe_op op_add pe_int (pv 3)) pa_nil))) (pv 2))))))), ?_⟩
    have hm := most_pos ns
    refine q_setH (h_ixLst (by kxs_still) (by decide) (fun H' e => ?_) (at4 (draw_nn ns 2))) fun v H1 hv => ?_
    · have hS := Evl.ex_l e hS
      kbo_bools
    obtain ⟨rfl, e1⟩ := hv
    have hS := Evl.ex_l e1 hS
    refine s_retH (h_lcR (n := n) (by kxs_still) (by omega) (fun _ => rfl) (fun i v _ => v = .int (drawZ ns (3 + (i : Int)) % mostZ ns)) (fun _ => noList_c) fun i H' hi e => ?_) fun v H' hv => ?_
    · have hS := Evl.ex_l e hS
      refine ValH.imp (Val.h' (v := .int (drawZ ns (3 + (i : Int)) % mostZ ns)) (v_I (i := drawZ ns (3 + (i : Int))) (j := mostZ ns) (by kbo_bools) (by kbo_bools) hm.1)) ?_
      rintro v H2 ⟨rfl, rfl⟩
      exact ⟨Same.refl _, rfl⟩
    · obtain ⟨D, rfl, h1, h2, h3⟩ := made_eq hv
      refine q D H' (e1.free h1) (e1.trans h2) ?_
      rw [h3, peopleZ, List.map_map]
      rfl
end
def wideZ (ns : List Int) : Int := [2, 3, 9].getD (drawZ ns 8 % 3).toNat 2
def longZ (ns : List Int) : Int := [2, 3, 6].getD (drawZ ns 9 % 3).toNat 2
theorem wide_b (ns : List Int) : 2 ≤ wideZ ns ∧ wideZ ns ≤ 9 := by
  have h : drawZ ns 8 % 3 = 0 ∨ drawZ ns 8 % 3 = 1 ∨ drawZ ns 8 % 3 = 2 := by omega
  unfold wideZ
  rcases h with e | e | e <;> rw [e] <;> decide
theorem long_b (ns : List Int) : 2 ≤ longZ ns ∧ longZ ns ≤ 6 := by
  have h : drawZ ns 9 % 3 = 0 ∨ drawZ ns 9 % 3 = 1 ∨ drawZ ns 9 % 3 = 2 := by omega
  unfold longZ
  rcases h with e | e | e <;> rw [e] <;> decide
def wayZ (ns : List Int) (k n : Int) : Way :=
  { s := 1 + drawZ ns (10 + k) % n, e := if drawZ ns (21 + k) % (n + 1) = 1 + drawZ ns (10 + k) % n then 0 else drawZ ns (21 + k) % (n + 1), w := 1 + drawZ ns (32 + k) % wideZ ns, l := 1 + drawZ ns (43 + k) % longZ ns }
def RetWay (x : Way) (H : Hp) (Q : VK) : Prop := ∀ p H', H p = none → Same H H' → WayAt H' p x → Q (.ref p) H'
def sp_law_way (K : PySem.W.Frag) (C : Cs) : Sp := fun vs H Q _ => ∃ (a : Addr) (ns : List Int) (k n : Int), vs = [.ref a, .int k, .int n] ∧ SqL K H a (ns.map V.int) ∧ (0 ≤ k ∧ k ≤ 20) ∧ (1 ≤ n ∧ n ≤ 10) ∧ RetWay (wayZ ns k n) H Q
section
variable {P : Program} {w : World} {K : PySem.W.Frag} {mg : Str → Option Value} {base : Heap} {C : Cs}
abbrev N_law_way : List PySem.Str := ["script", "k", "rooms", "start", "end", "wide"]
theorem sc_law_way : FnScope N_law_way ["script", "k", "rooms"] (defScope s_law_way) := ⟨rfl, rfl, rfl, by decide +kernel, rfl, by decide +kernel, by decide +kernel⟩
theorem c_law_way {f fd} (D : FnP K "_law_way" "_law_way" s_law_way f fd) (hm : mg "_law_way" = some (.ref f)) (G : Bn mg) (c_law_draw : Cal P w K mg base CX0 2 "_law_draw" (sp_law_draw K C)) : Cal P w K mg base CX0 3 "_law_way" (sp_law_way K C) := by
  refine cal_of D hm (D.ok sc_law_way (fun vs H Q E h => ?_) (fun cdv A outer s H vs Q E hr h => ?_)) (fun _ _ _ _ _ _ us hl => match us, hl with | [_, _, _], _ => rfl)
  · obtain ⟨a, ns, k, n, rfl, hS, hk, hn, q⟩ := h
    rfl
  · obtain ⟨a, ns, k, n, rfl, hS, hk, hn, q⟩ := h
    have hu := hu_of hr
    refine ⟨_, PSs.nox (pss_cons (ps_set (i := 3) sc_law_way.nd rfl (Or.inl rfl) (pe_op op_add pe_int (pe_op op_mod (pe_c c_law_draw hr (by decide) pass0 rfl (pa_cons (pv 0) (pa_cons (pe_op op_add pe_int (pv 1)) pa_nil))) (pv 2))))
        (pss_cons (ps_set (i := 4) sc_law_way.nd rfl (Or.inl rfl) (pe_op op_mod (pe_c c_law_draw hr (by decide) pass0 rfl (pa_cons (pv 0) (pa_cons (pe_op op_add pe_int (pv 1)) pa_nil))) (pe_op op_add (pv 2) pe_int)))
        (pss_cons (ps_if (pt_cmpR op_eq (pv 4) (pv 3) (nomark _))
          (pss_one (ps_set (i := 4) sc_law_way.nd rfl (Or.inl rfl) pe_int))
          pss_nil)
        (pss_cons (ps_set (i := 5) sc_law_way.nd rfl (Or.inl rfl) (pe_op op_add pe_int (pe_op op_mod (pe_c c_law_draw hr (by decide) pass0 rfl (pa_cons (pv 0) (pa_cons (pe_op op_add pe_int (pv 1)) pa_nil))) (pe_ix (ix_listK (K := K) rfl) (pe_lst (pa_cons pe_int (pa_cons pe_int (pa_cons pe_int pa_nil)))) (pe_op op_mod (pe_c c_law_draw hr (by decide) pass0 rfl (pa_cons (pv 0) (pa_cons pe_int pa_nil))) pe_int) (fun _ _ => rfl)))))
        (pss_one (ps_ret (pe_tup (pa_cons (pv 3) (pa_cons (pv 4) (pa_cons (pv 5) (pa_cons (pe_op op_add pe_int (pe_op op_mod (pe_c c_law_draw hr (by decide) pass0 rfl (pa_cons (pv 0) (pa_cons (pe_op op_add pe_int (pv 1)) pa_nil))) (pe_ix (ix_listK (K := K) rfl) (pe_lst (pa_cons pe_int (pa_cons pe_int (pa_cons pe_int pa_nil)))) (pe_op op_mod (pe_c c_law_draw hr (by decide) pass0 rfl (pa_cons (pv 0) (pa_cons pe_int pa_nil))) pe_int) (fun _ _ => rfl)))) pa_nil))))))))))), ?_⟩
    have hw := wide_b ns
    have hl := long_b ns
    kopn_word
    kopn_word
    refine q_ifset (v := .int (wayZ ns k n).e) (by kbt_split) (fun hb => ?_) (fun hb => ?_) ?_
    · have hb : drawZ ns (21 + k) % (n + 1) = 1 + drawZ ns (10 + k) % n := by simpa using hb
      simp only [wayZ, if_pos hb]
      exact v_c
    · have hb : ¬ drawZ ns (21 + k) % (n + 1) = 1 + drawZ ns (10 + k) % n := by simpa using hb
      simp only [wayZ, if_neg hb]
      rfl
    refine q_setG (v := .int (wayZ ns k n).w) (g_I0 (i := 1) (j := drawZ ns (32 + k) % wideZ ns) (g_of v_c) fun H1 e1 => ?_) fun H1 e1 => ?_
    · have hS := Evl.ex_l e1 hS
      refine g_I (i := drawZ ns (32 + k)) (j := wideZ ns) (g_of (by kbo_bools)) (fun H2 e2 => ?_) (by show (0 : Int) < _; omega)
      have hS := Evl.ex_l e2 hS
      refine g_ixLst (by kxs_still) (by decide) (fun H3 e3 => ?_) (at3 (draw_nn ns 8))
      have hS := Evl.ex_l e3 hS
      kbo_bools
    have hS := Evl.ex_l e1 hS
    refine s_retH (h_tupG (xs := wayV (wayZ ns k n)) (avg_cons (g_of (by kbo_bools)) fun H2 e2 => avg_cons (g_of (by kbo_bools)) fun H3 e3 => avg_cons (g_of (by kbo_bools)) fun H4 e4 => avg_cons ?_ fun _ _ => avg_nil) (by show 4 ≤ 1000; decide)) fun v H2 hv => ?_
    · have hS := Evl.ex_l (e2.trans (e3.trans e4)) hS
      refine g_I0 (i := 1) (j := drawZ ns (43 + k) % longZ ns) (g_of v_c) fun H1 e1 => ?_
      have hS := Evl.ex_l e1 hS
      refine g_I (i := drawZ ns (43 + k)) (j := longZ ns) (g_of (by kbo_bools)) (fun H2 e2 => ?_) (by show (0 : Int) < _; omega)
      have hS := Evl.ex_l e2 hS
      refine g_ixLst (by kxs_still) (by decide) (fun H3 e3 => ?_) (at3 (draw_nn ns 9))
      have hS := Evl.ex_l e3 hS
      kbo_bools
    · obtain ⟨p, rfl, h1, h2, h3⟩ := hv
      exact q p H2 (e1.free h1) (e1.trans h2) h3
end
def roomsZ (ns : List Int) : Int := 1 + drawZ ns 1 % 4
def manyZ (ns : List Int) : Int := if drawZ ns 7 / 8 % 8 = 1 then 10 else drawZ ns 7 % 8
def ways0Z (ns : List Int) : List Way := (List.range (manyZ ns).toNat).map fun (k : Nat) => wayZ ns (k : Int) (roomsZ ns)
def waysZ (ns : List Int) : List Way := if ways0Z ns ≠ [] ∧ drawZ ns 54 % 4 = 1 then (ways0Z ns).set ((ways0Z ns).length - 1) ((ways0Z ns).headD default) else ways0Z ns
def folkZ (ns : List Int) : List Int := peopleZ ns (roomsZ ns)
/-- a new pair of people and ways -/
def PlotAt (H : Hp) (p pl wl : Addr) (as : List Addr) (ps : List Int) (ws : List Way) : Prop := H p = some (.tup [.ref pl, .ref wl]) ∧ H pl = some (.lst (ps.map V.int)) ∧ H wl = some (.lst (as.map V.ref)) ∧ WaysAt H as ws
theorem PlotAt.same {H H' : Hp} {p pl wl : Addr} {as : List Addr} {ps : List Int} {ws : List Way} (h : PlotAt H p pl wl as ps ws) (e : Same H H') : PlotAt H' p pl wl as ps ws := ⟨e _ _ h.1, e _ _ h.2.1, e _ _ h.2.2.1, h.2.2.2.same e⟩
def RetPlot (ps : List Int) (ws : List Way) (H : Hp) (Q : VK) : Prop := ∀ p pl wl as H', H p = none → Same H H' → PlotAt H' p pl wl as ps ws → Q (.ref p) H'
def sp_law_house (K : PySem.W.Frag) (C : Cs) : Sp := fun vs H Q _ => ∃ (a : Addr) (ns : List Int), vs = [.ref a] ∧ SqL K H a (ns.map V.int) ∧ RetPlot (folkZ ns) (waysZ ns) H Q
theorem ix_last {n : Nat} (h : 0 < n) : ixN n (-1) = some (n - 1) := by
  unfold ixN
  rw [if_neg (by omega), if_pos (by omega)]
  congr 1
  omega
section
variable {P : Program} {w : World} {K : PySem.W.Frag} {mg : Str → Option Value} {base : Heap} {C : Cs}
abbrev N_law_house : List PySem.Str := ["script", "rooms", "many", "ways", "k"]
theorem sc_law_house : FnScope N_law_house ["script"] (defScope s_law_house) := ⟨rfl, rfl, rfl, by decide +kernel, rfl, by decide +kernel, by decide +kernel⟩
theorem c_law_house {f fd} (D : FnP K "_law_house" "_law_house" s_law_house f fd) (hm : mg "_law_house" = some (.ref f)) (G : Bn mg) (c_law_draw : Cal P w K mg base CX0 2 "_law_draw" (sp_law_draw K C)) (c_law_way : Cal P w K mg base CX0 3 "_law_way" (sp_law_way K C)) (c_law_people : Cal P w K mg base CX0 3 "_law_people" (sp_law_people K C)) : Cal P w K mg base CX0 4 "_law_house" (sp_law_house K C) := by
  refine cal_of D hm (D.ok sc_law_house (fun vs H Q E h => ?_) (fun cdv A outer s H vs Q E hr h => ?_)) (fun _ _ _ _ _ _ us hl => match us, hl with | [_], _ => rfl)
  · obtain ⟨a, ns, rfl, hS, q⟩ := h
    rfl
  · obtain ⟨a, ns, rfl, hS, q⟩ := h
    have hu := hu_of hr
    refine ⟨_, PSs.nox (pss_cons (ps_set (i := 1) sc_law_house.nd rfl (Or.inr rfl) (pe_op op_add pe_int (pe_op op_mod (pe_c c_law_draw hr (by decide) pass0 rfl (pa_cons (pv 0) (pa_cons pe_int pa_nil))) pe_int)))
        (pss_cons (ps_set (i := 2) sc_law_house.nd rfl (Or.inl rfl) (pe_op op_mod (pe_c c_law_draw hr (by decide) pass0 rfl (pa_cons (pv 0) (pa_cons pe_int pa_nil))) pe_int))
        (pss_cons (ps_if (pt_cmpR op_eq (pe_op op_mod (pe_op op_fdiv (pe_c c_law_draw hr (by decide) pass0 rfl (pa_cons (pv 0) (pa_cons pe_int pa_nil))) pe_int) pe_int) pe_int (nomark _))
          (pss_one (ps_set (i := 2) sc_law_house.nd rfl (Or.inl rfl) pe_int))
          pss_nil)
        (pss_cons (ps_setLc (i := 3) (own := [("k", 4)]) (g := gName 4) rfl sc_law_house.nd rfl rfl (sw_true rfl rfl rfl (by decide +kernel)) (pi_range1 rfl G.range_ (pa_cons (pv 2) pa_nil)) (blkOk_by (own := [("k", 4)]) (N := N_law_house) (sc := defScope s_law_house) (by decide +kernel)) (fun _ _ _ _ _ => pg_name (i := 4) sc_law_house.nd rfl (Or.inl rfl)) (fun _ _ _ _ _ => pts_nil) (fun _ _ _ _ _ => (pe_c c_law_way hr (by decide) pass0 rfl (pa_cons (pv 0) (pa_cons (pv 4) (pa_cons (pv 1) pa_nil))))))
        (pss_cons (ps_if (PW.pt (pw_and (pt_cmpR (op_neDK (K := K) rfl hr.units) (pv 3) (pe_lst pa_nil) (nomark _)) (pw_and1 (pt_cmpR op_eq (pe_op op_mod (pe_c c_law_draw hr (by decide) pass0 rfl (pa_cons (pv 0) (pa_cons pe_int pa_nil))) pe_int) pe_int (nomark _)))))
          (pss_one (ps_asg (pe_ix (ix_listK (K := K) rfl) (pv 3) pe_int (fun _ _ => rfl)) (pg_sub (pv 3) (pe_un un_neg pe_int) set_list)))
          pss_nil)
        (pss_one (ps_ret (pe_tup (pa_cons (pe_c c_law_people hr (by decide) pass0 rfl (pa_cons (pv 0) (pa_cons (pv 1) pa_nil))) (pa_cons (pv 3) pa_nil)))))))))), ?_⟩
    have hd1 := draw_nn ns 1
    have hd7 := draw_nn ns 7
    kopn_word
    kopn_word
    refine q_ifset (v := .int (manyZ ns)) (by kbt_split) (fun hb => ?_) (fun hb => ?_) ?_
    · have hb : drawZ ns 7 / 8 % 8 = 1 := by simpa using hb
      simp only [manyZ, if_pos hb]
      exact v_c
    · have hb : ¬ drawZ ns 7 / 8 % 8 = 1 := by simpa using hb
      simp only [manyZ, if_neg hb]
      rfl
    have hm : 0 ≤ manyZ ns ∧ manyZ ns ≤ 10 := by
      unfold manyZ
      split <;> omega
    refine q_setH (h_lcR (n := manyZ ns) (by kxs_still) (by omega) (fun _ => rfl) (fun i x H2 => ∃ p, x = .ref p ∧ WayAt H2 p (wayZ ns (i : Int) (roomsZ ns))) (fun _ => noList_tup (P := fun _ => True)) fun i H' hi e => ?_) fun v H1 hv => ?_
    · have hS := Evl.ex_l e hS
      refine h_call (vs := [.ref a, .int i, .int (roomsZ ns)]) (by kxs_still) fun Q q => ⟨a, ns, i, roomsZ ns, rfl, hS, by omega, by unfold roomsZ; omega, fun p H2 h1 h2 h3 => q _ _ ⟨h2, p, rfl, h3⟩⟩
    obtain ⟨D, as, rfl, hD0, e1, hD, hW⟩ := made_ways hv
    have hS := Evl.ex_l e1 hS
    have hW : WaysAt H1 as (ways0Z ns) := hW
    have hlen := hW.len
    have fin : ∀ (H2 : Hp) (as2 : List Addr) (ws : List Way), ws = waysZ ns → Same H H2 → H2 D = some (.lst (as2.map V.ref)) → WaysAt H2 as2 ws →
        tRet (tTup (tCons (tCall (sp_law_people K C) [] (fun _ _ _ => False) (tCons (tVar 0) (tCons (tVar 1) tNil))) (tCons (tVar 3) tNil))) { nx := fun x H' => Q V.non H', rt := Q }
          [some (.ref a), some (.int (roomsZ ns)), some (.int (manyZ ns)), some (.ref D), none] H2 := by
      intro H2 as2 ws hws e2 h2 hw2
      subst hws
      have hS : SqL K H2 a (ns.map V.int) := Evl.ex_l e2 (by assumption)
      refine ⟨_, rfl, _, rfl, a, ns, roomsZ ns, rfl, hS, by unfold roomsZ; omega, fun p H3 hp e3 h3 => ?_⟩
      refine ⟨_, rfl, (by show 2 ≤ sizeLine; decide), fun r hr => ?_⟩
      have e4 : Same H3 (upd H3 r (.tup [.ref p, .ref D])) := same_upd hr
      exact q r p D as2 _ (e2.free (e3.free hr)) (e2.trans (e3.trans e4)) ⟨upd_same, e4 _ _ h3, e4 _ _ (e3 _ _ h2), (hw2.same e3).same e4⟩
    refine q_whenG (b := !(PyData.eqv (waysD (ways0Z ns)) (.list [])) && decide (drawZ ns 54 % 4 = 1)) (ag_and (ag_test (g_neD (g_of (by kbo_bools)) (fun H' e => ValH.imp h_nil fun y H2 z => ⟨z.1, dp_ways (z.1 _ _ (e _ _ hD)) ((hW.same e).same z.1), z.2⟩) (shaped_ways _) shaped_nil)) fun hb H' e => ?_) (fun hb H2 e2 => ?_) (fun hb H2 e2 => ?_)
    · have hS := Evl.ex_l e hS
      refine ag_of (Ans.to (by kbt_split) ?_)
      rw [Bool.eq_iff_iff]
      simp
    · rw [eqv_ways_nil] at hb
      have hb : ways0Z ns ≠ [] ∧ drawZ ns 54 % 4 = 1 := by simpa using hb
      obtain ⟨w0, ws0, hw0⟩ := List.exists_cons_of_ne_nil hb.1
      have hW2 := hW.same e2
      obtain ⟨a0, ha0, hwa⟩ := All2.get (i := 0) hW2 (b := w0) (by rw [hw0]; rfl)
      have hl0 : 0 < (as.map V.ref).length := by
        have := (List.getElem?_eq_some_iff.mp ha0).1
        simpa using this
      refine s_setL (e2 _ _ hD) (v := .ref a0) (v_ixL (i := 0) (by kbo_bools) (by kbo_bools) (SqL.of (e2 _ _ hD)) (atI_nat (j := 0) (by simp [ha0]))) (by kbo_bools) (by kbo_bools) (ix_last hl0) ?_
      have hne : ∀ b o, H b = some o → b ≠ D := fun b o h => ne_none h hD0
      have hW3 : ∀ o, WaysAt (upd H2 D o) as (ways0Z ns) := fun o => All2.imp hW2 fun x y hxy => by
        have hxy : H2 x = some (.tup (wayV y)) := hxy
        show (upd H2 D o) x = _
        rw [upd_ne (ne_of hxy (e2 _ _ hD) (by intro z; cases z))]
        exact hxy
      refine fin _ (as.set (as.length - 1) a0) ((ways0Z ns).set ((ways0Z ns).length - 1) w0) ?_ ?_ ?_ ?_
      · unfold waysZ
        rw [if_pos hb, hw0]
        rfl
      · exact same_mut (e1.trans e2) hD0
      · rw [upd_same, List.map_set]
        simp
      · rw [← hlen]
        refine All2.set ?_ _ (hW3 _)
        obtain ⟨b, hb1, hb2⟩ := All2.get (i := 0) (hW3 _) (b := w0) (by rw [hw0]; rfl)
        rw [ha0] at hb1
        cases hb1
        exact hb2
    · rw [eqv_ways_nil] at hb
      have hb : ¬ (ways0Z ns ≠ [] ∧ drawZ ns 54 % 4 = 1) := by
        intro h
        simp [h.1, h.2] at hb
      exact fin H2 as (ways0Z ns) (by unfold waysZ; rw [if_neg hb]) (e1.trans e2) (e2 _ _ hD) (hW.same e2)
end
/-! ### the house -/
def wayOk (n : Int) (x : Way) : Bool := decide (1 ≤ x.s ∧ x.s ≤ n ∧ 0 ≤ x.e ∧ x.e ≤ n ∧ x.s ≠ x.e ∧ 1 ≤ x.w ∧ x.w ≤ 9 ∧ 1 ≤ x.l ∧ x.l ≤ 6)
def countOk (x : Int) : Bool := decide (0 ≤ x ∧ x ≤ 9)
def houseOk (ps : List Int) (ws : List Way) : Bool := decide (1 ≤ ps.length ∧ ps.length ≤ 4 ∧ ws.length ≤ 10) && ps.all countOk && ws.all (wayOk ps.length)
def sp_see_way (K : PySem.W.Frag) (C : Cs) : Sp := fun vs H Q E => ∃ (a : Addr) (x : Way) (n : Int), vs = [.ref a, .int n] ∧ WayAt H a x ∧ (wayOk n x = true → Q .non H) ∧ (wayOk n x = false → E (.ref C.BadHouse) none H)
def hF (a b : Addr) : List (Str × V) := [("held", .ref a), ("laid", .ref b)]
theorem hl_ : ¬ (("held" : Str) = "laid") := by decide +kernel
theorem hF_eq (a b : Addr) : putF "laid" (.ref b) (putF "held" (.ref a) []) = hF a b := by
  show (if ("held" : Str) = "laid" then [(("held" : Str), V.ref b)] else (("held" : Str), V.ref a) :: putF "laid" (V.ref b) []) = _
  rw [if_neg hl_]
  rfl
theorem hF_held (a b : Addr) : (hF a b).lookup ("held" : Str) = some (.ref a) := by
  rw [← hF_eq, lookup_putF, if_neg hl_, lookup_putF, if_pos rfl]
theorem hF_laid (a b : Addr) : (hF a b).lookup ("laid" : Str) = some (.ref b) := by
  rw [← hF_eq, lookup_putF, if_pos rfl]
theorem hF_no (a b : Addr) {m : Str} (h1 : ¬ m = "laid") (h2 : ¬ m = "held") : (hF a b).lookup m = none := by
  rw [← hF_eq, lookup_putF, if_neg h1, lookup_putF, if_neg h2]
  rfl
structure HouseIn (C : Cs) (H : Hp) (h dx hl wl : Addr) (as : List Addr) (ps : List Int) (ws : List Way) : Prop where
  ob : H h = some (.ins C.House dx (hF hl wl))
  hd : H hl = some (.lst (ps.map V.int))
  ld : H wl = some (.lst (as.map V.ref))
  ws : WaysAt H as ws
theorem HouseIn.same {C : Cs} {H H' : Hp} {h dx hl wl : Addr} {as : List Addr} {ps : List Int} {ws : List Way} (x : HouseIn C H h dx hl wl as ps ws) (e : Same H H') : HouseIn C H' h dx hl wl as ps ws := ⟨e _ _ x.ob, e _ _ x.hd, e _ _ x.ld, x.ws.same e⟩
/-- a house stands at h -/
def HouseAt (C : Cs) (H : Hp) (h : Addr) (as : List Addr) (ps : List Int) (ws : List Way) : Prop := ∃ dx hl wl, HouseIn C H h dx hl wl as ps ws
theorem HouseAt.same {C : Cs} {H H' : Hp} {h : Addr} {as : List Addr} {ps : List Int} {ws : List Way} (x : HouseAt C H h as ps ws) (e : Same H H') : HouseAt C H' h as ps ws := let ⟨dx, hl, wl, y⟩ := x; ⟨dx, hl, wl, y.same e⟩
def sp_House_init (K : PySem.W.Frag) (C : Cs) : Sp := fun vs H Q E => ∃ (h dx pl wl : Addr) (as : List Addr) (ps : List Int) (ws : List Way), vs = [.ref h, .ref pl, .ref wl] ∧ H h = some (.ins C.House dx []) ∧ H pl = some (.lst (ps.map V.int)) ∧ H wl = some (.lst (as.map V.ref)) ∧ WaysAt H as ws ∧
  ps.length ≤ 1000 ∧ ws.length ≤ 1000 ∧
  (houseOk ps ws = true → ∀ H', (∃ l1 l2, H l1 = none ∧ H l2 = none ∧ HouseIn C H' h dx l1 l2 as ps ws) → (∀ b o, H b = some o → b ≠ h → H' b = some o) → Q .non H') ∧ (houseOk ps ws = false → ∀ H', Same H H' → E (.ref C.BadHouse) none H')
def sp_House_people (K : PySem.W.Frag) (C : Cs) : Sp := fun vs H Q _ => ∃ (h : Addr) (as : List Addr) (ps : List Int) (ws : List Way), vs = [.ref h] ∧ HouseAt C H h as ps ws ∧ RetInts ps H Q
def RetWays (as : List Addr) (H : Hp) (Q : VK) : Prop := ∀ p H', H p = none → Same H H' → H' p = some (.lst (as.map V.ref)) → Q (.ref p) H'
def sp_House_ways (K : PySem.W.Frag) (C : Cs) : Sp := fun vs H Q _ => ∃ (h : Addr) (as : List Addr) (ps : List Int) (ws : List Way), vs = [.ref h] ∧ HouseAt C H h as ps ws ∧ RetWays as H Q
def sp_House_total (K : PySem.W.Frag) (C : Cs) : Sp := fun vs H Q _ => ∃ (h : Addr) (as : List Addr) (ps : List Int) (ws : List Way), vs = [.ref h] ∧ HouseAt C H h as ps ws ∧ Q (.int ps.sum) H
theorem v_sum {K : PySem.W.Frag} {σ : St} {H : Hp} {ta : TE} {p : Addr} {ns : List Int} (ha : Val ta σ H (.ref p)) (h : SqL K H p (ns.map V.int)) : Val (tCB (rSum K) (tCons ta tNil)) σ H (.int ns.sum) := fun _ q => ha _ ⟨p, ns, rfl, h, q⟩
section
variable {P : Program} {w : World} {K : PySem.W.Frag} {mg : Str → Option Value} {base : Heap} {C : Cs}
abbrev N_see_way : List PySem.Str := ["way", "rooms"]
theorem sc_see_way : FnScope N_see_way ["way", "rooms"] (defScope s_see_way) := ⟨rfl, rfl, rfl, by decide +kernel, rfl, by decide +kernel, by decide +kernel⟩
theorem c_see_way {f fd} (D : FnP K "see_way" "see_way" s_see_way f fd) (hm : mg "see_way" = some (.ref f)) (G : Bn mg) (X_BadHouse : Xc K mg "BadHouse" C.BadHouse) : Cal P w K mg base (L2N.CX P w) 1 "see_way" (sp_see_way K C) := by
  refine cal_of D hm (D.ok sc_see_way (fun vs H Q E h => ?_) (fun cdv A outer s H vs Q E hr h => ?_)) (fun _ _ _ _ _ _ us hl => match us, hl with | [_, _], _ => rfl)
  · obtain ⟨a, x, n, rfl, hW, q, e⟩ := h
    rfl
  · obtain ⟨a, x, n, rfl, hW, q, e⟩ := h
    have hu := hu_of hr
    refine ⟨_, (pss_cons (ps_if (PW.pt (pw_or (pt_not (pt_chain op_le op_le pe_int (pe_ix (ix_tupK (K := K) rfl) (pv 0) pe_int (fun _ _ => rfl)) (pv 1))) (pw_or (pt_not (pt_chain op_le op_le pe_int (pe_ix (ix_tupK (K := K) rfl) (pv 0) pe_int (fun _ _ => rfl)) (pv 1))) (pw_or1 (pt_cmpR op_eq (pe_ix (ix_tupK (K := K) rfl) (pv 0) pe_int (fun _ _ => rfl)) (pe_ix (ix_tupK (K := K) rfl) (pv 0) pe_int (fun _ _ => rfl)) (nomark _))))))
          (pss_one (L2N.ps_raise rfl (L2N.takes_of rfl rfl rfl rfl) (L2N.pmk_own PySem.F.excBase_ValueError X_BadHouse.xi X_BadHouse.g X_BadHouse.k (raises_own X_BadHouse.b X_BadHouse.t) rfl)))
          pss_nil)
        (pss_one (ps_if (PW.pt (pw_or (pt_not (pt_chain op_le op_le pe_int (pe_ix (ix_tupK (K := K) rfl) (pv 0) pe_int (fun _ _ => rfl)) pe_int)) (pw_or1 (pt_not (pt_chain op_le op_le pe_int (pe_ix (ix_tupK (K := K) rfl) (pv 0) pe_int (fun _ _ => rfl)) pe_int)))))
          (pss_one (L2N.ps_raise rfl (L2N.takes_of rfl rfl rfl rfl) (L2N.pmk_own PySem.F.excBase_ValueError X_BadHouse.xi X_BadHouse.g X_BadHouse.k (raises_own X_BadHouse.b X_BadHouse.t) rfl)))
          pss_nil))), ?_⟩
    have hW : H a = some (.tup [.int x.s, .int x.e, .int x.w, .int x.l]) := hW
    l_intsC
    · intro hb
      refine e ?_
      simp [wayOk] at hb ⊢
      omega
    · intro hb
      refine s_if (b := !(decide (1 ≤ x.w) && decide (x.w ≤ 9)) || !(decide (1 ≤ x.l) && decide (x.l ≤ 6))) (by kbt_split) (fun hc => ?_) (fun hc => ?_)
      · refine e ?_
        simp [wayOk] at hb hc ⊢
        omega
      · refine q ?_
        simp [wayOk] at hb hc ⊢
        omega
abbrev N_House_init : List PySem.Str := ["self", "people", "ways", "way", "count"]
theorem sc_House_init : FnScope N_House_init ["self", "people", "ways"] (defScope s_House_init) := ⟨rfl, rfl, rfl, by decide +kernel, rfl, by decide +kernel, by decide +kernel⟩
theorem c_House_init {f fd} (D : FnP K "__init__" "House.__init__" s_House_init f fd) (hm : mg "House" = some (.ref C.House)) (hk : Mk K C.House f) (G : Bn mg) (HC : HouseC K C) (X_BadHouse : Xc K mg "BadHouse" C.BadHouse) (c_see_way : Cal P w K mg base (L2N.CX P w) 1 "see_way" (sp_see_way K C)) : Mak P w K mg base (L2N.CX P w) 2 "House" C.House (sp_House_init K C) := by
  refine mak_of D hm hk (D.ok sc_House_init (fun vs H Q E h => ?_) (fun cdv A outer s H vs Q E hr h => ?_)) (fun _ _ _ _ _ _ us hl => match us, hl with | [_, _, _], _ => rfl)
  · obtain ⟨h, dx, pl, wl, as, ps, ws, rfl, ho, hp, hl, hW, hz1, hz2, q, e⟩ := h
    rfl
  · obtain ⟨h, dx, pl, wl, as, ps, ws, rfl, ho, hp, hl, hW, hz1, hz2, q, e⟩ := h
    have hu := hu_of hr
    refine ⟨_, (pss_cons (ps_if (PW.pt (pw_or (pt_not (pt_chain op_le op_le pe_int (pe_callB (id := "len") (call_len_seqK (K := K) rfl) (by rfl) G.len_ (by decide +kernel) (pa_cons (pv 1) pa_nil)) pe_int)) (pw_or1 (pt_cmpR op_gt (pe_callB (id := "len") (call_len_seqK (K := K) rfl) (by rfl) G.len_ (by decide +kernel) (pa_cons (pv 2) pa_nil)) pe_int (nomark _)))))
          (pss_one (L2N.ps_raise rfl (L2N.takes_of rfl rfl rfl rfl) (L2N.pmk_own PySem.F.excBase_ValueError X_BadHouse.xi X_BadHouse.g X_BadHouse.k (raises_own X_BadHouse.b X_BadHouse.t) rfl)))
          pss_nil)
        (pss_cons (ps_if (pt_cmpR (op_neDK (K := K) rfl hr.units) (pe_lc (own := [("count", 4)]) (g := gName 4) rfl sc_House_init.nd (pi_listK (K := K) rfl (pv 1)) (blkOk_by (own := [("count", 4)]) (N := N_House_init) (sc := defScope s_House_init) (by decide +kernel)) (fun _ _ _ _ _ => pg_name (i := 4) sc_House_init.nd rfl (Or.inl rfl)) (fun _ _ _ _ _ => (pts_one (pt_not (pt_chain op_le op_le pe_int (pv 4) pe_int)))) (fun _ _ _ _ _ => (pv 4))) (pe_lst pa_nil) (nomark _))
          (pss_one (L2N.ps_raise rfl (L2N.takes_of rfl rfl rfl rfl) (L2N.pmk_own PySem.F.excBase_ValueError X_BadHouse.xi X_BadHouse.g X_BadHouse.k (raises_own X_BadHouse.b X_BadHouse.t) rfl)))
          pss_nil)
        (pss_cons (ps_for (passes_of rfl) rfl (pi_listK (K := K) rfl (pv 2)) (pg_name (i := 3) sc_House_init.nd rfl (Or.inl rfl))
          (pss_one (ps_expr (pe_c c_see_way hr (by decide) (L2N.passes_call (L2N.takes_of rfl rfl rfl rfl) (fun _ _ _ _ h => h)) rfl (pa_cons (pv 3) (pa_cons (pe_callB (id := "len") (call_len_seqK (K := K) rfl) (by rfl) G.len_ (by decide +kernel) (pa_cons (pv 1) pa_nil)) pa_nil))))))
        (pss_cons (ps_fldK (K := K) rfl (pv 0) (pe_callTy (T := "list") (call_list_ofK (K := K) rfl) (by rfl) G.list_ (by decide +kernel) (pa_cons (pv 1) pa_nil)) rfl)
        (pss_one (ps_fldK (K := K) rfl (pv 0) (pe_lc (own := [("way", 3)]) (g := gName 3) rfl sc_House_init.nd (pi_listK (K := K) rfl (pv 2)) (blkOk_by (own := [("way", 3)]) (N := N_House_init) (sc := defScope s_House_init) (by decide +kernel)) (fun _ _ _ _ _ => pg_name (i := 3) sc_House_init.nd rfl (Or.inl rfl)) (fun _ _ _ _ _ => pts_nil) (fun _ _ _ _ _ => (pe_callTy (T := "tuple") (call_tupleTK (K := K) rfl) (by rfl) G.tuple_ (by decide +kernel) (pa_cons (pv 3) pa_nil)))) rfl)))))), ?_⟩
    have hlen := hW.len
    have hal : (as.map V.ref).length = ws.length := by simp [hlen]
    have hpl : (ps.map V.int).length = ps.length := by simp
    have nh : ∀ b, H b = none → b ≠ h := fun b hb z => by
      rw [z, ho] at hb
      cases hb
    refine q_when (b := !(decide (1 ≤ (((ps.map V.int).length : Nat) : Int)) && decide ((((ps.map V.int).length : Nat) : Int) ≤ 4)) || decide ((10 : Int) < (((as.map V.ref).length : Nat) : Int))) (by kbt_split) (fun hb => ?_) (fun hb => ?_)
    · refine e ?_ H (Same.refl H)
      rw [hal, hpl] at hb
      simp [houseOk] at hb ⊢
      intro h1 h2 h3
      omega
    rw [hal, hpl] at hb
    have hsz : 1 ≤ ps.length ∧ ps.length ≤ 4 ∧ ws.length ≤ 10 := by
      simp at hb
      omega
    refine q_whenG (b := !PyData.eqv (intsD ((ps.filter fun x => !countOk x).map id)) (.list [])) (ag_test (g_neDH (P := fun v H' => ∃ D, v = .ref D ∧ H D = none ∧ Same H H' ∧ H' D = some (.lst ((ps.filter fun x => !countOk x).map V.int)))
      (h_lcF ps V.int V.int (fun x => !countOk x) (by kbo_bools) (SqL.of hp) (by omega) (fun _ => rfl) (fun x H' _ _ => ag_of (Ans.to (by kbt_split) (by simp [countOk]))) (fun x H' _ _ _ => g_of (by kbo_bools))) (fun v H' hv => ?_) (shaped_ints _) shaped_nil)) (fun hb2 H1 e1 => ?_) (fun hb2 H1 e1 => ?_)
    · obtain ⟨D, rfl, h1, h2, h3⟩ := hv
      refine ⟨h2, ValH.imp h_nil fun y H2 z => ⟨z.1, ?_, z.2⟩⟩
      rw [List.map_id]
      exact dp_ints (z.1 _ _ h3)
    · refine e ?_ H1 e1
      rw [eqv_ints_nil, List.map_id] at hb2
      simp [houseOk] at hb2 ⊢
      intro h1 h2 h3 h4
      obtain ⟨x, hx, hx2⟩ := hb2
      rw [h4 x hx] at hx2
      cases hx2
    rw [eqv_ints_nil, List.map_id] at hb2
    have hps : ∀ x ∈ ps, countOk x = true := by
      intro x hx
      simp at hb2
      exact hb2 x hx
    have hl1 := e1 _ _ hl
    have hW1 := hW.same e1
    refine q_forL (xs := as.map V.ref) (by kbo_bools) (SqL.of hl1) (fun i σ' H' => ∃ v, σ' = [some (.ref h), some (.ref pl), some (.ref wl), v, none] ∧ H' = H1 ∧ ∀ k x, k < i → ws[k]? = some x → wayOk ps.length x = true) ⟨none, rfl, rfl, fun k x hk => by omega⟩
      (fun i σ' H' _ ⟨_, _, e, _⟩ => by rw [e]; exact SqL.of hl1) ?_ ?_
    · rintro i x σ' H' hi ⟨v, rfl, rfl, hk⟩
      rw [List.getElem?_map] at hi
      cases ea : as[i]? with
      | none =>
        rw [ea] at hi
        cases hi
      | some a =>
        rw [ea] at hi
        have hi : V.ref a = x := Option.some.inj hi
        subst hi
        obtain ⟨y, hy, hya⟩ := All2.get' hW1 ea
        refine ⟨_, rfl, _, rfl, pl, ps.map V.int, rfl, .inl (SqL.of (e1 _ _ hp)), a, y, ps.length, ?_, hya, fun hok => ?_, fun hno => ?_⟩
        · rw [hpl]
          rfl
        · refine ⟨_, rfl, rfl, fun k x hk2 hx => ?_⟩
          by_cases hki : k = i
          · subst hki
            rw [hy] at hx
            cases hx
            exact hok
          · exact hk k x (by omega) hx
        · refine e ?_ _ e1
          have : ws.all (wayOk ps.length) = false := by
            rw [Bool.eq_false_iff]
            intro h4
            rw [List.all_eq_true] at h4
            rw [h4 y (List.mem_of_getElem? hy)] at hno
            cases hno
          simp only [houseOk, this, Bool.and_false]
    · rintro σ' H' ⟨v, rfl, rfl, hk⟩
      have hok : houseOk ps ws = true := by
        simp only [houseOk, Bool.and_eq_true, decide_eq_true_eq, List.all_eq_true]
        refine ⟨⟨hsz, hps⟩, fun x hx => ?_⟩
        obtain ⟨i, hi⟩ := List.getElem?_of_mem hx
        refine hk i x ?_ hi
        have := (List.getElem?_eq_some_iff.mp hi).1
        rw [hal]
        exact this
      have ho1 := e1 _ _ ho
      have hp1 := e1 _ _ hp
      refine q_fldH (p := h) (h_list (by kbo_bools) (SqL.of hp1)) fun v H2 hv => ⟨by kbo_bools, ?_⟩
      obtain ⟨l1, rfl, hl1', rfl⟩ := hv
      have n1 : h ≠ l1 := ne_none ho1 hl1'
      refine ⟨C.House, dx, [], by rw [upd_ne n1]; exact ho1, HC.cl, HC.held, by show 0 < 1000; decide, ?_⟩
      have nl1 : ∀ b o, H' b = some o → b ≠ l1 := fun b o hb => ne_none hb hl1'
      have hn1 : wl ≠ h := ne_of hl1 ho1 (by intro z; cases z)
      have hl3 : (upd (upd H' l1 (.lst (ps.map V.int))) h (.ins C.House dx (putF "held" (.ref l1) []))) wl = some (.lst (as.map V.ref)) := by
        rw [upd_ne hn1, upd_ne (nl1 _ _ hl1)]
        exact hl1
      have hW3 : WaysAt (upd (upd H' l1 (.lst (ps.map V.int))) h (.ins C.House dx (putF "held" (.ref l1) []))) as ws := All2.imp hW1 fun a x hax => by
        have hax : H' a = some (.tup (wayV x)) := hax
        show (upd (upd H' l1 _) h _) a = _
        rw [upd_ne (ne_of hax ho1 (by intro z; cases z)), upd_ne (nl1 _ _ hax)]
        exact hax
      refine s_fldH (p := h) (h_lcF as V.ref V.ref (fun _ => true) (by kbo_bools) (SqL.of hl3) (by omega) (fun _ => rfl) (fun _ _ _ _ => ag_yes) (fun a H4 ha _ e4 => ?_)) fun v H4 hv => ⟨by kbo_bools, ?_⟩
      · obtain ⟨i, hi⟩ := List.getElem?_of_mem ha
        obtain ⟨x, _, hx⟩ := All2.get' hW3 hi
        exact g_of (v_tupT (by kbo_bools) (e4 _ _ hx))
      · obtain ⟨l2, rfl, hl2, e4, h4⟩ := hv
        refine ⟨C.House, dx, _, e4 _ _ upd_same, HC.cl, HC.laid, by show 1 < 1000; decide, ?_⟩
        have hl2' : H' l2 = none := by
          cases z : H' l2 with
          | none => rfl
          | some o =>
            by_cases zz : l2 = h
            · rw [zz, upd_same] at hl2
              cases hl2
            · rw [upd_ne zz] at hl2
              by_cases z2 : l2 = l1
              · rw [z2, upd_same] at hl2
                cases hl2
              · rw [upd_ne z2, z] at hl2
                cases hl2
        have n2 : l2 ≠ h := fun z => by
          rw [z, ho1] at hl2'
          cases hl2'
        rw [hF_eq]
        refine q hok _ ⟨l1, l2, e1.free hl1', e1.free hl2', upd_same, ?_, ?_, ?_⟩ fun b o hb hbh => ?_
        · rw [upd_ne n1.symm]
          refine e4 _ _ ?_
          rw [upd_ne n1.symm, upd_same]
        · rw [upd_ne n2, h4, List.filter_eq_self.mpr (fun _ _ => rfl)]
        · refine All2.imp hW3 fun a x hax => ?_
          have hax : _ = some (HO.tup (wayV x)) := hax
          have := e4 _ _ hax
          show (upd H4 h _) a = _
          rw [upd_ne (ne_of this (e4 _ _ upd_same) (by intro z; cases z))]
          exact this
        · rw [upd_ne hbh]
          refine e4 _ _ ?_
          have hb1 := e1 _ _ hb
          rw [upd_ne hbh, upd_ne (nl1 _ _ hb1)]
          exact hb1
abbrev N_House_people : List PySem.Str := ["self"]
theorem sc_House_people : FnScope N_House_people ["self"] (defScope s_House_people) := ⟨rfl, rfl, rfl, by decide +kernel, rfl, by decide +kernel, by decide +kernel⟩
theorem c_House_people {f fd} (D : FnP K "people" "House.people" s_House_people f fd) (hc : Cls K C.House) (hm : Meth K C.House "people" f) (G : Bn mg) (HC : HouseC K C) : Met P w K mg base CX0 1 C.House "people" (sp_House_people K C) := by
  refine met_of D hc hm (D.ok sc_House_people (fun vs H Q E h => ?_) (fun cdv A outer s H vs Q E hr h => ?_)) (fun _ _ _ _ _ _ us hl => match us, hl with | [_], _ => rfl)
  · obtain ⟨h, as, ps, ws, rfl, ⟨dx, hl, wl, hI⟩, q⟩ := h
    rfl
  · obtain ⟨h, as, ps, ws, rfl, ⟨dx, hl, wl, hI⟩, q⟩ := h
    have hu := hu_of hr
    refine ⟨_, PSs.nox (pss_one (ps_ret (pe_callTy (T := "list") (call_list_ofK (K := K) rfl) (by rfl) G.list_ (by decide +kernel) (pa_cons (pe_fldK (K := K) rfl (pv 0) rfl) pa_nil)))), ?_⟩
    refine s_retH (h_list (v_fld (by kbo_bools) hI.ob HC.cl HC.held (hF_held _ _)) (SqL.of hI.hd)) ?_
    rintro v H' ⟨p, rfl, hp, rfl⟩
    exact q p _ hp (same_upd hp) upd_same
abbrev N_House_ways : List PySem.Str := ["self"]
theorem sc_House_ways : FnScope N_House_ways ["self"] (defScope s_House_ways) := ⟨rfl, rfl, rfl, by decide +kernel, rfl, by decide +kernel, by decide +kernel⟩
theorem c_House_ways {f fd} (D : FnP K "ways" "House.ways" s_House_ways f fd) (hc : Cls K C.House) (hm : Meth K C.House "ways" f) (G : Bn mg) (HC : HouseC K C) : Met P w K mg base CX0 1 C.House "ways" (sp_House_ways K C) := by
  refine met_of D hc hm (D.ok sc_House_ways (fun vs H Q E h => ?_) (fun cdv A outer s H vs Q E hr h => ?_)) (fun _ _ _ _ _ _ us hl => match us, hl with | [_], _ => rfl)
  · obtain ⟨h, as, ps, ws, rfl, ⟨dx, hl, wl, hI⟩, q⟩ := h
    rfl
  · obtain ⟨h, as, ps, ws, rfl, ⟨dx, hl, wl, hI⟩, q⟩ := h
    have hu := hu_of hr
    refine ⟨_, PSs.nox (pss_one (ps_ret (pe_callTy (T := "list") (call_list_ofK (K := K) rfl) (by rfl) G.list_ (by decide +kernel) (pa_cons (pe_fldK (K := K) rfl (pv 0) rfl) pa_nil)))), ?_⟩
    refine s_retH (h_list (v_fld (by kbo_bools) hI.ob HC.cl HC.laid (hF_laid _ _)) (SqL.of hI.ld)) ?_
    rintro v H' ⟨p, rfl, hp, rfl⟩
    exact q p _ hp (same_upd hp) upd_same
end
/-! ### a drawn house is one -/
theorem folk_len (ns : List Int) : (folkZ ns).length = (roomsZ ns).toNat := by simp [folkZ, peopleZ]
theorem rooms_b (ns : List Int) : 1 ≤ roomsZ ns ∧ roomsZ ns ≤ 4 := by
  unfold roomsZ
  have := draw_nn ns 1
  omega
theorem many_b (ns : List Int) : 0 ≤ manyZ ns ∧ manyZ ns ≤ 10 := by
  have := draw_nn ns 7
  unfold manyZ
  split <;> omega
theorem folk_ok (ns : List Int) : ∀ x ∈ folkZ ns, countOk x = true := by
  intro x hx
  simp only [folkZ, peopleZ, List.mem_map] at hx
  obtain ⟨k, _, rfl⟩ := hx
  have h := most_pos ns
  have h1 := Int.emod_nonneg (drawZ ns (3 + (k : Int))) (b := mostZ ns) (by omega)
  have h2 := Int.emod_lt_of_pos (drawZ ns (3 + (k : Int))) h.1
  simp only [countOk, decide_eq_true_eq]
  omega
theorem way_ok (ns : List Int) (k n : Int) (hn : 1 ≤ n) : wayOk n (wayZ ns k n) = true := by
  have hw := wide_b ns
  have hl := long_b ns
  have a1 := Int.emod_nonneg (drawZ ns (10 + k)) (b := n) (by omega)
  have a2 := Int.emod_lt_of_pos (drawZ ns (10 + k)) (b := n) (by omega)
  have b1 := Int.emod_nonneg (drawZ ns (21 + k)) (b := n + 1) (by omega)
  have b2 := Int.emod_lt_of_pos (drawZ ns (21 + k)) (b := n + 1) (by omega)
  have c1 := Int.emod_nonneg (drawZ ns (32 + k)) (b := wideZ ns) (by omega)
  have c2 := Int.emod_lt_of_pos (drawZ ns (32 + k)) (b := wideZ ns) (by omega)
  have d1 := Int.emod_nonneg (drawZ ns (43 + k)) (b := longZ ns) (by omega)
  have d2 := Int.emod_lt_of_pos (drawZ ns (43 + k)) (b := longZ ns) (by omega)
  unfold wayOk wayZ
  refine decide_eq_true ?_
  dsimp only
  generalize drawZ ns (10 + k) % n = xa at *
  generalize drawZ ns (21 + k) % (n + 1) = xb at *
  generalize drawZ ns (32 + k) % wideZ ns = xc at *
  generalize drawZ ns (43 + k) % longZ ns = xd at *
  by_cases he : xb = 1 + xa
  · simp only [if_pos he]
    omega
  · simp only [if_neg he]
    omega
theorem ways0_ok (ns : List Int) : ∀ x ∈ ways0Z ns, wayOk (roomsZ ns) x = true := by
  intro x hx
  simp only [ways0Z, List.mem_map] at hx
  obtain ⟨k, _, rfl⟩ := hx
  exact way_ok ns k _ (rooms_b ns).1
theorem ways_ok (ns : List Int) : ∀ x ∈ waysZ ns, wayOk (roomsZ ns) x = true := by
  intro x hx
  unfold waysZ at hx
  split at hx
  · rename_i h
    rcases List.mem_or_eq_of_mem_set hx with h1 | h1
    · exact ways0_ok ns x h1
    · obtain ⟨w0, ws0, hw0⟩ := List.exists_cons_of_ne_nil h.1
      rw [h1, hw0]
      exact ways0_ok ns w0 (by rw [hw0]; exact List.mem_cons_self ..)
  · exact ways0_ok ns x hx
theorem ways_len (ns : List Int) : (waysZ ns).length = (manyZ ns).toNat := by
  unfold waysZ
  split <;> simp [ways0Z]
theorem house_ok (ns : List Int) : houseOk (folkZ ns) (waysZ ns) = true := by
  have h1 := rooms_b ns
  have h2 := many_b ns
  have e : ((folkZ ns).length : Int) = roomsZ ns := by rw [folk_len]; omega
  simp only [houseOk, Bool.and_eq_true, decide_eq_true_eq, List.all_eq_true, e]
  rw [ways_len]
  exact ⟨⟨⟨by omega, by omega, by omega⟩, folk_ok ns⟩, ways_ok ns⟩
/-! ### which error -/
def sp_law_alone (K : PySem.W.Frag) (C : Cs) : Sp := fun vs H Q _ => ∃ (a D : Addr) (i : Nat), vs = [.ref a] ∧ i < 4 ∧ AloneC K C D i ∧ H a = some (ExK (.ref D) a) ∧ ∀ H', Same H H' → Q (.int i) H'
def fourB (i : Nat) : List Bool := [decide (i = 0), decide (i = 1), decide (i = 2), decide (i = 3)]
theorem four_count : ∀ i : Nat, i < 4 → (((fourB i).map PyData.bool).countP fun z => PyData.eqv z (.bool true)) = 1
  | 0, _ => by simp [fourB, PyData.eqv]
  | 1, _ => by simp [fourB, PyData.eqv]
  | 2, _ => by simp [fourB, PyData.eqv]
  | 3, _ => by simp [fourB, PyData.eqv]
  | n + 4, h => by omega
theorem dp_bools {K : PySem.W.Frag} {H : Hp} : ∀ bs : List Bool, DpAll K H (bs.map V.bl) (bs.map PyData.bool)
  | [] => .nil
  | b :: bs => .cons (.bl b) (dp_bools bs)
section
variable {P : Program} {w : World} {K : PySem.W.Frag} {mg : Str → Option Value} {base : Heap} {C : Cs}
abbrev N_law_alone : List PySem.Str := ["e", "found"]
theorem sc_law_alone : FnScope N_law_alone ["e"] (defScope s_law_alone) := ⟨rfl, rfl, rfl, by decide +kernel, rfl, by decide +kernel, by decide +kernel⟩
theorem c_law_alone {f fd} (D : FnP K "_law_alone" "_law_alone" s_law_alone f fd) (hm : mg "_law_alone" = some (.ref f)) (G : Bn mg) (XG : ExcG mg C) : Cal P w K mg base CX0 1 "_law_alone" (sp_law_alone K C) := by
  refine cal_of D hm (D.ok sc_law_alone (fun vs H Q E h => ?_) (fun cdv A outer s H vs Q E hr h => ?_)) (fun _ _ _ _ _ _ us hl => match us, hl with | [_], _ => rfl)
  · obtain ⟨a, D0, i, rfl, hi, hA, hE, q⟩ := h
    rfl
  · obtain ⟨a, D0, i, rfl, hi, hA, hE, q⟩ := h
    have hu := hu_of hr
    refine ⟨_, PSs.nox (pss_cons (ps_set (i := 1) sc_law_alone.nd rfl (Or.inl rfl) (pe_lst (pa_cons (pe_callB (id := "isinstance") (call_isKK (K := K) rfl) (by rfl) G.isinstance_ (by decide +kernel) (pa_cons (pv 0) (pa_cons (pe_glob (v := .ref C.BadHouse) rfl XG.BadHouse rfl) pa_nil))) (pa_cons (pe_callB (id := "isinstance") (call_isKK (K := K) rfl) (by rfl) G.isinstance_ (by decide +kernel) (pa_cons (pv 0) (pa_cons (pe_glob (v := .ref C.NoWalk) rfl XG.NoWalk rfl) pa_nil))) (pa_cons (pe_callB (id := "isinstance") (call_isKK (K := K) rfl) (by rfl) G.isinstance_ (by decide +kernel) (pa_cons (pv 0) (pa_cons (pe_glob (v := .ref C.BadPaper) rfl XG.BadPaper rfl) pa_nil))) (pa_cons (pe_callB (id := "isinstance") (call_isKK (K := K) rfl) (by rfl) G.isinstance_ (by decide +kernel) (pa_cons (pv 0) (pa_cons (pe_glob (v := .ref C.NoText) rfl XG.NoText rfl) pa_nil))) pa_nil))))))
        (pss_cons (ps_if (PW.pt (pw_or (pt_not (pt_val (pe_callB (id := "isinstance") (call_isKK (K := K) rfl) (by rfl) G.isinstance_ (by decide +kernel) (pa_cons (pv 0) (pa_cons (pe_glob (v := .ref C.HallError) rfl XG.HallError rfl) pa_nil))))) (pw_or (pt_not (pt_val (pe_callB (id := "isinstance") (call_isKK (K := K) rfl) (by rfl) G.isinstance_ (by decide +kernel) (pa_cons (pv 0) (pa_cons (pe_bltn (v := .ty "ValueError") (by rfl) G.ValueError_ (by decide +kernel) rfl) pa_nil))))) (pw_or1 (pt_cmpR op_ne (pe_bmK (K := K) rfl PySem.F.plainAttrs_list PySem.F.slot_list_count PySem.F.type_list_count (mt_countD (K := K) rfl (room65 hr)) (pv 1) (pa_cons pe_bl pa_nil)) pe_int (nomark _))))))
          (pss_one (ps_ret (pe_un un_neg pe_int)))
          pss_nil)
        (pss_one (ps_ret (pe_bmK (K := K) rfl PySem.F.plainAttrs_list PySem.F.slot_list_index PySem.F.type_list_index (mt_indexK (K := K) rfl) (pv 1) (pa_cons pe_bl pa_nil)))))), ?_⟩
    refine q_setH (h_lst (xs := (fourB i).map V.bl) (av_cons (v_isK (by kbo_bools) v_c hE hA.ex (.own _) hA.k0) (av_cons (v_isK (by kbo_bools) v_c hE hA.ex (.own _) hA.k1) (av_cons (v_isK (by kbo_bools) v_c hE hA.ex (.own _) hA.k2) (av_cons (v_isK (by kbo_bools) v_c hE hA.ex (.own _) hA.k3) av_nil)))) (by show 4 ≤ sizeLine; decide)) ?_
    rintro v H1 ⟨p, rfl, hp, rfl⟩
    have e1 := same_upd (o := .lst ((fourB i).map V.bl)) hp
    have hE1 := e1 _ _ hE
    have hL : (upd H p (.lst ((fourB i).map V.bl))) p = some (.lst ((fourB i).map V.bl)) := upd_same
    have hc : Val (tBM K "list" (rCntD K) (tVar 1) (tCons (tC (.bl true)) tNil)) [some (.ref a), some (.ref p)] (upd H p (.lst ((fourB i).map V.bl))) (.int 1) := fun Q q => by
      refine ⟨_, rfl, .inl ⟨rfl, _, SqL.of hL⟩, p, .bl true, .bool true, (fourB i).map PyData.bool, rfl, rfl, .lst (SqL.of hL) (dp_bools _), .bl true, ?_, ?_, ?_⟩
      · simp [SeqAt.shaped, fourB, PyData.canLay0, PyData.canLayAll0, PyData.depth, PyData.depthAll]
      · simp [SeqAt.shaped, PyData.canLay0, PyData.depth]
      · rw [four_count i hi]
        exact q
    refine q_when (b := !true || (!true || (!decide (V.int 1 = V.int 1)))) (a_or (a_not (a_B (v_isK (by kbo_bools) v_c hE1 hA.ex (.own _) hA.kh))) fun _ => a_or (a_not (a_B (v_isK (by kbo_bools) v_c hE1 hA.ex (.ty _) hA.kv))) fun _ => a_test (v_ne hc v_c rfl)) (fun hb => by simp at hb) (fun _ => ?_)
    refine s_ret (v := .int i) (fun Q q => ⟨_, rfl, .inl ⟨rfl, _, SqL.of hL⟩, p, (fourB i).map V.bl, .bl true, i, .bl true, rfl, rfl, SqL.of hL, rfl, ?_, ?_, rfl, ?_, q⟩) (q _ e1)
    · rfl
    · match i, hi with
      | 0, _ => rfl
      | 1, _ => rfl
      | 2, _ => rfl
      | 3, _ => rfl
    · intro m z' hm hz
      match i, hi with
      | 0, _ => omega
      | 1, _ =>
        match m, hm with
        | 0, _ => cases hz; rfl
      | 2, _ =>
        match m, hm with
        | 0, _ => cases hz; rfl
        | 1, _ => cases hz; rfl
      | 3, _ =>
        match m, hm with
        | 0, _ => cases hz; rfl
        | 1, _ => cases hz; rfl
        | 2, _ => cases hz; rfl
end
theorem wayOk_of {n : Int} {x : Way} (h : wayOk n x = true) : 1 ≤ x.s ∧ x.s ≤ n ∧ 0 ≤ x.e ∧ x.e ≤ n ∧ x.s ≠ x.e ∧ 1 ≤ x.w ∧ x.w ≤ 9 ∧ 1 ≤ x.l ∧ x.l ≤ 6 := by simpa [wayOk] using h
theorem houseOk_iff {ps : List Int} {ws : List Way} : houseOk ps ws = true ↔ (1 ≤ ps.length ∧ ps.length ≤ 4 ∧ ws.length ≤ 10) ∧ (∀ x ∈ ps, countOk x = true) ∧ ∀ x ∈ ws, wayOk ps.length x = true := by
  simp only [houseOk, Bool.and_eq_true, decide_eq_true_eq, List.all_eq_true]
  exact ⟨fun h => ⟨h.1.1, h.1.2, h.2⟩, fun h => ⟨⟨h.1, h.2.1⟩, h.2.2⟩⟩
theorem eraseIdx_map' {α β : Type} (f : α → β) : ∀ (xs : List α) (i : Nat), (xs.map f).eraseIdx i = (xs.eraseIdx i).map f
  | [], _ => rfl
  | _ :: _, 0 => rfl
  | x :: xs, i + 1 => by
    show f x :: (xs.map f).eraseIdx i = f x :: (xs.eraseIdx i).map f
    rw [eraseIdx_map' f xs i]
theorem s_drop_ {D : Ends} {σ : St} {H : Hp} {tq : TE} (h : tq σ H fun _ H' => D.nx σ H') : tDrop tq D σ H := h
def optV : Option Int → V
  | some t => .int t
  | none => .non
section
variable {K : PySem.W.Frag} {σ : St} {H : Hp} {ta tb tc te : TE} {i j k : Int}
theorem ag_chain {p q : Int → Int → Bool} (ha : Val ta σ H (.int i)) (hb : Val tb σ H (.int j)) (hc : GV tc σ H (.int k)) : AG (tTest (tChain (rI0 fun i j => .bl (p i j)) (rI0 fun i j => .bl (q i j)) ta tb tc)) σ H (p i j && q j k) := fun Q h => ha _ (hb _ ⟨i, j, rfl, rfl, _, rfl, by
  cases e : p i j with
  | true =>
    rw [e] at h
    exact iteT (hc _ fun H1 e1 => ⟨j, k, rfl, rfl, _, rfl, h H1 e1⟩)
  | false =>
    rw [e] at h
    exact iteF ⟨_, rfl, h H (Same.refl H)⟩⟩)
theorem g_lenH {xs : List V} (ha : ValH ta σ H (fun v H' => ∃ p, v = .ref p ∧ Same H H' ∧ H' p = some (.lst xs))) : GV (tCB (rLenQ K) (tCons ta tNil)) σ H (.int xs.length) := fun Q q => ha _ fun v H1 z => by
  obtain ⟨p, rfl, e1, h⟩ := z
  exact ⟨p, xs, rfl, .inl (SqL.of h), q H1 e1⟩
end
/-- the ways of a house, told anew -/
theorem h_hways {K : PySem.W.Frag} {C : Cs} {σ : St} {H : Hp} {ta : TE} {h : Addr} {as : List Addr} {ps : List Int} {ws : List Way} (ha : Val ta σ H (.ref h)) (hh : HouseAt C H h as ps ws) :
    ValH (tMeth C.House "ways" (sp_House_ways K C) [] E0 ta tNil) σ H (fun v H' => ∃ p, v = .ref p ∧ H p = none ∧ Same H H' ∧ H' p = some (.lst (as.map V.ref))) := by
  obtain ⟨dx, l1, l2, hI⟩ := hh
  exact h_meth (vs := []) (p := h) ha hI.ob (hF_no _ _ (by decide +kernel) (by decide +kernel)) (by kxs_still) fun Q q => ⟨h, as, ps, ws, rfl, ⟨dx, l1, l2, hI⟩, fun r H8 h1 h2 h3 => q _ _ ⟨r, rfl, h1, h2, h3⟩⟩
theorem h_hpeople {K : PySem.W.Frag} {C : Cs} {σ : St} {H : Hp} {ta : TE} {h : Addr} {as : List Addr} {ps : List Int} {ws : List Way} (ha : Val ta σ H (.ref h)) (hh : HouseAt C H h as ps ws) :
    ValH (tMeth C.House "people" (sp_House_people K C) [] E0 ta tNil) σ H (fun v H' => ∃ p, v = .ref p ∧ H p = none ∧ Same H H' ∧ H' p = some (.lst (ps.map V.int))) := by
  obtain ⟨dx, l1, l2, hI⟩ := hh
  exact h_meth (vs := []) (p := h) ha hI.ob (hF_no _ _ (by decide +kernel) (by decide +kernel)) (by kxs_still) fun Q q => ⟨h, as, ps, ws, rfl, ⟨dx, l1, l2, hI⟩, fun r H8 h1 h2 h3 => q _ _ ⟨r, rfl, h1, h2, h3⟩⟩
theorem g_name {n : Nat} {x : V} {σ : St} {H : Hp} {k : St → Hp → Prop} (h : k (σ.set n (some x)) H) : gName n x σ H k := h
section
variable {K : PySem.W.Frag} {σ : St} {H : Hp} {te ta tb : TE} {D : Ends} {ts tz : TS} {P : V → Hp → Prop}
theorem q_forLH {g : TG} (h : ValH te σ H P) (k : ∀ v H1, P v H1 → tSeq (tFor (iList K (tC v)) g ts) tz D σ H1) : tSeq (tFor (iList K te) g ts) tz D σ H := h _ fun v H1 p => k v H1 p
theorem s_forR1 {tr : TA} {n : Int} {g : TG} (h : AV tr σ H [.int n]) (hn : -1000000 ≤ n ∧ n ≤ 1000000) (Pv : Nat → St → Hp → Prop) (h0 : Pv 0 σ H)
    (hs : ∀ (i : Nat) σ' H', (i : Int) < n → Pv i σ' H' → g (.int (i : Int)) σ' H' fun σ2 H2 => ts { D with nx := Pv (i + 1), ct := Pv (i + 1), bk := D.nx } σ2 H2) (hd : ∀ σ' H', Pv n.toNat σ' H' → D.nx σ' H') : tFor (iRng1 tr) g ts D σ H :=
  h _ ⟨n, rfl, by omega, by omega, for_range (lo := 0) (n := n.toNat) (D := D) Pv h0 (fun i σ' H' hi p => by
    rw [Int.zero_add]
    exact hs i σ' H' (by omega) p) hd⟩
theorem s_forL {p : Addr} {xs : List V} {g : TG} (h : Val te σ H (.ref p)) (hx : SqL K H p xs) (Pv : Nat → St → Hp → Prop) (h0 : Pv 0 σ H) (hl : ∀ i σ' H', i ≤ xs.length → Pv i σ' H' → SqL K H' p xs)
    (hs : ∀ i x σ' H', xs[i]? = some x → Pv i σ' H' → g x σ' H' fun σ2 H2 => ts { D with nx := Pv (i + 1), ct := Pv (i + 1), bk := D.nx } σ2 H2) (hd : ∀ σ' H', Pv xs.length σ' H' → D.nx σ' H') : tFor (iList K te) g ts D σ H :=
  h _ ⟨p, rfl, ⟨xs, hx⟩, for_list (K := K) (a := p) (xs := xs) (D := D) Pv h0 hl hs hd⟩
end
theorem avh_cons {σ : St} {H : Hp} {ta : TE} {tr : TA} {P : V → Hp → Prop} {Q : List V → Hp → Prop} (h : ValH ta σ H P) (k : ∀ v H', P v H' → tr σ H' fun vs H2 => Q (v :: vs) H2) : tCons ta tr σ H Q := h _ k
theorem q_lst {σ : St} {H : Hp} {tr : TA} {Q : VK} (h : tr σ H fun xs H' => xs.length ≤ sizeLine ∧ ∀ p, H' p = none → Q (.ref p) (upd H' p (.lst xs))) : tLst tr σ H Q := h
theorem q_tup {σ : St} {H : Hp} {tr : TA} {Q : VK} (h : tr σ H fun xs H' => xs.length ≤ sizeLine ∧ ∀ p, H' p = none → Q (.ref p) (upd H' p (.tup xs))) : tTup tr σ H Q := h
/-! ### a law's start: the plot, the house -/
section
variable {K : PySem.W.Frag} {C : Cs} {σ : St} {H : Hp} {ta tb : TE} {E : XK}
theorem h_house {as : List Addr} {ps : List Int} {ws : List Way} (hok : houseOk ps ws = true) (hW : WaysAt H as ws) (ha : ValH ta σ H (NewL H (ps.map V.int))) (hb : ∀ H', Same H H' → ValH tb σ H' (NewL H' (as.map V.ref))) :
    ValH (tMake C.House (sp_House_init K C) [] E (tCons ta (tCons tb tNil))) σ H (fun v H' => ∃ h, v = .ref h ∧ H h = none ∧ Same H H' ∧ HouseAt C H' h as ps ws) := by
  intro Q q
  refine ha _ fun v H1 z => ?_
  obtain ⟨d0, rfl, n0, rfl⟩ := z
  have e0 := same_upd (o := .lst (ps.map V.int)) n0
  refine hb _ e0 _ fun v H2 z => ?_
  obtain ⟨d1, rfl, n1, rfl⟩ := z
  have e1 := same_upd (o := .lst (as.map V.ref)) n1
  intro h dx nh ndx ne
  have s1 := same_mut (o := .ins C.House dx []) (same_upd (o := .own h) ndx) nh
  have hl : 1 ≤ ps.length ∧ ps.length ≤ 4 ∧ ws.length ≤ 10 := by
    simp only [houseOk, Bool.and_eq_true, decide_eq_true_eq] at hok
    exact hok.1.1
  refine ⟨h, dx, d0, d1, as, ps, ws, rfl, upd_same, s1 _ _ (e1 _ _ upd_same), s1 _ _ upd_same, ((hW.same e0).same e1).same s1, by omega, by omega, fun _ H' hh hk => ⟨rfl, ?_⟩, fun hno => by rw [hok] at hno; cases hno⟩
  obtain ⟨l1, l2, n1, n2, hI⟩ := hh
  exact q _ _ ⟨h, rfl, e0.free (e1.free nh), fun b o hb => hk b o (s1 _ _ (e1 _ _ (e0 _ _ hb))) (ne_none (e1 _ _ (e0 _ _ hb)) nh), dx, l1, l2, hI⟩
theorem h_plot {a : Addr} {ns : List Int} (ha : Val ta σ H (.ref a)) (hS : SqL K H a (ns.map V.int)) : ValH (tCall (sp_law_house K C) [] E (tCons ta tNil)) σ H (fun v H1 => ∃ p pl wl as, v = .ref p ∧ Same H H1 ∧ PlotAt H1 p pl wl as (folkZ ns) (waysZ ns)) :=
  h_call (vs := [.ref a]) (av_cons ha av_nil) fun Q q => ⟨a, ns, rfl, hS, fun p pl wl as H' _ e h => q _ _ ⟨p, pl, wl, as, rfl, e, h⟩⟩
end
/-- a list of a tuple's item -/
theorem h_listT0 {K : PySem.W.Frag} {σ : St} {H : Hp} {p q : Addr} {j : Int} {us xs : List V} {ta : TE} (ha : Val ta σ H (.ref p)) (hp : H p = some (.tup us)) (hi : atI us j = some (.ref q)) (hx : H q = some (.lst xs)) : ValH (tCB (rListQ K) (tCons (tOp (rIxT K) ta (tC (.int j))) tNil)) σ H (NewL H xs) := h_list (v_ixT ha v_c hp hi) (SqL.of hx)
theorem folk_b (ns : List Int) : 1 ≤ (folkZ ns).length ∧ (folkZ ns).length ≤ 4 := by
  have := rooms_b ns
  rw [folk_len]
  omega
theorem ways_b (ns : List Int) : (waysZ ns).length ≤ 10 := by
  have := many_b ns
  rw [ways_len]
  omega
/-! ### lines and words -/
theorem All2.appendT {α β : Type} {R : α → β → Prop} : ∀ {as : List α} {bs : List β} {cs : List α} {ds : List β}, All2 R as bs → All2 R cs ds → All2 R (as ++ cs) (bs ++ ds)
  | _, _, _, _, .nil, h => h
  | _, _, _, _, .cons r t, h => .cons r (All2.appendT t h)
def numsZ : List Str → Option (List Int)
  | [] => some []
  | w :: ws => match figZ w with
    | none => none
    | some n => (numsZ ws).map (n :: ·)
theorem figZ_b {w : Str} {n : Int} (h : figZ w = some n) : 0 ≤ n ∧ n ≤ 9 := by
  unfold figZ at h
  split at h
  · split at h
    · rename_i c hc
      have := (fig_idx hc).1
      cases h
      omega
    · cases h
  · cases h
theorem numsZ_b : ∀ {ws : List Str} {l : List Int}, numsZ ws = some l → (∀ x ∈ l, 0 ≤ x ∧ x ≤ 9) ∧ l.length = ws.length
  | [], l, h => by
    cases h
    exact ⟨fun x hx => by simp at hx, rfl⟩
  | w :: ws, l, h => by
    rw [numsZ] at h
    cases e : figZ w with
    | none =>
      rw [e] at h
      cases h
    | some n =>
      rw [e] at h
      cases e2 : numsZ ws with
      | none =>
        rw [e2] at h
        cases h
      | some r =>
        rw [e2] at h
        cases h
        have := numsZ_b e2
        refine ⟨fun x hx => ?_, by simp [this.2]⟩
        rcases List.mem_cons.mp hx with rfl | hx
        · exact figZ_b e
        · exact this.1 x hx
def lineZ (name line : Str) : Option (List Int) := match Txt.split line " " with
  | w :: ws => if w = name then numsZ ws else none
  | [] => none
def rowZ (line : Str) : Option Way := match lineZ "way" line with
  | some [a, b, c, d] => some ⟨a, b, c, d⟩
  | _ => none
def rowsZ : List Str → Option (List Way)
  | [] => some []
  | l :: ls => match rowZ l with
    | none => none
    | some w => (rowsZ ls).map (w :: ·)
def readZ (t : Str) : Option (List Int × List Way) := match Txt.split t "\n" with
  | [] => none
  | l :: ls => match lineZ "people" l with
    | none => none
    | some ps => match rowsZ ls with
      | none => none
      | some ws => if houseOk ps ws then some (ps, ws) else none
theorem split_ne (x y : Str) : Txt.split x y ≠ [] := fun e => by
  have := PyProof.Rows.split_pos x y
  rw [e] at this
  simp at this
def LinesAt (H : Hp) (bs : List Addr) (wss : List (List Str)) : Prop := All2 (fun b ws => H b = some (.lst (ws.map V.str))) bs wss
theorem LinesAt.same {H H' : Hp} {bs : List Addr} {wss : List (List Str)} (h : LinesAt H bs wss) (e : Same H H') : LinesAt H' bs wss := All2.imp h fun a w q => e a _ q
theorem cut_tail {xs : List V} {x : V} : cutV (x :: xs) (some 1) none = xs := by
  unfold cutV
  have h1 : HT.sIx (x :: xs).length 0 (some 1) = 1 := by
    simp [HT.sIx]
  have h2 : HT.sIx (x :: xs).length (x :: xs).length none = xs.length + 1 := by simp [HT.sIx]
  rw [h1, h2]
  simp
section
variable {K : PySem.W.Frag} {σ : St} {H : Hp} {te ta tb : TE} {Q : VK} {P : V → Hp → Prop}
theorem h_lcH {tl : TE} {g : TG} {tt : TT} {vs : List Nat} (h : ValH tl σ H P) (k : ∀ v H1, P v H1 → tLc (iList K (tC v)) g tt te vs σ H1 Q) : tLc (iList K tl) g tt te vs σ H Q := h _ fun v H1 p => k v H1 p
/-- e[1:] -/
theorem h_tail {p : Addr} {x : V} {xs : List V} (ha : Val ta σ H (.ref p)) (h : H p = some (.lst (x :: xs))) : ValH (tSl (rSlL K) ta (tPart (tC (.int 1))) tNoPart) σ H (NewL H xs) := fun Q q => ha _ ⟨1, rfl, p, x :: xs, rfl, SqL.of h, fun r hr => by
  rw [cut_tail]
  exact q _ _ ⟨r, rfl, hr, rfl⟩⟩
/-- each text anew as a list of texts -/
theorem h_lcLines {j : Nat} {vs : List Nat} {L : Addr} {ls : List Str} (f : Str → List Str) (hL : H L = some (.lst (ls.map V.str))) (hz : ls.length ≤ 100000) (hw : ∀ x, wipe ((wipe σ vs).set j (some x)) vs = wipe σ vs)
    (he : ∀ l H', l ∈ ls → Same H H' → ValH te ((wipe σ vs).set j (some (.str l))) H' (NewL H' ((f l).map V.str))) :
    ValH (tLc (iList K (tC (.ref L))) (gName j) tYes te vs) σ H (fun v H' => ∃ D bs, v = .ref D ∧ H D = none ∧ Same H H' ∧ H' D = some (.lst (bs.map V.ref)) ∧ LinesAt H' bs (ls.map f)) := fun Q q => by
  refine ⟨L, rfl, ⟨_, SqL.of hL⟩, fun D hD => ?_⟩
  refine lc_list (K := K) (a := L) (xs := ls.map V.str) (fun i H' => Same H H' ∧ ∃ acc, H' D = some (.lst (acc.map V.ref)) ∧ All2 (fun b ws => H' b = some (.lst (ws.map V.str)) ∧ b ≠ D) acc ((ls.take i).map f)) ⟨same_upd hD, [], upd_same, by rw [List.take_zero]; exact .nil⟩ (fun i H' _ r => SqL.of (r.1 _ _ hL)) ?_ ?_
  · rintro i x H1 hi ⟨e1, acc, hacc, hA⟩
    rw [List.getElem?_map] at hi
    cases el : ls[i]? with
    | none =>
      rw [el] at hi
      cases hi
    | some l =>
      rw [el] at hi
      have hi : V.str l = x := Option.some.inj hi
      subst hi
      have hal := hA.len
      have hi2 := (List.getElem?_eq_some_iff.mp el).1
      rw [List.length_map, List.length_take] at hal
      refine ⟨hw _, ?_⟩
      refine iteT (B := Same H H1 ∧ ∃ acc, H1 D = some (.lst (acc.map V.ref)) ∧ All2 (fun b ws => H1 b = some (.lst (ws.map V.str)) ∧ b ≠ D) acc ((ls.take (i + 1)).map f)) ?_
      refine he l H1 (List.mem_of_getElem? el) e1 _ fun v H2 z => ?_
      obtain ⟨p, rfl, hp, rfl⟩ := z
      have e2 := same_upd (o := .lst ((f l).map V.str)) hp
      have hacc2 := e2 _ _ hacc
      have hpD : p ≠ D := fun z => by
        rw [z, hacc] at hp
        cases hp
      refine ⟨acc.map V.ref, hacc2, sz_lt (by rw [List.length_map]; omega), same_mut (e1.trans e2) hD, acc ++ [p], by rw [upd_same, List.map_append]; rfl, ?_⟩
      have tk : (ls.take (i + 1)).map f = (ls.take i).map f ++ [f l] := by
        rw [List.take_add_one, el]
        simp
      rw [tk]
      refine All2.appendT (hA.imp fun b ws ⟨h1, h2⟩ => ⟨by rw [upd_ne h2]; exact e2 _ _ h1, h2⟩) (.cons ⟨by rw [upd_ne hpD]; exact upd_same, hpD⟩ .nil)
  · rintro H1 ⟨e1, acc, hacc, hA⟩
    refine q _ _ ⟨D, acc, rfl, hD, e1, hacc, ?_⟩
    rw [List.length_map, List.take_length] at hA
    exact hA.imp fun b ws h => h.1
end
def sp_numbers_of (K : PySem.W.Frag) (C : Cs) : Sp := fun vs H Q E => ∃ (p : Addr) (ws : List Str), vs = [.ref p] ∧ H p = some (.lst (ws.map V.str)) ∧ ws.length ≤ 100000 ∧ (∀ w ∈ ws, w.length ≤ 1000000) ∧
  (∀ l, numsZ ws = some l → RetInts l H Q) ∧ (numsZ ws = none → ∀ H', Same H H' → E (.ref C.NoText) none H')
def sp_read (K : PySem.W.Frag) (C : Cs) : Sp := fun vs H Q E => ∃ t : Str, vs = [.str t] ∧ t.length ≤ 900 ∧ (∀ ps ws, readZ t = some (ps, ws) → ∀ h as H', Same H H' → HouseAt C H' h as ps ws → Q (.ref h) H') ∧ (readZ t = none → ∀ H', Same H H' → E (.ref C.NoText) none H')
/-- one turn over the words -/
theorem nums_step {ws : List Str} {i : Nat} {w : Str} {l : List Int} (h : ws[i]? = some w) (hn : numsZ ws = (numsZ (ws.drop i)).map (l ++ ·)) : (figZ w = none → numsZ ws = none) ∧ (∀ n, figZ w = some n → numsZ ws = (numsZ (ws.drop (i + 1))).map ((l ++ [n]) ++ ·)) := by
  have hi := (List.getElem?_eq_some_iff.mp h).1
  have e : ws.drop i = w :: ws.drop (i + 1) := by
    rw [List.drop_eq_getElem_cons hi]
    congr 1
    exact (List.getElem?_eq_some_iff.mp h).2
  rw [e, numsZ] at hn
  constructor
  · intro hf
    rw [hf] at hn
    rw [hn]
    rfl
  · intro n hf
    rw [hf] at hn
    rw [hn]
    cases numsZ (ws.drop (i + 1)) with
    | none => rfl
    | some r => simp
theorem words_item {ws : List Str} {i : Nat} {v : V} (hi : (ws.map V.str)[i]? = some v) : ∃ w, v = .str w ∧ ws[i]? = some w ∧ w ∈ ws := by
  rw [List.getElem?_map] at hi
  cases e : ws[i]? with
  | none =>
    rw [e] at hi
    cases hi
  | some w =>
    rw [e] at hi
    exact ⟨w, (Option.some.inj hi).symm, rfl, List.mem_of_getElem? e⟩
section
variable {P : Program} {w : World} {K : PySem.W.Frag} {mg : Str → Option Value} {base : Heap} {C : Cs}
abbrev N_numbers_of : List PySem.Str := ["words", "found", "word"]
theorem sc_numbers_of : FnScope N_numbers_of ["words"] (defScope s_numbers_of) := ⟨rfl, rfl, rfl, by decide +kernel, rfl, by decide +kernel, by decide +kernel⟩
theorem c_numbers_of {f fd} (D : FnP K "numbers_of" "numbers_of" s_numbers_of f fd) (hm : mg "numbers_of" = some (.ref f)) (G : Bn mg) (X_NoText : Xc K mg "NoText" C.NoText) (gF : ∃ t, mg "FIGURES" = some (.str FIG t)) : Cal P w K mg base (L2.CX P w) 1 "numbers_of" (sp_numbers_of K C) := by
  refine cal_of D hm (D.ok sc_numbers_of (fun vs H Q E h => ?_) (fun cdv A outer s H vs Q E hr h => ?_)) (fun _ _ _ _ _ _ us hl => match us, hl with | [_], _ => rfl)
  · obtain ⟨p, ws, rfl, hp, hz, hwz, q, e⟩ := h
    rfl
  · obtain ⟨p, ws, rfl, hp, hz, hwz, q, e⟩ := h
    have hu := hu_of hr
    refine ⟨_, (pss_cons (ps_set (i := 1) sc_numbers_of.nd rfl (Or.inl rfl) (pe_lst pa_nil))
        (pss_cons (ps_for (passes_of rfl) rfl (pi_listK (K := K) rfl (pv 0)) (pg_name (i := 2) sc_numbers_of.nd rfl (Or.inl rfl))
          (pss_cons (ps_if (PW.pt (pw_or (pt_cmpR op_ne (pe_callB (id := "len") call_len_str (by rfl) G.len_ (by decide +kernel) (pa_cons (pv 2) pa_nil)) pe_int (nomark _)) (pw_or1 (pt_cmpR op_notInS (pv 2) (pe_glob (v := .str FIG) rfl gF.choose_spec ⟨_, rfl⟩) (by rfl)))))
              (pss_one (ps_raise rfl (takes_of rfl rfl rfl rfl) (pmk_own PySem.F.excBase_ValueError X_NoText.xi X_NoText.g X_NoText.k (raises_own X_NoText.b X_NoText.t) rfl)))
              pss_nil)
            (pss_one (ps_expr (pe_bmK (K := K) rfl PySem.F.plainAttrs_list PySem.F.slot_list_append PySem.F.type_list_append mt_append (pv 1) (pa_cons (pe_m1 PySem.F.slot_str_index PySem.F.type_str_index mt_sindex (pe_glob (v := .str FIG) rfl gF.choose_spec ⟨_, rfl⟩) (pv 2)) pa_nil))))))
        (pss_one (ps_ret (pv 1))))), ?_⟩
    refine q_setH (h_lst (xs := []) (by kxs_still) (by show 0 ≤ sizeLine; decide)) ?_
    rintro v H1 ⟨f, rfl, nf, rfl⟩
    have e1 := same_upd (o := .lst []) nf
    refine q_forL (p := p) (xs := ws.map V.str) (by kbo_bools) (SqL.of (e1 _ _ hp)) (fun i σ' H' => ∃ u l, σ' = [some (.ref p), some (.ref f), u] ∧ Same H H' ∧ H' f = some (.lst (l.map V.int)) ∧ l.length = i ∧ numsZ ws = (numsZ (ws.drop i)).map (l ++ ·))
      ⟨none, [], rfl, e1, upd_same, rfl, by rw [List.drop_zero]; cases numsZ ws <;> rfl⟩ (fun i σ' H' _ ⟨_, _, _, e, _⟩ => SqL.of (e _ _ hp)) ?_ ?_
    · rintro i v σ' H' hi ⟨u, l, rfl, e2, hf, hl, hn⟩
      obtain ⟨w, rfl, hw, hwm⟩ := words_item hi
      have hwl := hwz w hwm
      have hi2 := (List.getElem?_eq_some_iff.mp hw).1
      obtain ⟨s1, s2⟩ := nums_step hw hn
      refine g_name ?_
      by_cases h1 : w.length = 1
      · obtain ⟨c, rfl⟩ := one_sign h1
        refine q_when (b := !decide (V.int ((Str.length ⟨#[c]⟩ : Nat) : Int) = V.int 1) || !decide (c ∈ FIG.cps.toList)) (a_or (a_test (v_ne (v_lenS (v_var rfl) hwl) v_c rfl)) fun _ => a_notInS (v_var rfl) v_c) (fun hb => ?_) (fun hb => ?_)
        · have hb : ¬ c ∈ FIG.cps.toList := by
            rw [h1] at hb
            simpa using hb
          refine e (s1 ?_) _ e2
          show (if c ∈ FIG.cps.toList then some ((c : Int) - 48) else none) = none
          rw [if_neg hb]
        · have hb : c ∈ FIG.cps.toList := by
            rw [h1] at hb
            simpa using hb
          obtain ⟨hc, rest, ho⟩ := fig_idx hb
          refine s_app (l := f) hf (v_var rfl) (v := .int ((c - 48 : Nat) : Int)) (v_idxS v_c (v_var rfl) ho) (sz_lt (by rw [List.length_map]; omega)) ⟨_, l ++ [((c - 48 : Nat) : Int)], rfl, same_mut e2 nf, by rw [upd_same, List.map_append]; rfl, by simp [hl], s2 _ ?_⟩
          show (if c ∈ FIG.cps.toList then some ((c : Int) - 48) else none) = _
          rw [if_pos hb]
          congr 1
          omega
      · refine q_when (b := !decide (V.int ((w.length : Nat) : Int) = V.int 1) || true) (a_or (a_test (v_ne (v_lenS (v_var rfl) hwl) v_c rfl)) fun hb => ?_) (fun hb => ?_) (fun hb => by simp at hb)
        · simp at hb
          omega
        · refine e (s1 ?_) _ e2
          unfold figZ
          split
          · rename_i c hc
            exfalso
            apply h1
            show w.cps.size = 1
            rw [← Array.length_toList, hc]
            rfl
          · rfl
    · rintro σ' H' ⟨u, l, rfl, e2, hf, hl, hn⟩
      rw [List.length_map, List.drop_length] at hn
      exact s_ret (v := .ref f) (v_var rfl) (q l (by rw [hn]; simp [numsZ]) f H' nf e2 hf)
end
theorem rows_step {ls : List Str} {i : Nat} {l : Str} {acc : List Way} (h : ls[i]? = some l) (hn : rowsZ ls = (rowsZ (ls.drop i)).map (acc ++ ·)) : (rowZ l = none → rowsZ ls = none) ∧ (∀ w, rowZ l = some w → rowsZ ls = (rowsZ (ls.drop (i + 1))).map ((acc ++ [w]) ++ ·)) := by
  have hi := (List.getElem?_eq_some_iff.mp h).1
  have e : ls.drop i = l :: ls.drop (i + 1) := by
    rw [List.drop_eq_getElem_cons hi]
    congr 1
    exact (List.getElem?_eq_some_iff.mp h).2
  rw [e, rowsZ] at hn
  constructor
  · intro hf
    rw [hf] at hn
    rw [hn]
    rfl
  · intro n hf
    rw [hf] at hn
    rw [hn]
    cases rowsZ (ls.drop (i + 1)) with
    | none => rfl
    | some r => simp
theorem rowsZ_len : ∀ {ls : List Str} {ws : List Way}, rowsZ ls = some ws → ws.length = ls.length
  | [], _, h => by cases h; rfl
  | l :: ls, ws, h => by
    rw [rowsZ] at h
    cases e : rowZ l with
    | none =>
      rw [e] at h
      cases h
    | some w =>
      rw [e] at h
      cases e2 : rowsZ ls with
      | none =>
        rw [e2] at h
        cases h
      | some r =>
        rw [e2] at h
        cases h
        simp [rowsZ_len e2]
theorem h_retP {K : PySem.W.Frag} {σ : St} {H : Hp} {te : TE} {P : V → Hp → Prop} {D : Ends} (h : ValH te σ H P) (k : ∀ v H', P v H' → D.rt v H') : tRet te D σ H := h _ k
theorem s_retMakeS {D : Ends} {σ : St} {H : Hp} {tr : TA} {vs : List V} {C : Addr} {sp : Sp} {E : St → XK} (ht : AV tr σ H vs)
   (hs : ∀ x dx, H x = none → H dx = none → dx ≠ x → sp (.ref x :: vs) (upd (upd H dx (.own x)) x (.ins C dx [])) (fun v H2 => v = .non ∧ D.rt (.ref x) H2) (E σ)) : tRet (tMakeS C sp E tr) D σ H := ht _ hs
theorem s_appQ {K : PySem.W.Frag} {σ : St} {H : Hp} {ta te : TE} {D : Ends} {l : Addr} {xs : List V} (ha : Val ta σ H (.ref l)) (hl : H l = some (.lst xs)) (h : te σ H fun v H' => ∃ l0 xs y, V.ref l = V.ref l0 ∧ [v] = [y] ∧ H' l0 = some (.lst xs) ∧ xs.length < sizeLine ∧ D.nx σ (upd H' l0 (.lst (xs ++ [y])))) :
    tDrop (tBM K "list" rAppend ta (tCons te tNil)) D σ H := ha _ ⟨.inl ⟨rfl, _, SqL.of hl⟩, h⟩
theorem q_tupNums {K : PySem.W.Frag} {C : Cs} {σ : St} {H : Hp} {te : TE} {E : XK} {Q : VK} {ws : List Str} (ht : ValH te σ H (NewL H (ws.map V.str))) (hz : ws.length ≤ 100000) (hw : ∀ w ∈ ws, w.length ≤ 1000000)
    (k1 : ∀ l p H', numsZ ws = some l → H p = none → Same H H' → H' p = some (.tup (l.map V.int)) → Q (.ref p) H') (k2 : numsZ ws = none → ∀ H', Same H H' → E (.ref C.NoText) none H') : tCB (rTup2Q K) (tCons (tCall (sp_numbers_of K C) [] E (tCons te tNil)) tNil) σ H Q := ht _ fun v H1 z => by
  obtain ⟨p, rfl, hp, rfl⟩ := z
  have e0 := same_upd (o := .lst (ws.map V.str)) hp
  exact ⟨p, ws, rfl, upd_same, hz, hw, fun l hl x H' h1 h2 h3 => ⟨x, l.map V.int, rfl, .inl ⟨SqL.of h3, fun t ht => k1 l t _ hl (e0.free (h2.free ht)) (e0.trans (h2.trans (same_upd ht))) upd_same⟩⟩, fun hno H' e' => k2 hno H' (e0.trans e')⟩
section
variable {P : Program} {w : World} {K : PySem.W.Frag} {mg : Str → Option Value} {base : Heap} {C : Cs}
abbrev N_read : List PySem.Str := ["text", "lines", "people", "ways", "words", "line"]
theorem sc_read : FnScope N_read ["text"] (defScope s_read) := ⟨rfl, rfl, rfl, by decide +kernel, rfl, by decide +kernel, by decide +kernel⟩
theorem c_read {f fd} (D : FnP K "read" "read" s_read f fd) (hm : mg "read" = some (.ref f)) (G : Bn mg) (X_NoText : Xc K mg "NoText" C.NoText) (g_BadHouse : mg "BadHouse" = some (.ref C.BadHouse)) (mx_BadHouse_BadHouse : PySem.W.exmOne K (.ref C.BadHouse) (.ref C.BadHouse) = some true) (c_numbers_of : Cal P w K mg base (L2.CX P w) 1 "numbers_of" (sp_numbers_of K C)) (c_House_init : Mak P w K mg base (L2N.CX P w) 2 "House" C.House (sp_House_init K C)) : Cal P w K mg base (L2.CX P w) 4 "read" (sp_read K C) := by
  refine cal_of D hm (D.ok sc_read (fun vs H Q E h => ?_) (fun cdv A outer s H vs Q E hr h => ?_)) (fun _ _ _ _ _ _ us hl => match us, hl with | [_], _ => rfl)
  · obtain ⟨t, rfl, hz, q, e⟩ := h
    rfl
  · obtain ⟨t, rfl, hz, q, e⟩ := h
    have hu := hu_of hr
    refine ⟨_, (pss_cons (ps_setLc (i := 1) (own := [("line", 5)]) (g := gName 5) rfl sc_read.nd rfl rfl (sw_true rfl rfl rfl (by decide +kernel)) (pi_listK (K := K) rfl (pe_split (pv 0) pe_str)) (blkOk_by (own := [("line", 5)]) (N := N_read) (sc := defScope s_read) (by decide +kernel)) (fun _ _ _ _ _ => pg_name (i := 5) sc_read.nd rfl (Or.inl rfl)) (fun _ _ _ _ _ => pts_nil) (fun _ _ _ _ _ => (pe_split (pv 5) pe_str)))
        (pss_cons (ps_if (pt_cmpR op_ne (pe_ix (ix_listK (K := K) rfl) (pe_ix (ix_listK (K := K) rfl) (pv 1) pe_int (fun _ _ => rfl)) pe_int (fun _ _ => rfl)) pe_str (nomark _))
          (pss_one (ps_raise rfl (takes_of rfl rfl rfl rfl) (pmk_own PySem.F.excBase_ValueError X_NoText.xi X_NoText.g X_NoText.k (raises_own X_NoText.b X_NoText.t) rfl)))
          pss_nil)
        (pss_cons (ps_set (i := 2) sc_read.nd rfl (Or.inl rfl) (pe_c c_numbers_of hr (by decide) (passes_call (takes_of rfl rfl rfl rfl) (fun _ _ _ _ h => h)) rfl (pa_cons (pe_slice (sl_listK (K := K) rfl) (pe_ix (ix_listK (K := K) rfl) (pv 1) pe_int (fun _ _ => rfl)) (po_some pe_int) po_none) pa_nil)))
        (pss_cons (ps_set (i := 3) sc_read.nd rfl (Or.inl rfl) (pe_lst pa_nil))
        (pss_cons (ps_for (passes_of rfl) rfl (pi_listK (K := K) rfl (pe_slice (sl_listK (K := K) rfl) (pv 1) (po_some pe_int) po_none)) (pg_name (i := 4) sc_read.nd rfl (Or.inl rfl))
          (pss_cons (ps_if (PW.pt (pw_or (pt_cmpR op_ne (pe_callB (id := "len") (call_len_seqK (K := K) rfl) (by rfl) G.len_ (by decide +kernel) (pa_cons (pv 4) pa_nil)) pe_int (nomark _)) (pw_or1 (pt_cmpR op_ne (pe_ix (ix_listK (K := K) rfl) (pv 4) pe_int (fun _ _ => rfl)) pe_str (nomark _)))))
              (pss_one (ps_raise rfl (takes_of rfl rfl rfl rfl) (pmk_own PySem.F.excBase_ValueError X_NoText.xi X_NoText.g X_NoText.k (raises_own X_NoText.b X_NoText.t) rfl)))
              pss_nil)
            (pss_one (ps_expr (pe_bmK (K := K) rfl PySem.F.plainAttrs_list PySem.F.slot_list_append PySem.F.type_list_append mt_append (pv 3) (pa_cons (pe_callTy (T := "tuple") (call_tuple_ofK (K := K) rfl) (by rfl) G.tuple_ (by decide +kernel) (pa_cons (pe_c c_numbers_of hr (by decide) (passes_call (takes_of rfl rfl rfl rfl) (fun _ _ _ _ h => h)) rfl (pa_cons (pe_slice (sl_listK (K := K) rfl) (pv 4) (po_some pe_int) po_none) pa_nil)) pa_nil)) pa_nil))))))
        (pss_one (L2H.ps_try_onlyX rfl rfl ⟨rfl, by decide, Or.inl g_BadHouse⟩ (fun hd => L2H.passesAt_of rfl hd) (takes_of rfl rfl rfl rfl)
          (fun W pn xe tk tk2 _ => (pss_one (ps_ret (pe_mkS c_House_init hr (by decide) (fun σ => L2N.passAt tk σ) rfl (pa_cons (pv 2) (pa_cons (pv 3) pa_nil))))))
          (fun a oe cls d pn hz hf tk hot => (pss_one (L2H.ps_raiseH hot tk (L2N.pmk_own PySem.F.excBase_ValueError X_NoText.xi X_NoText.g X_NoText.k (raises_own X_NoText.b X_NoText.t) rfl))))))))))), ?_⟩
    -- the lines
    have hspl := PyProof.Rows.split_le t "\n"
    have hsz : ∀ l ∈ Txt.split t "\n", l.length ≤ t.length := fun l hl => PyProof.Rows.part_short hl
    unfold readZ at q e
    refine q_setH (P := fun v H' => ∃ D bs, v = .ref D ∧ H D = none ∧ Same H H' ∧ H' D = some (.lst (bs.map V.ref)) ∧ LinesAt H' bs ((Txt.split t "\n").map fun l => Txt.split l " ")) (fun Q q => h_lcH (h_split (v_var rfl) v_c (by decide) (by omega)) fun v H1 z => ?_) ?_
    · obtain ⟨p, rfl, hp, rfl⟩ := z
      have e1 := same_upd (o := .lst ((Txt.split t "\n").map V.str)) hp
      refine h_lcLines (ls := Txt.split t "\n") (fun l => Txt.split l " ") upd_same (by omega) (fun _ => rfl) (fun l H' hl _ => h_split (v_var rfl) v_c (by decide) (by have := hsz l hl; omega)) _ ?_
      rintro v H2 ⟨D, bs, rfl, hD, e2, h1, h2⟩
      exact q _ _ ⟨D, bs, rfl, e1.free hD, e1.trans e2, h1, h2⟩
    rintro v H1 ⟨D, bs, rfl, nD, e1, hD, hL⟩
    cases hs : Txt.split t "\n" with
    | nil => exact absurd hs (split_ne t "\n")
    | cons l0 ls =>
      rw [hs] at hL q e hsz hspl
      simp only at q e
      cases hL with
      | cons h0 hLs =>
        rename_i b0 bs
        have hw0 : ∃ w0 ws0, Txt.split l0 " " = w0 :: ws0 := by
          cases hx : Txt.split l0 " " with
          | nil => exact absurd hx (split_ne l0 " ")
          | cons a b => exact ⟨a, b, rfl⟩
        obtain ⟨w0, ws0, hw0⟩ := hw0
        have h0 : H1 b0 = some (.lst ((Txt.split l0 " ").map V.str)) := h0
        rw [hw0] at h0
        have hl0 := hsz l0 List.mem_cons_self
        have hwz0 : ws0.length ≤ 100000 ∧ ∀ w ∈ ws0, w.length ≤ 1000000 := by
          have h1 := PyProof.Rows.split_le l0 " "
          rw [hw0, List.length_cons] at h1
          refine ⟨by omega, fun w hw => ?_⟩
          have : w.length ≤ l0.length := PyProof.Rows.part_short (x := l0) (y := " ") (by rw [hw0]; exact List.mem_cons_of_mem _ hw)
          omega
        have first : ∀ {σ : St}, σ[1]? = some (some (.ref D)) → Val (tOp (rIxL K) (tVar 1) (tC (.int 0))) σ H1 (.ref b0) := fun h => v_ixL (i := ((0 : Nat) : Int)) (v_var h) v_c (SqL.of hD) (atI_nat (j := 0) rfl)
        refine q_when (b := !decide (V.str w0 = V.str "people")) (a_test (v_ne (v_ixL (i := ((0 : Nat) : Int)) (first rfl) v_c (SqL.of h0) (atI_nat (j := 0) rfl)) v_c rfl)) (fun hb => ?_) (fun hb => ?_)
        · have hb : ¬ w0 = "people" := by simpa using hb
          refine e ?_ _ e1
          rw [lineZ, hw0]
          simp only [if_neg hb]
        have hb : w0 = "people" := by simpa using hb
        have hline : lineZ "people" l0 = numsZ ws0 := by
          rw [lineZ, hw0]
          simp only [if_pos hb]
        rw [hline] at q e
        -- people
        cases hn : numsZ ws0 with
        | none =>
          rw [hn] at e
          refine h_tail (x := .str w0) (xs := ws0.map V.str) (first rfl) h0 _ ?_
          rintro v H2 ⟨p, rfl, hp, rfl⟩
          exact ⟨p, ws0, rfl, upd_same, hwz0.1, hwz0.2, (fun l hl => by rw [hn] at hl; cases hl), fun _ H' e' => e rfl _ (e1.trans ((same_upd hp).trans e'))⟩
        | some ps =>
          rw [hn] at q e
          simp only at q e
          refine q_setH (P := fun v H2 => ∃ x, v = .ref x ∧ H1 x = none ∧ Same H1 H2 ∧ H2 x = some (.lst (ps.map V.int))) (fun Q q => h_tail (x := .str w0) (xs := ws0.map V.str) (first rfl) h0 _ ?_) ?_
          · rintro v H2 ⟨p, rfl, hp, rfl⟩
            exact ⟨p, ws0, rfl, upd_same, hwz0.1, hwz0.2, fun l hl x H' h1 h2 h3 => by
              rw [hn] at hl
              cases hl
              exact q _ _ ⟨x, rfl, (same_upd hp).free h1, (same_upd hp).trans h2, h3⟩, fun z => by rw [hn] at z; cases z⟩
          rintro v H2 ⟨x, rfl, nx, e2, hx⟩
          refine q_setH (h_lst (xs := []) (by kxs_still) (by show 0 ≤ sizeLine; decide)) ?_
          rintro v H3 ⟨y, rfl, ny, rfl⟩
          have e3 := same_upd (o := .lst []) ny
          have s13 := e2.trans e3
          have s03 := e1.trans s13
          have hD3 := s13 _ _ hD
          have hls : ls.length ≤ t.length + 2 := by rw [List.length_cons] at hspl; omega
          refine q_forLH (h_tail (x := .ref b0) (xs := bs.map V.ref) (v_var rfl) hD3) ?_
          rintro v H4 ⟨r, rfl, nr, rfl⟩
          have e4 := same_upd (o := .lst (bs.map V.ref)) nr
          have hbl := hLs.len
          rw [List.length_map] at hbl
          have ny1 : H1 y = none := e2.free ny
          have s14 := s13.trans e4
          have hr4 : (upd (upd H2 y (.lst [])) r (.lst (bs.map V.ref))) r = some (.lst (bs.map V.ref)) := upd_same
          have hy4 := e4 _ _ (show (upd H2 y (.lst [])) y = some (.lst []) from upd_same)
          have hx4 := e4 _ _ (e3 _ _ hx)
          have hyr : y ≠ r := ne_none (show (upd H2 y (.lst [])) y = some (.lst []) from upd_same) nr
          have hxy : x ≠ y := ne_none hx ny
          have nr1 : H1 r = none := s13.free nr
          generalize (upd (upd H2 y (.lst [])) r (.lst (bs.map V.ref))) = H4 at *
          -- the ways
          refine q_forL (p := r) (xs := bs.map V.ref) v_c (SqL.of hr4) (fun i σ' H' => ∃ u4 acc wls, σ' = [some (.str t), some (.ref D), some (.ref x), some (.ref y), u4, none] ∧ Same H1 H' ∧ H' r = some (.lst (bs.map V.ref)) ∧ H' x = some (.lst (ps.map V.int)) ∧ H' y = some (.lst (acc.map V.ref)) ∧ WaysAt H' acc wls ∧ wls.length = i ∧ rowsZ ls = (rowsZ (ls.drop i)).map (wls ++ ·))
            ⟨none, [], [], rfl, s14, hr4, hx4, hy4, .nil, rfl, by rw [List.drop_zero]; cases rowsZ ls <;> rfl⟩ (fun i σ' H' _ ⟨_, _, _, _, _, h, _⟩ => SqL.of h) ?_ ?_
          · rintro i v σ' H' hi ⟨u4, acc, wls, rfl, e5, hr5, hx5, hy5, hW5, hwl, hrow⟩
            rw [List.getElem?_map] at hi
            cases eb : bs[i]? with
            | none =>
              rw [eb] at hi
              cases hi
            | some b =>
              rw [eb] at hi
              have hi : V.ref b = v := Option.some.inj hi
              subst hi
              obtain ⟨wss, hwss, hb1⟩ := All2.get' hLs eb
              rw [List.getElem?_map] at hwss
              cases el : ls[i]? with
              | none =>
                rw [el] at hwss
                cases hwss
              | some l =>
                rw [el] at hwss
                have hwss : Txt.split l " " = wss := Option.some.inj hwss
                obtain ⟨s1, s2⟩ := rows_step el hrow
                have hbb := e5 _ _ hb1
                have hll := hsz l (List.mem_cons_of_mem _ (List.mem_of_getElem? el))
                have hi3 := (List.getElem?_eq_some_iff.mp el).1
                have bad : rowZ l = none → ∀ H9, Same H1 H9 → E (.ref C.NoText) none H9 := fun hno H9 e9 => e (by rw [s1 hno]) H9 (e1.trans e9)
                refine g_name ?_
                obtain ⟨wz, wzs, rfl⟩ : ∃ a b, wss = a :: b := by
                  cases wss with
                  | nil => exact absurd hwss (split_ne l " ")
                  | cons a b => exact ⟨a, b, rfl⟩
                have hrowl : rowZ l = (match (if wz = "way" then numsZ wzs else none) with
                    | some [a, b, c, d] => some ⟨a, b, c, d⟩
                    | _ => none) := by
                  rw [rowZ, lineZ, hwss]
                  try rfl
                refine q_when (b := !decide (V.int (((wz :: wzs).map V.str).length : Nat) = V.int 5) || !decide (V.str wz = V.str "way")) (a_or (a_test (v_ne (v_len (v_var rfl) (SqL.of hbb)) v_c rfl)) fun _ => a_test (v_ne (v_ixL (i := ((0 : Nat) : Int)) (v_var rfl) v_c (SqL.of hbb) (atI_nat (j := 0) rfl)) v_c rfl)) (fun hb => ?_) (fun hb => ?_)
                · refine bad ?_ _ e5
                  rw [hrowl]
                  by_cases hway : wz = "way"
                  · rw [if_pos hway]
                    cases hnn : numsZ wzs with
                    | none => rfl
                    | some r =>
                      have hlen := (numsZ_b hnn).2
                      have h5 : ¬ wzs.length = 4 := by
                        simp [hway] at hb
                        omega
                      rw [← hlen] at h5
                      match r, h5 with
                      | [], _ => rfl
                      | [_], _ => rfl
                      | [_, _], _ => rfl
                      | [_, _, _], _ => rfl
                      | [_, _, _, _], h => exact absurd rfl h
                      | _ :: _ :: _ :: _ :: _ :: _, _ => rfl
                  · rw [if_neg hway]
                have hb : wzs.length = 4 ∧ wz = "way" := by
                  simp at hb
                  exact ⟨by omega, hb.2⟩
                rw [if_pos hb.2] at hrowl
                have hwzs : wzs.length ≤ 100000 ∧ ∀ w ∈ wzs, w.length ≤ 1000000 := by
                  refine ⟨by omega, fun w hw => ?_⟩
                  have : w.length ≤ l.length := PyProof.Rows.part_short (x := l) (y := " ") (by rw [hwss]; exact List.mem_cons_of_mem _ hw)
                  omega
                have hal := hW5.len
                refine s_appQ (l := y) (v_var rfl) hy5 (q_tupNums (h_tail (x := .str wz) (xs := wzs.map V.str) (v_var rfl) hbb) hwzs.1 hwzs.2 (fun rr p H6 hnn hp e6 hp6 => ?_) (fun hnn H6 e6 => ?_))
                · rw [hnn] at hrowl
                  have hlen := (numsZ_b hnn).2
                  obtain ⟨n1, n2, n3, n4, rfl⟩ : ∃ a b c d, rr = [a, b, c, d] := by
                    rw [hb.1] at hlen
                    match rr, hlen with
                    | [a, b, c, d], _ => exact ⟨a, b, c, d, rfl⟩
                  have hy6 := e6 _ _ hy5
                  refine ⟨y, _, .ref p, rfl, rfl, hy6, sz_lt (by rw [List.length_map]; omega), ?_⟩
                  have kp : ∀ c o, H6 c = some o → c ≠ y → (upd H6 y (.lst (acc.map V.ref ++ [.ref p]))) c = some o := fun c o hc hcy => by rw [upd_ne hcy]; exact hc
                  refine ⟨_, acc ++ [p], wls ++ [⟨n1, n2, n3, n4⟩], rfl, same_mut (e5.trans e6) ny1, kp _ _ (e6 _ _ hr5) hyr.symm, kp _ _ (e6 _ _ hx5) hxy, by rw [upd_same, List.map_append]; rfl, ?_, by simp [hwl], s2 _ hrowl⟩
                  refine All2.appendT (All2.imp (hW5.same e6) fun c z hc => ?_) (.cons ?_ .nil)
                  · have hc : H6 c = some (.tup (wayV z)) := hc
                    exact kp _ _ hc (ne_of hc hy6 (by intro z; cases z))
                  · exact kp _ _ hp6 (ne_of hp6 hy6 (by intro z; cases z))
                · rw [hnn] at hrowl
                  exact bad hrowl _ (e5.trans e6)
          · rintro σ' H' ⟨u4, acc, wls, rfl, e5, hr5, hx5, hy5, hW5, hwl, hrow⟩
            rw [List.length_map, hbl, List.drop_length] at hrow
            have hrow : rowsZ ls = some wls := by
              rw [hrow]
              simp [rowsZ]
            rw [hrow] at q e
            simp only at q e
            rw [List.length_map, hbl] at hwl
            have hpsl := (numsZ_b hn).2
            have hw0l := PyProof.Rows.split_le l0 " "
            rw [hw0, List.length_cons] at hw0l
            have hbig : ps.length ≤ 1000 ∧ wls.length ≤ 1000 := by omega
            · refine s_retMakeS (vs := [.ref x, .ref y]) (av_cons (v_var rfl) (av_cons (v_var rfl) av_nil)) ?_
              intro h dx nh ndx ne
              have s1 : Same H' (upd (upd H' dx (.own h)) h (.ins C.House dx [])) := same_mut (same_upd ndx) nh
              refine ⟨h, dx, x, y, acc, ps, wls, rfl, upd_same, s1 _ _ hx5, s1 _ _ hy5, hW5.same s1, hbig.1, hbig.2, fun hok H6 hh hk => ⟨rfl, ?_⟩, fun hno H6 e6 => ?_⟩
              · obtain ⟨l1, l2, n1, n2, hI⟩ := hh
                exact q ps wls (by rw [if_pos hok]) h acc H6 (fun c o hc => hk c o (s1 c o (e5 _ _ (e1 _ _ hc))) (ne_none (e5 _ _ (e1 _ _ hc)) nh)) ⟨dx, l1, l2, hI⟩
              · refine ⟨true, mx_BadHouse_BadHouse, fun _ a ha => ?_, fun z => nomatch z⟩
                exact e (by rw [hno]; rfl) _ (e1.trans (e5.trans (s1.trans e6)))
end
/-! ### a house as a text -/
def figS (n : Int) : Str := toString n
def wordsL (name : Str) (l : List Int) : Str := Str.join " " (name :: l.map figS)
def lineW (x : Way) : Str := wordsL "way" [x.s, x.e, x.w, x.l]
def textZ (ps : List Int) (ws : List Way) : Str := Str.join "\n" (wordsL "people" ps :: ws.map lineW)
theorem fig_eq {n : Int} (h : 0 ≤ n ∧ n ≤ 9) : figS n = ⟨#[48 + n.toNat]⟩ := by
  have : n = 0 ∨ n = 1 ∨ n = 2 ∨ n = 3 ∨ n = 4 ∨ n = 5 ∨ n = 6 ∨ n = 7 ∨ n = 8 ∨ n = 9 := by omega
  rcases this with rfl | rfl | rfl | rfl | rfl | rfl | rfl | rfl | rfl | rfl <;> decide +kernel
theorem fig_read {n : Int} (h : 0 ≤ n ∧ n ≤ 9) : figZ (figS n) = some n := by
  have : n = 0 ∨ n = 1 ∨ n = 2 ∨ n = 3 ∨ n = 4 ∨ n = 5 ∨ n = 6 ∨ n = 7 ∨ n = 8 ∨ n = 9 := by omega
  rcases this with rfl | rfl | rfl | rfl | rfl | rfl | rfl | rfl | rfl | rfl <;> decide +kernel
theorem nums_read : ∀ {l : List Int}, (∀ x ∈ l, 0 ≤ x ∧ x ≤ 9) → numsZ (l.map figS) = some l
  | [], _ => rfl
  | x :: l, h => by
    rw [List.map_cons, numsZ, fig_read (h x List.mem_cons_self), nums_read fun y hy => h y (List.mem_cons_of_mem _ hy)]
    rfl
theorem fig_free {n : Int} {c : Nat} (h : 0 ≤ n ∧ n ≤ 9) (hc : c < 48) : c ∉ TL.tl (figS n) := by
  rw [fig_eq h]
  show c ∉ [48 + n.toNat]
  simp
  omega
theorem free_join {s : Nat} {S : List Nat} (hS : s ∉ S) : ∀ {parts : List (List Nat)}, (∀ p ∈ parts, s ∉ p) → s ∉ TL.joinL S parts
  | [], _ => by simp [TL.joinL]
  | [p], h => h p List.mem_cons_self
  | p :: q :: r, h => by
    have := free_join hS (parts := q :: r) fun z hz => h z (List.mem_cons_of_mem _ hz)
    simp only [TL.joinL, List.mem_append, not_or]
    exact ⟨h p List.mem_cons_self, hS, this⟩
theorem words_free {name : Str} {l : List Int} {c : Nat} (hn : c ∉ TL.tl name) (hc : c < 48) (h32 : c ≠ 32) (h : ∀ x ∈ l, 0 ≤ x ∧ x ≤ 9) : c ∉ TL.tl (wordsL name l) := by
  rw [wordsL, TL.tl_join]
  refine free_join ?_ fun p hp => ?_
  · show c ∉ [32]
    simpa using h32
  · simp only [List.map_cons, List.map_map, List.mem_cons, List.mem_map] at hp
    rcases hp with rfl | ⟨x, hx, rfl⟩
    · exact hn
    · exact fig_free (h x hx) hc
theorem words_split {name : Str} {l : List Int} (hn : 32 ∉ TL.tl name) (h : ∀ x ∈ l, 0 ≤ x ∧ x ≤ 9) : Txt.split (wordsL name l) " " = name :: l.map figS := by
  rw [wordsL, ← TL.join_eq]
  refine TL.split_join (s := 32) (S := []) (by decide +kernel) (by decide +kernel) (by simp) fun p hp => ?_
  simp only [List.mem_cons, List.mem_map] at hp
  rcases hp with rfl | ⟨x, hx, rfl⟩
  · exact hn
  · exact fig_free (h x hx) (by decide)
theorem way_figs {n : Int} {x : Way} (hn : n ≤ 4) (h : wayOk n x = true) : ∀ y ∈ [x.s, x.e, x.w, x.l], 0 ≤ y ∧ y ≤ 9 := by
  have h := wayOk_of h
  intro y hy
  simp only [List.mem_cons, List.not_mem_nil, or_false] at hy
  rcases hy with rfl | rfl | rfl | rfl <;> omega
theorem line_read {name : Str} {l : List Int} (hn : 32 ∉ TL.tl name) (h : ∀ x ∈ l, 0 ≤ x ∧ x ≤ 9) : lineZ name (wordsL name l) = some l := by
  rw [lineZ, words_split hn h]
  simp only [if_true]
  exact nums_read h
theorem rows_read {n : Int} (hn : n ≤ 4) : ∀ {ws : List Way}, (∀ x ∈ ws, wayOk n x = true) → rowsZ (ws.map lineW) = some ws
  | [], _ => rfl
  | x :: ws, h => by
    rw [List.map_cons, rowsZ]
    have : rowZ (lineW x) = some x := by
      rw [rowZ, lineW, line_read (by decide +kernel) (way_figs hn (h x List.mem_cons_self))]
    rw [this, rows_read hn fun y hy => h y (List.mem_cons_of_mem _ hy)]
    rfl
theorem folk_figs {ps : List Int} (h : ∀ x ∈ ps, countOk x = true) : ∀ x ∈ ps, 0 ≤ x ∧ x ≤ 9 := fun x hx => of_decide_eq_true (h x hx)
theorem read_text {ps : List Int} {ws : List Way} (hok : houseOk ps ws = true) : readZ (textZ ps ws) = some (ps, ws) := by
  obtain ⟨⟨h1, h2, h3⟩, hp, hw⟩ := houseOk_iff.mp hok
  have hs : Txt.split (textZ ps ws) "\n" = wordsL "people" ps :: ws.map lineW := by
    rw [textZ, ← TL.join_eq]
    refine TL.split_join (s := 10) (S := []) (by decide +kernel) (by decide +kernel) (by simp) fun p hq => ?_
    simp only [List.mem_cons, List.mem_map] at hq
    rcases hq with rfl | ⟨x, hx, rfl⟩
    · exact words_free (by decide +kernel) (by decide) (by decide) (folk_figs hp)
    · exact words_free (by decide +kernel) (by decide) (by decide) (way_figs (by omega) (hw x hx))
  rw [readZ, hs]
  simp only [line_read (name := "people") (by decide +kernel) (folk_figs hp), rows_read (by omega) hw, hok, if_true]
theorem fig_len {n : Int} (h : 0 ≤ n ∧ n ≤ 9) : (figS n).length = 1 := by
  rw [fig_eq h]
  rfl
theorem figs_sum : ∀ {l : List Int}, (∀ x ∈ l, 0 ≤ x ∧ x ≤ 9) → ((l.map figS).map (·.length)).sum = l.length
  | [], _ => rfl
  | x :: l, h => by
    rw [List.map_cons, List.map_cons, List.sum_cons, fig_len (h x List.mem_cons_self), figs_sum fun y hy => h y (List.mem_cons_of_mem _ hy), List.length_cons]
    omega
theorem words_len {name : Str} {l : List Int} (h : ∀ x ∈ l, 0 ≤ x ∧ x ≤ 9) : (wordsL name l).length ≤ name.length + 2 * l.length + 1 := by
  have h1 := StrLaws.join_length_le " " (name :: l.map figS)
  have h2 : (Str.length " ") = 1 := by decide +kernel
  rw [h2, List.map_cons, List.sum_cons, figs_sum h, List.length_cons, List.length_map] at h1
  show (Str.join " " (name :: l.map figS)).length ≤ _
  omega
theorem lines_len {n : Int} (hn : n ≤ 4) : ∀ {ws : List Way}, (∀ x ∈ ws, wayOk n x = true) → ((ws.map lineW).map (·.length)).sum ≤ 12 * ws.length
  | [], _ => Nat.le_refl _
  | x :: ws, h => by
    have h1 := words_len (name := "way") (way_figs hn (h x List.mem_cons_self))
    have h2 : (Str.length "way") = 3 := by decide +kernel
    have h3 := lines_len hn (ws := ws) fun y hy => h y (List.mem_cons_of_mem _ hy)
    rw [h2] at h1
    simp only [List.map_cons, List.sum_cons, List.length_cons, lineW] at h1 h3 ⊢
    simp only [List.length_cons, List.length_nil] at h1
    omega
theorem text_len {ps : List Int} {ws : List Way} {n : Int} (hn : n ≤ 4) (hp : ∀ x ∈ ps, 0 ≤ x ∧ x ≤ 9) (hpl : ps.length ≤ 4) (hwl : ws.length ≤ 10) (hw : ∀ x ∈ ws, wayOk n x = true) : (textZ ps ws).length ≤ 146 := by
  have h1 := StrLaws.join_length_le "\n" (wordsL "people" ps :: ws.map lineW)
  have h2 : (Str.length "\n") = 1 := by decide +kernel
  have h3 := words_len (name := "people") hp
  have h4 : (Str.length "people") = 6 := by decide +kernel
  have h5 := lines_len hn hw
  rw [h4] at h3
  rw [h2, List.map_cons, List.sum_cons, List.length_cons, List.length_map] at h1
  show (Str.join "\n" (wordsL "people" ps :: ws.map lineW)).length ≤ _
  omega
theorem join_snoc (sep : Str) (x : Str) : ∀ (y : Str) (ys : List Str), Str.join sep ((y :: ys) ++ [x]) = Str.join sep (y :: ys) ++ sep ++ x
  | y, [] => rfl
  | y, z :: r => by
    show y ++ sep ++ Str.join sep ((z :: r) ++ [x]) = y ++ sep ++ Str.join sep (z :: r) ++ sep ++ x
    rw [join_snoc sep x z r]
    simp only [Str.append_assoc]
theorem words_snoc (name : Str) (l : List Int) (x : Int) : wordsL name (l ++ [x]) = wordsL name l ++ " " ++ figS x := by
  rw [wordsL, List.map_append, ← List.cons_append]
  exact join_snoc _ _ _ _
theorem fig_log {n : Int} (h : 0 ≤ n ∧ n ≤ 9) : n.natAbs.log2 < 1920 := by
  have h1 : n.natAbs ≤ 9 := by omega
  have h2 : n.natAbs.log2 ≤ 9 := by
    by_cases e : n.natAbs = 0
    · rw [e]
      decide
    · have := Nat.log2_lt (n := n.natAbs) (k := 10) e
      have : n.natAbs.log2 < 10 := this.mpr (by omega)
      omega
  omega
section
variable {K : PySem.W.Frag} {σ : St} {H : Hp} {te ta tb : TE} {D : Ends} {ts tz : TS}
theorem s_forT {p : Addr} {xs : List V} {g : TG} (h : Val te σ H (.ref p)) (hx : SqT K H p xs) (Pv : Nat → St → Hp → Prop) (h0 : Pv 0 σ H) (hl : ∀ i σ' H', i ≤ xs.length → Pv i σ' H' → SqT K H' p xs)
    (hs : ∀ i x σ' H', xs[i]? = some x → Pv i σ' H' → g x σ' H' fun σ2 H2 => ts { D with nx := Pv (i + 1), ct := Pv (i + 1), bk := D.nx } σ2 H2) (hd : ∀ σ' H', Pv xs.length σ' H' → D.nx σ' H') : tFor (iTup K te) g ts D σ H :=
  h _ ⟨p, rfl, ⟨xs, hx⟩, for_tup (K := K) (a := p) (xs := xs) (D := D) Pv h0 hl hs hd⟩
theorem h_lcFT {α : Type} {tl : TE} {j : Nat} {vs : List Nat} {p : Addr} (xs : List α) (emb out : α → V) (h : Val tl σ H (.ref p)) (hx : SqT K H p (xs.map emb)) (hk : ∀ H', Same H H' → SqT K H' p (xs.map emb)) (hz : xs.length ≤ 40000) (hw : ∀ x, wipe ((wipe σ vs).set j (some x)) vs = wipe σ vs)
    (he : ∀ x H', x ∈ xs → Same H H' → GV te ((wipe σ vs).set j (some (emb x))) H' (out x)) :
    ValH (tLc (iTup K tl) (gName j) tYes te vs) σ H (fun v H' => ∃ D, v = .ref D ∧ H D = none ∧ Same H H' ∧ H' D = some (.lst (xs.map out))) := fun Q q =>
  h _ ⟨p, rfl, ⟨_, hx⟩, fun D hD => lc_tup (K := K) (a := p) (xs := xs.map emb) (fun i H' => Same H H' ∧ H' D = some (.lst (((xs.take i).filter fun _ => true).map out))) ⟨same_upd hD, upd_same⟩ (fun i H' _ r => hk _ r.1)
    (fun i x H' hi r => by
      rw [List.getElem?_map] at hi
      cases e : xs[i]? with
      | none =>
        rw [e] at hi
        cases hi
      | some y =>
        rw [e] at hi
        have hi : emb y = x := Option.some.inj hi
        subst hi
        have hm := List.mem_of_getElem? e
        have hl : (((xs.take i).filter fun _ => true).map out).length ≤ xs.length := by
          rw [List.length_map]
          exact Nat.le_trans (List.length_filter_le _ _) (List.length_take_le' _ _)
        refine ⟨hw _, lc_turnF (b := true) hD r.1 r.2 (by omega) ag_yes (fun _ H2 e2 => he y H2 hm (r.1.trans e2)) fun H2 e2 h2 => ⟨e2, ?_⟩⟩
        rw [h2, take_map_filter e])
    fun H' r => q _ _ ⟨D, rfl, hD, r.1, by rw [r.2, List.length_map, List.take_length, List.filter_eq_self.mpr (fun _ _ => rfl)]⟩⟩
theorem g_eqDH {d e : PyData} {P : V → Hp → Prop} (ha : ValH ta σ H P) (hb : ∀ x H', P x H' → Same H H' ∧ ValH tb σ H' (fun y H2 => Same H' H2 ∧ Dp K H2 x d ∧ Dp K H2 y e)) (sd : SeqAt.shaped d = true) (se : SeqAt.shaped e = true) : GV (tOp (rEqD K) ta tb) σ H (.bl (PyData.eqv d e)) :=
  fun Q q => ha _ fun x H1 p1 => (hb x H1 p1).2 _ fun y H2 p => ⟨d, e, p.2.1, p.2.2, sd, se, q H2 ((hb x H1 p1).1.trans p.1)⟩
theorem g_andVk {a b : Bool} (h1 : GV ta σ H (.bl a)) (h2 : a = true → ∀ H', Same H H' → GV tb σ H' (.bl b)) : GV (tAndV ta tb) σ H (.bl (a && b)) := fun Q q => h1 _ fun H1 e1 => ⟨a, rfl, by
  cases a with
  | true => exact iteT (h2 rfl H1 e1 Q fun H2 e2 => q H2 (e1.trans e2))
  | false => exact iteF (q H1 e1)⟩
end
theorem g_addS' {σ : St} {H : Hp} {ta tb : TE} {a b c : Str} (e : a ++ b = c) (ha : GV ta σ H (.str a)) (hb : ∀ H', Same H H' → GV tb σ H' (.str b)) (hz : a.length + b.length ≤ 1000000) : GV (tOp rAddSQ ta tb) σ H (.str c) := e ▸ g_addS ha hb hz
theorem ints_item {l : List Int} {i : Nat} {v : V} (hi : (l.map V.int)[i]? = some v) : ∃ x, v = .int x ∧ l[i]? = some x ∧ x ∈ l := by
  rw [List.getElem?_map] at hi
  cases e : l[i]? with
  | none =>
    rw [e] at hi
    cases hi
  | some w =>
    rw [e] at hi
    exact ⟨w, (Option.some.inj hi).symm, rfl, List.mem_of_getElem? e⟩
theorem take_snoc {α : Type} {xs : List α} {i : Nat} {x : α} (h : xs[i]? = some x) : xs.take (i + 1) = xs.take i ++ [x] := by
  rw [List.take_add_one, h]
  rfl
theorem lines_snoc (ps : List Int) (ws : List Way) (x : Way) : textZ ps (ws ++ [x]) = textZ ps ws ++ "\n" ++ lineW x := by
  rw [textZ, List.map_append, ← List.cons_append]
  exact join_snoc _ _ _ _
def sp_law_shown (K : PySem.W.Frag) (C : Cs) : Sp := fun vs H Q _ => ∃ (p pl wl : Addr) (as : List Addr) (ps : List Int) (ws : List Way), vs = [.ref p] ∧ PlotAt H p pl wl as ps ws ∧ houseOk ps ws = true ∧ Q (.str (textZ ps ws)) H
def sp_shown (K : PySem.W.Frag) (C : Cs) : Sp := fun vs H Q _ => ∃ (h : Addr) (as : List Addr) (ps : List Int) (ws : List Way), vs = [.ref h] ∧ HouseAt C H h as ps ws ∧ houseOk ps ws = true ∧ ∀ H', Same H H' → Q (.str (textZ ps ws)) H'
section
variable {P : Program} {w : World} {K : PySem.W.Frag} {mg : Str → Option Value} {base : Heap} {C : Cs}
abbrev N_law_shown : List PySem.Str := ["plot", "text", "count", "way", "number"]
theorem sc_law_shown : FnScope N_law_shown ["plot"] (defScope s_law_shown) := ⟨rfl, rfl, rfl, by decide +kernel, rfl, by decide +kernel, by decide +kernel⟩
theorem c_law_shown {f fd} (D : FnP K "_law_shown" "_law_shown" s_law_shown f fd) (hm : mg "_law_shown" = some (.ref f)) (G : Bn mg) : Cal P w K mg base CX0 1 "_law_shown" (sp_law_shown K C) := by
  refine cal_of D hm (D.ok sc_law_shown (fun vs H Q E h => ?_) (fun cdv A outer s H vs Q E hr h => ?_)) (fun _ _ _ _ _ _ us hl => match us, hl with | [_], _ => rfl)
  · obtain ⟨p, pl, wl, as, ps, ws, rfl, ⟨hp, hpl, hwl, hW⟩, hok, q⟩ := h
    rfl
  · obtain ⟨p, pl, wl, as, ps, ws, rfl, ⟨hp, hpl, hwl, hW⟩, hok, q⟩ := h
    have hu := hu_of hr
    refine ⟨_, PSs.nox (pss_cons (ps_set (i := 1) sc_law_shown.nd rfl (Or.inl rfl) pe_str)
        (pss_cons (ps_for PassesOwn.never rfl (pi_listK (K := K) rfl (pe_ix (ix_tupK (K := K) rfl) (pv 0) pe_int (fun _ _ => rfl))) (pg_name (i := 2) sc_law_shown.nd rfl (Or.inl rfl))
          (pss_one (ps_set (i := 1) sc_law_shown.nd rfl (Or.inl rfl) (pe_op op_add_str (pe_op op_add_str (pv 1) pe_str) (pe_callTy (T := "str") call_str_int (by rfl) G.str_ (by decide +kernel) (pa_cons (pv 2) pa_nil))))))
        (pss_cons (ps_for PassesOwn.never rfl (pi_listK (K := K) rfl (pe_ix (ix_tupK (K := K) rfl) (pv 0) pe_int (fun _ _ => rfl))) (pg_name (i := 3) sc_law_shown.nd rfl (Or.inl rfl))
          (pss_cons (ps_set (i := 1) sc_law_shown.nd rfl (Or.inl rfl) (pe_op op_add_str (pv 1) pe_str))
            (pss_one (ps_for PassesOwn.never rfl (pi_tupK (K := K) rfl (pv 3)) (pg_name (i := 4) sc_law_shown.nd rfl (Or.inl rfl))
              (pss_one (ps_set (i := 1) sc_law_shown.nd rfl (Or.inl rfl) (pe_op op_add_str (pe_op op_add_str (pv 1) pe_str) (pe_callTy (T := "str") call_str_int (by rfl) G.str_ (by decide +kernel) (pa_cons (pv 4) pa_nil)))))))))
        (pss_one (ps_ret (pv 1)))))), ?_⟩
    obtain ⟨⟨h1, h2, h3⟩, hpk, hwk⟩ := houseOk_iff.mp hok
    have hpf := folk_figs hpk
    have sub : ∀ {l : List Int} {k : Nat}, (∀ x ∈ l, 0 ≤ x ∧ x ≤ 9) → ∀ x ∈ l.take k, 0 ≤ x ∧ x ≤ 9 := fun h x hx => h x (List.mem_of_mem_take hx)
    have l6 : (Str.length "people") = 6 := by decide +kernel
    have l3 : (Str.length "way") = 3 := by decide +kernel
    have l1 : (Str.length " ") = 1 := by decide +kernel
    kopn_word
    refine q_forL (p := pl) (xs := ps.map V.int) (v_ixT (by kbo_bools) v_c hp rfl) (SqL.of hpl) (fun i σ' H' => ∃ u2, σ' = [some (.ref p), some (.str (wordsL "people" (ps.take i))), u2, none, none] ∧ H' = H) ⟨none, rfl, rfl⟩ (fun i σ' H' _ ⟨_, _, e⟩ => by rw [e]; exact SqL.of hpl) ?_ ?_
    · rintro i v σ' H' hi ⟨u2, rfl, rfl⟩
      obtain ⟨x, rfl, hx, hxm⟩ := ints_item hi
      have hxf := hpf x hxm
      have hlen := words_len (name := "people") (sub (k := i) hpf)
      have hlt := List.length_take_le' i ps
      rw [l6] at hlen
      have hfl := fig_len hxf
      refine g_name ?_
      refine s_set (v := .str (wordsL "people" (ps.take i) ++ " " ++ figS x)) (v_addS (v_addS (v_var rfl) v_c (by rw [l1]; omega)) (v_strI (i := x) (v_var rfl) (fig_log hxf)) (by rw [Str.length_append, l1]; show _ + (figS x).length ≤ _; omega)) ⟨some (.int x), ?_, rfl⟩
      rw [take_snoc hx, words_snoc]
      rfl
    rintro σ' H' ⟨u2, rfl, rfl⟩
    rw [List.length_map, List.take_length]
    refine q_forL (p := wl) (xs := as.map V.ref) (v_ixT (v_var rfl) v_c hp rfl) (SqL.of hwl) (fun i σ' H'' => ∃ u3 u4, σ' = [some (.ref p), some (.str (textZ ps (ws.take i))), u2, u3, u4] ∧ H'' = H') ⟨none, none, rfl, rfl⟩ (fun i σ' H'' _ ⟨_, _, _, e⟩ => by rw [e]; exact SqL.of hwl) ?_ ?_
    · rintro i v σ' H'' hi ⟨u3, u4, rfl, rfl⟩
      rw [List.getElem?_map] at hi
      cases ea : as[i]? with
      | none =>
        rw [ea] at hi
        cases hi
      | some a =>
        rw [ea] at hi
        have hi : V.ref a = v := Option.some.inj hi
        subst hi
        obtain ⟨x, hx, hxa⟩ := All2.get' hW ea
        have hxm := List.mem_of_getElem? hx
        have hxf := way_figs (n := ps.length) (by omega) (hwk x hxm)
        have htl := List.length_take_le' i ws
        have hT := text_len (ps := ps) (ws := ws.take i) (n := ps.length) (by omega) hpf h2 (by omega) fun y hy => hwk y (List.mem_of_mem_take hy)
        have l4 : (Str.length "\nway") = 4 := by decide +kernel
        have ln : (Str.length "\n") = 1 := by decide +kernel
        generalize hTe : textZ ps (ws.take i) = T at hT ⊢
        refine g_name ?_
        refine q_set (v := .str (T ++ "\nway")) (v_addS (v_var rfl) v_c (by rw [l4]; omega)) ?_
        refine s_forT (p := a) (xs := [x.s, x.e, x.w, x.l].map V.int) (v_var rfl) (SqT.of hxa) (fun j σ' H' => ∃ u4, σ' = [some (.ref p), some (.str (T ++ "\n" ++ wordsL "way" ([x.s, x.e, x.w, x.l].take j))), u2, some (.ref a), u4] ∧ H' = H'') ⟨u4, ?_, rfl⟩ (fun j σ' H' _ ⟨_, _, e⟩ => by rw [e]; exact SqT.of hxa) ?_ ?_
        · have : (T ++ ("\nway" : Str)) = T ++ "\n" ++ wordsL "way" ([x.s, x.e, x.w, x.l].take 0) := by
            rw [Str.append_assoc]
            have e2 : (("\n" : Str) ++ wordsL "way" ([x.s, x.e, x.w, x.l].take 0)) = ("\nway" : Str) := by
              show (("\n" : Str) ++ ("way" : Str)) = ("\nway" : Str)
              decide +kernel
            rw [e2]
          rw [this]
          rfl
        · rintro j v σ' H' hj ⟨u4, rfl, rfl⟩
          obtain ⟨y, rfl, hy, hym⟩ := ints_item hj
          have hyf := hxf y hym
          have hlen := words_len (name := "way") (sub (k := j) hxf)
          have hlt := List.length_take_le' j [x.s, x.e, x.w, x.l]
          rw [l3] at hlen
          have hfl := fig_len hyf
          have h44 : [x.s, x.e, x.w, x.l].length = 4 := rfl
          refine g_name ?_
          refine s_set (v := .str (T ++ "\n" ++ wordsL "way" ([x.s, x.e, x.w, x.l].take j) ++ " " ++ figS y)) (v_addS (v_addS (v_var rfl) v_c (by rw [Str.length_append, Str.length_append, l1, ln]; omega)) (v_strI (i := y) (v_var rfl) (fig_log hyf)) (by rw [Str.length_append, Str.length_append, Str.length_append, l1, ln]; show _ + (figS y).length ≤ _; omega)) ⟨some (.int y), ?_, rfl⟩
          rw [take_snoc hy, words_snoc]
          have : (T ++ "\n" ++ wordsL "way" ([x.s, x.e, x.w, x.l].take j) ++ " " ++ figS y : Str) = T ++ "\n" ++ (wordsL "way" ([x.s, x.e, x.w, x.l].take j) ++ " " ++ figS y) := by simp only [Str.append_assoc]
          rw [this]
          rfl
        · rintro σ' H' ⟨u4, rfl, rfl⟩
          refine ⟨some (.ref a), u4, ?_, rfl⟩
          rw [take_snoc hx, lines_snoc, hTe]
          rfl
    · rintro σ' H'' ⟨u3, u4, rfl, rfl⟩
      rw [List.length_map, hW.len, List.take_length]
      exact s_ret (v_var rfl) q
end
/-! ### some words, some text -/
def oddA : List Str := ["", "0", "5", "7", "10", "01", "-1", "+1", "1_0", "x", "way", "people", "People", "\t1", "1\t", "9", "1."]
theorem odd_len : ∀ x ∈ oddA ++ [("4" : Str)], x.length ≤ 6 := by decide +kernel
theorem wgt_take_drop (ss : List Str) (n : Nat) : wgt (ss.take n) + wgt (ss.drop n) = wgt ss := by
  rw [← wgt_append, List.take_append_drop]
section
variable {K : PySem.W.Frag} {σ : St} {H : Hp} {te ta tb : TE} {p : Addr} {ss xs ys : List Str} {D : Ends}
def SomeS (H : Hp) (n : Nat) : V → Hp → Prop := fun v H' => ∃ p ss, v = .ref p ∧ H p = none ∧ Same H H' ∧ H' p = some (.lst (ss.map V.str)) ∧ wgt ss ≤ n
theorem h_slS {lo hi : Option Int} {tl th : TO} (ha : Val ta σ H (.ref p)) (h : H p = some (.lst (ss.map V.str))) (h1 : ∀ Q : Option Int → Hp → Prop, Q lo H → tl σ H Q) (h2 : ∀ Q : Option Int → Hp → Prop, Q hi H → th σ H Q) :
    ValH (tSl (rSlL K) ta tl th) σ H (SomeS H (wgt ss)) := fun Q q => ha _ (h1 _ (h2 _ ⟨p, ss.map V.str, rfl, SqL.of h, fun r hr => by
  have e : cutV (ss.map V.str) lo hi = ((ss.drop (HT.sIx (ss.map V.str).length 0 lo)).take (HT.sIx (ss.map V.str).length (ss.map V.str).length hi - HT.sIx (ss.map V.str).length 0 lo)).map V.str := by rw [cutV, List.map_take, List.map_drop]
  exact q _ _ ⟨r, _, rfl, hr, same_upd hr, by rw [upd_same, e], Nat.le_trans (wgt_take _ _) (wgt_drop _ _)⟩⟩))
theorem h_catS {n m : Nat} (ha : ValH ta σ H (SomeS H n)) (hb : ∀ H', Same H H' → ValH tb σ H' (SomeS H' m)) (hz : n + m ≤ 100000) : ValH (tOp rCat ta tb) σ H (SomeS H (n + m)) := fun Q q => ha _ fun v H1 z => by
  obtain ⟨p, ss, rfl, hp, e1, h1, w1⟩ := z
  refine hb _ e1 _ fun v H2 z => ?_
  obtain ⟨r, us, rfl, hr, e2, h2, w2⟩ := z
  have l1 := wgt_len ss
  have l2 := wgt_len us
  exact ⟨p, r, _, _, rfl, rfl, e2 _ _ h1, h2, sz_ok (by rw [List.length_map, List.length_map]; omega), fun x hx => q _ _ ⟨x, ss ++ us, rfl, e1.free (e2.free hx), (e1.trans e2).trans (same_upd hx), by rw [upd_same, List.map_append], by rw [wgt_append]; omega⟩⟩
theorem h_oneS {x : Str} {n : Nat} (ha : Val ta σ H (.str x)) (hn : x.length + 1 ≤ n) : ValH (tLst (tCons ta tNil)) σ H (SomeS H n) := fun Q q => ha _ ⟨by show 1 ≤ sizeLine; decide, fun r hr => q _ _ ⟨r, [x], rfl, hr, same_upd hr, upd_same, by rw [wgt_one]; exact hn⟩⟩
theorem h_splitS {a b : Str} (ha : Val ta σ H (.str a)) (hb : Val tb σ H (.str b)) (h0 : b.length = 1) (hz : a.length ≤ 1000000) : ValH (tM1 rSplitQ ta tb) σ H (SomeS H (a.length + 1)) :=
  ValH.imp (h_split ha hb (by rw [h0]; rfl) hz) fun v H' ⟨p, e, hp, eH⟩ => ⟨p, Txt.split a b, e, hp, by rw [eH]; exact same_upd hp, by rw [eH]; exact upd_same, wgt_split a b (by omega)⟩
end
theorem h_joinSome {K : PySem.W.Frag} {σ : St} {H : Hp} {te : TE} {n : Nat} {sep : Str} (hs : sep.length = 1) (hb : ValH te σ H (SomeS H n)) (hn : n ≤ 100000) : ValH (tM1 (rJoinQ K) (tC (.str sep)) te) σ H (fun v H' => ∃ y, v = .str y ∧ Same H H' ∧ y.length ≤ n) := fun Q q => by
  refine ⟨⟨sep, rfl⟩, hb _ fun v H' z => ?_⟩
  obtain ⟨p, ss, rfl, hp, e, h, w⟩ := z
  refine ⟨sep, p, ss, rfl, rfl, .inl (SqL.of h), ?_, q _ _ ⟨_, rfl, e, Nat.le_trans (wgt_join hs ss) w⟩⟩
  rw [hs]
  unfold wgt at w
  omega
def sp_law_words (K : PySem.W.Frag) (C : Cs) : Sp := fun vs H Q _ => ∃ (p : Addr) (ss : List Str) (c : Int), vs = [.ref p, .int c] ∧ H p = some (.lst (ss.map V.str)) ∧ 1 ≤ ss.length ∧ wgt ss ≤ 1000 ∧ 0 ≤ c ∧ ∀ v H', SomeS H (2 * wgt ss + 7) v H' → Q v H'
def sp_law_spoiled (K : PySem.W.Frag) (C : Cs) : Sp := fun vs H Q _ => ∃ (t : Str) (way c : Int), vs = [.str t, .int way, .int c] ∧ t.length ≤ 146 ∧ 0 ≤ c ∧ ∀ t' H', Same H H' → t'.length ≤ 900 → Q (.str t') H'
theorem at_str {ss : List Str} {k : Int} (h0 : 0 ≤ k) (h1 : k < ss.length) : ∃ x, atI (ss.map V.str) k = some (.str x) ∧ x ∈ ss ∧ ss[k.toNat]? = some x := by
  obtain ⟨j, rfl⟩ : ∃ j : Nat, k = j := ⟨k.toNat, by omega⟩
  have hj : j < ss.length := by omega
  exact ⟨ss[j], atI_nat (by rw [List.getElem?_map, List.getElem?_eq_getElem hj]; rfl), List.getElem_mem _, List.getElem?_eq_getElem hj⟩
/-- the lines between the clauses -/
def SpS (H : Hp) (t : Str) (way c pos far : Int) (n m : Nat) (σ' : St) (H' : Hp) : Prop := ∃ l ss, σ' = [some (.str t), some (.int way), some (.int c), some (.ref l), some (.int pos), some (.int far)] ∧ H l = none ∧ Same H H' ∧ H' l = some (.lst (ss.map V.str)) ∧ wgt ss ≤ n ∧ m ≤ ss.length
theorem SpS.same {H : Hp} {t : Str} {way c pos far : Int} {n m : Nat} {σ' : St} {H1 H2 : Hp} (h : SpS H t way c pos far n m σ' H1) (e : Same H1 H2) : SpS H t way c pos far n m σ' H2 := by
  obtain ⟨l, ss, h0, h1, h2, h3, h4, h5⟩ := h
  exact ⟨l, ss, h0, h1, h2.trans e, e _ _ h3, h4, h5⟩
theorem at4s {a b c d : Str} {x : Int} : ∃ z, z ∈ [a, b, c, d] ∧ atI [V.str a, .str b, .str c, .str d] (x % 4) = some (.str z) := by
  have h : x % 4 = 0 ∨ x % 4 = 1 ∨ x % 4 = 2 ∨ x % 4 = 3 := by omega
  rcases h with e | e | e | e <;> rw [e]
  · exact ⟨a, by simp, rfl⟩
  · exact ⟨b, by simp, rfl⟩
  · exact ⟨c, by simp, rfl⟩
  · exact ⟨d, by simp, rfl⟩
section
variable {P : Program} {w : World} {K : PySem.W.Frag} {mg : Str → Option Value} {base : Heap} {C : Cs}
abbrev N_law_words : List PySem.Str := ["words", "cell", "odd", "at"]
theorem sc_law_words : FnScope N_law_words ["words", "cell"] (defScope s_law_words) := ⟨rfl, rfl, rfl, by decide +kernel, rfl, by decide +kernel, by decide +kernel⟩
theorem c_law_words {f fd} (D : FnP K "_law_words" "_law_words" s_law_words f fd) (hm : mg "_law_words" = some (.ref f)) (G : Bn mg) : Cal P w K mg base CX0 1 "_law_words" (sp_law_words K C) := by
  refine cal_of D hm (D.ok sc_law_words (fun vs H Q E h => ?_) (fun cdv A outer s H vs Q E hr h => ?_)) (fun _ _ _ _ _ _ us hl => match us, hl with | [_, _], _ => rfl)
  · obtain ⟨p, ss, c, rfl, hp, hl, hwt, hc, q⟩ := h
    rfl
  · obtain ⟨p, ss, c, rfl, hp, hl, hwt, hc, q⟩ := h
    have hu := hu_of hr
    refine ⟨_, PSs.nox (pss_cons (ps_set (i := 2) sc_law_words.nd rfl (Or.inl rfl) (pe_lst (pa_cons pe_str (pa_cons pe_str (pa_cons pe_str (pa_cons pe_str (pa_cons pe_str (pa_cons pe_str (pa_cons pe_str (pa_cons pe_str (pa_cons pe_str (pa_cons pe_str (pa_cons pe_str (pa_cons pe_str (pa_cons pe_str (pa_cons pe_str (pa_cons pe_str (pa_cons pe_str (pa_cons pe_str pa_nil)))))))))))))))))))
        (pss_cons (ps_set (i := 2) sc_law_words.nd rfl (Or.inl rfl) (pe_op op_cat (pv 2) (pe_lst (pa_cons pe_str pa_nil))))
        (pss_cons (ps_set (i := 3) sc_law_words.nd rfl (Or.inl rfl) (pe_op op_mod (pe_op op_fdiv (pv 1) pe_int) (pe_callB (id := "len") (call_len_seqK (K := K) rfl) (by rfl) G.len_ (by decide +kernel) (pa_cons (pv 0) pa_nil))))
        (pss_cons (ps_if (pt_cmpR op_eq (pe_op op_mod (pe_op op_fdiv (pv 1) pe_int) pe_int) pe_int (nomark _))
          (pss_one (ps_ret (pe_op op_cat (pe_op op_cat (pe_slice (sl_listK (K := K) rfl) (pv 0) po_none (po_some (pv 3))) (pe_lst (pa_cons (pe_ix (ix_listK (K := K) rfl) (pv 2) (pe_op op_mod (pv 1) pe_int) (fun _ _ => rfl)) pa_nil))) (pe_slice (sl_listK (K := K) rfl) (pv 0) (po_some (pe_op op_add (pv 3) pe_int)) po_none))))
          pss_nil)
        (pss_cons (ps_if (pt_cmpR op_eq (pe_op op_mod (pe_op op_fdiv (pv 1) pe_int) pe_int) pe_int (nomark _))
          (pss_one (ps_ret (pe_op op_cat (pe_op op_cat (pe_slice (sl_listK (K := K) rfl) (pv 0) po_none (po_some (pv 3))) (pe_lst (pa_cons (pe_ix (ix_listK (K := K) rfl) (pv 2) (pe_op op_mod (pv 1) pe_int) (fun _ _ => rfl)) pa_nil))) (pe_slice (sl_listK (K := K) rfl) (pv 0) (po_some (pv 3)) po_none))))
          pss_nil)
        (pss_one (ps_ret (pe_op op_cat (pe_slice (sl_listK (K := K) rfl) (pv 0) po_none (po_some (pv 3))) (pe_slice (sl_listK (K := K) rfl) (pv 0) (po_some (pe_op op_add (pv 3) pe_int)) po_none))))))))), ?_⟩
    have hlz := wgt_len ss
    refine q_setH (P := fun v H1 => ∃ o, v = .ref o ∧ Same H H1 ∧ H1 o = some (.lst (oddA.map V.str))) (ValH.imp (h_lst (xs := oddA.map V.str) (by show AV _ _ _ [.str "", .str "0", .str "5", .str "7", .str "10", .str "01", .str "-1", .str "+1", .str "1_0", .str "x", .str "way", .str "people", .str "People", .str "\t1", .str "1\t", .str "9", .str "1."]; kxs_still) (by show 17 ≤ sizeLine; decide)) fun v H1 ⟨o, e, ho, eH⟩ => ⟨o, e, by rw [eH]; exact same_upd ho, by rw [eH]; exact upd_same⟩) ?_
    rintro v H1 ⟨o1, rfl, e1, ho1⟩
    refine q_setH (P := fun v H2 => ∃ o, v = .ref o ∧ Same H H2 ∧ H2 o = some (.lst ((oddA ++ [("4" : Str)]).map V.str))) ?_ ?_
    · intro Q q
      refine v_var (v := .ref o1) rfl _ ?_
      refine h_lst (xs := [.str "4"]) (by kxs_still) (by show 1 ≤ sizeLine; decide) _ ?_
      rintro v H2 ⟨b, rfl, hb, rfl⟩
      have e2 := same_upd (o := .lst [.str "4"]) hb
      exact ⟨o1, b, _, _, rfl, rfl, e2 _ _ ho1, upd_same, by show 18 ≤ sizeLine; decide, fun r hr => q _ _ ⟨r, rfl, (e1.trans e2).trans (same_upd hr), by rw [upd_same, List.map_append]; rfl⟩⟩
    rintro v H2 ⟨o, rfl, e2, ho⟩
    have hp2 := e2 _ _ hp
    have hz0 : (0 : Int) < (((ss.map V.str).length : Nat) : Int) := by rw [List.length_map]; omega
    refine q_set (v := .int (c / 18 % (((ss.map V.str).length : Nat) : Int))) (v_I (i := c / 18) (by kbo_bools) (by kbo_bools) hz0) ?_
    generalize c / 18 % (((ss.map V.str).length : Nat) : Int) = pos
    obtain ⟨x, hx1, hx2, _⟩ := at_str (ss := oddA ++ [("4" : Str)]) (k := c % 18) (by omega) (by show c % 18 < 18; omega)
    have hx6 := odd_len x hx2
    have odd : ∀ {H' : Hp}, Same H2 H' → ValH (tLst (tCons (tOp (rIxL K) (tVar 2) (tOp (rI (fun _ j => (0 : Int) < j) fun i j => .int (i % j)) (tVar 1) (tC (.int 18)))) tNil)) [some (.ref p), some (.int c), some (.ref o), some (.int pos)] H' (SomeS H' 7) := fun e => h_oneS (x := x) (v_ixL (by kbo_bools) (by kbo_bools) (SqL.of (e _ _ ho)) hx1) (by omega)
    have cut : ∀ {H' : Hp} {lo hi : Option Int} {tl th : TO}, Same H2 H' → (∀ Q : Option Int → Hp → Prop, Q lo H' → tl [some (.ref p), some (.int c), some (.ref o), some (.int pos)] H' Q) → (∀ Q : Option Int → Hp → Prop, Q hi H' → th [some (.ref p), some (.int c), some (.ref o), some (.int pos)] H' Q) → ValH (tSl (rSlL K) (tVar 0) tl th) [some (.ref p), some (.int c), some (.ref o), some (.int pos)] H' (SomeS H' (wgt ss)) := fun e h1 h2 => h_slS (v_var rfl) (e _ _ hp2) h1 h2
    have fin : ∀ {n : Nat} {v : V} {H'}, SomeS H2 n v H' → n ≤ 2 * wgt ss + 7 → Q v H' := fun {n v H'} h hn => by
      obtain ⟨r, us, rfl, hr, e, h1, h2⟩ := h
      exact q _ _ ⟨r, us, rfl, e2.free hr, e2.trans e, h1, by omega⟩
    refine q_when (by kbt_split) (fun _ => ?_) (fun _ => ?_)
    · exact s_retH (h_catS (h_catS (cut (lo := none) (hi := some pos) (Same.refl _) (fun Q q => q) (fun Q q => v_var (v := .int pos) rfl _ ⟨pos, rfl, q⟩)) (fun H' e => odd e) (by omega)) (fun H' e => cut (lo := some (pos + 1)) (hi := none) e (fun Q q => v_I0 (g := fun i j => .int (i + j)) (i := pos) (j := 1) (v_var rfl) v_c _ ⟨pos + 1, rfl, q⟩) (fun Q q => q)) (by omega)) fun v H' h => fin h (by omega)
    refine q_when (by kbt_split) (fun _ => ?_) (fun _ => ?_)
    · exact s_retH (h_catS (h_catS (cut (lo := none) (hi := some pos) (Same.refl _) (fun Q q => q) (fun Q q => v_var (v := .int pos) rfl _ ⟨pos, rfl, q⟩)) (fun H' e => odd e) (by omega)) (fun H' e => cut (lo := some pos) (hi := none) e (fun Q q => v_var (v := .int pos) rfl _ ⟨pos, rfl, q⟩) (fun Q q => q)) (by omega)) fun v H' h => fin h (by omega)
    · exact s_retH (h_catS (cut (lo := none) (hi := some pos) (Same.refl _) (fun Q q => q) (fun Q q => v_var (v := .int pos) rfl _ ⟨pos, rfl, q⟩)) (fun H' e => cut (lo := some (pos + 1)) (hi := none) e (fun Q q => v_I0 (g := fun i j => .int (i + j)) (i := pos) (j := 1) (v_var rfl) v_c _ ⟨pos + 1, rfl, q⟩) (fun Q q => q)) (by omega)) fun v H' h => fin h (by omega)
abbrev N_law_spoiled : List PySem.Str := ["text", "way", "cell", "lines", "at", "far"]
theorem sc_law_spoiled : FnScope N_law_spoiled ["text", "way", "cell"] (defScope s_law_spoiled) := ⟨rfl, rfl, rfl, by decide +kernel, rfl, by decide +kernel, by decide +kernel⟩
theorem c_law_spoiled {f fd} (D : FnP K "_law_spoiled" "_law_spoiled" s_law_spoiled f fd) (hm : mg "_law_spoiled" = some (.ref f)) (G : Bn mg) (c_law_words : Cal P w K mg base CX0 1 "_law_words" (sp_law_words K C)) : Cal P w K mg base CX0 2 "_law_spoiled" (sp_law_spoiled K C) := by
  refine cal_of D hm (D.ok sc_law_spoiled (fun vs H Q E h => ?_) (fun cdv A outer s H vs Q E hr h => ?_)) (fun _ _ _ _ _ _ us hl => match us, hl with | [_, _, _], _ => rfl)
  · obtain ⟨t, way, c, rfl, ht, hc, q⟩ := h
    rfl
  · obtain ⟨t, way, c, rfl, ht, hc, q⟩ := h
    have hu := hu_of hr
    refine ⟨_, PSs.nox (pss_cons (ps_set (i := 3) sc_law_spoiled.nd rfl (Or.inl rfl) (pe_split (pv 0) pe_str))
        (pss_cons (ps_set (i := 4) sc_law_spoiled.nd rfl (Or.inl rfl) (pe_op op_mod (pv 2) (pe_callB (id := "len") (call_len_seqK (K := K) rfl) (by rfl) G.len_ (by decide +kernel) (pa_cons (pv 3) pa_nil))))
        (pss_cons (ps_set (i := 5) sc_law_spoiled.nd rfl (Or.inl rfl) (pe_op op_mod (pe_op op_fdiv (pv 2) pe_int) (pe_callB (id := "len") (call_len_seqK (K := K) rfl) (by rfl) G.len_ (by decide +kernel) (pa_cons (pv 3) pa_nil))))
        (pss_cons (ps_if (PW.pt (pw_or (pt_cmpR op_eq (pv 1) pe_int (nomark _)) (pw_or1 (pt_cmpR op_eq (pv 1) pe_int (nomark _)))))
          (pss_one (ps_asg (pe_joinK (K := K) rfl pe_str (pe_c c_law_words hr (by decide) pass0 rfl (pa_cons (pe_split (pe_ix (ix_listK (K := K) rfl) (pv 3) (pv 4) (fun _ _ => rfl)) pe_str) (pa_cons (pe_op op_fdiv (pv 2) pe_int) pa_nil)))) (pg_sub (pv 3) (pv 4) set_list)))
          pss_nil)
        (pss_cons (ps_if (pt_cmpR op_eq (pv 1) pe_int (nomark _))
          (pss_one (ps_expr (pe_bmK (K := K) rfl PySem.F.plainAttrs_list PySem.F.slot_list_insert PySem.F.type_list_insert mt_insert (pv 3) (pa_cons (pv 5) (pa_cons (pe_ix (ix_listK (K := K) rfl) (pv 3) (pv 4) (fun _ _ => rfl)) pa_nil)))))
          pss_nil)
        (pss_cons (ps_if (pt_cmpR op_eq (pv 1) pe_int (nomark _))
          (pss_one (ps_expr (pe_bmK (K := K) rfl PySem.F.plainAttrs_list PySem.F.slot_list_insert PySem.F.type_list_insert mt_insert (pv 3) (pa_cons (pv 5) (pa_cons (pe_bmK (K := K) rfl PySem.F.plainAttrs_list PySem.F.slot_list_pop PySem.F.type_list_pop mt_popAt (pv 3) (pa_cons (pv 4) pa_nil)) pa_nil)))))
          pss_nil)
        (pss_cons (ps_if (pt_cmpR op_eq (pv 1) pe_int (nomark _))
          (pss_one (ps_asg (pe_ix (ix_listK (K := K) rfl) (pe_lst (pa_consT (pe_ix (ix_listK (K := K) rfl) (pv 3) (pv 4) (fun _ _ => rfl)) (pat_cons (CwR.PET.of (pe_op op_add_str (pe_ix (ix_listK (K := K) rfl) (pv 3) (pv 4) (fun _ _ => rfl)) pe_str)) (pat_cons (CwR.pet_replC (pe_ix (ix_listK (K := K) rfl) (pv 3) (pv 4) (fun _ _ => rfl))) (pat_cons (CwR.PET.of pe_str) pat_nil))))) (pe_op op_mod (pv 5) pe_int) (fun _ _ => rfl)) (pg_sub (pv 3) (pv 4) set_list)))
          pss_nil)
        (pss_cons (ps_if (pt_cmpR op_eq (pv 1) pe_int (nomark _))
          (pss_one (ps_ret (pe_ix (ix_listK (K := K) rfl) (pe_lst (pa_cons (pe_op op_add_str pe_str (pv 0)) (pa_cons (pe_op op_add_str (pv 0) pe_str) (pa_cons pe_str (pa_cons pe_str pa_nil))))) (pe_op op_mod (pv 5) pe_int) (fun _ _ => rfl))))
          pss_nil)
        (pss_one (ps_ret (pe_joinK (K := K) rfl pe_str (pv 3)))))))))))), ?_⟩
    have s1 : (Str.length " ") = 1 := by decide +kernel
    have s2 : (Str.length "  ") = 2 := by decide +kernel
    have sn : (Str.length "\n") = 1 := by decide +kernel
    have s0 : (Str.length "") = 0 := by decide +kernel
    have s6 : (Str.length "people") = 6 := by decide +kernel
    have hpos1 := PyProof.Rows.split_pos t "\n"
    refine q_setH (h_split (v_var rfl) v_c (by decide) (by omega)) ?_
    rintro v H1 ⟨l, rfl, hl, rfl⟩
    have e1 := same_upd (o := .lst ((Txt.split t "\n").map V.str)) hl
    have hL : (upd H l (.lst ((Txt.split t "\n").map V.str))) l = some (.lst ((Txt.split t "\n").map V.str)) := upd_same
    have hw := wgt_split t "\n" (by omega)
    generalize Txt.split t "\n" = ss at *
    generalize (upd H l (.lst (ss.map V.str))) = H1 at *
    have hz0 : (0 : Int) < (((ss.map V.str).length : Nat) : Int) := by rw [List.length_map]; omega
    refine q_set (v := .int (c % (((ss.map V.str).length : Nat) : Int))) (v_I (i := c) (by kbo_bools) (by kbo_bools) hz0) ?_
    refine q_set (v := .int (c / 11 % (((ss.map V.str).length : Nat) : Int))) (v_I (i := c / 11) (by kbo_bools) (by kbo_bools) hz0) ?_
    have m1 := Int.emod_nonneg c (b := (((ss.map V.str).length : Nat) : Int)) (by omega)
    have m2 := Int.emod_lt_of_pos c hz0
    have m3 := Int.emod_nonneg (c / 11) (b := (((ss.map V.str).length : Nat) : Int)) (by omega)
    have m4 := Int.emod_lt_of_pos (c / 11) hz0
    generalize c % (((ss.map V.str).length : Nat) : Int) = pos at *
    generalize c / 11 % (((ss.map V.str).length : Nat) : Int) = far at *
    rw [List.length_map] at m2 m4
    have hssz := wgt_len ss
    have st0 : SpS H t way c pos far 147 ss.length [some (.str t), some (.int way), some (.int c), some (.ref l), some (.int pos), some (.int far)] H1 := ⟨l, ss, rfl, hl, e1, hL, by omega, Nat.le_refl _⟩
    have hm1 : 1 ≤ ss.length := hpos1
    generalize ss.length = m at m2 m4 st0 hm1
    clear hL hw hssz hz0 hpos1
    have B : ∀ j : Int, ∃ n : Nat, n = (if way ≤ j then 600 else 147) ∧ n ≤ 600 ∧ (¬ way ≤ j → n = 147) := fun j => by
      by_cases h : way ≤ j
      · exact ⟨600, by rw [if_pos h], by omega, fun z => absurd h z⟩
      · exact ⟨147, by rw [if_neg h], by omega, fun _ => rfl⟩
    have skip : ∀ {i j : Int} {σ' : St} {H' H'' : Hp}, i ≤ j → SpS H t way c pos far (if way ≤ i then 600 else 147) m σ' H' → Same H' H'' → SpS H t way c pos far (if way ≤ j then 600 else 147) m σ' H'' := fun {i j σ' H' H''} hij h e => by
      obtain ⟨l, ss, h0, h1, h2, h3, h4, h5⟩ := h
      refine ⟨l, ss, h0, h1, h2.trans e, e _ _ h3, ?_, h5⟩
      split at h4 <;> split <;> omega
    have orig : ∀ {i : Int} {σ' : St} {H' : Hp}, i < way → SpS H t way c pos far (if way ≤ i then 600 else 147) m σ' H' → SpS H t way c pos far 147 m σ' H' := fun {i σ' H'} hi h => by
      rw [if_neg (by omega)] at h
      exact h
    have done : ∀ {j : Int} {σ' : St} {H' : Hp}, way ≤ j → SpS H t way c pos far 600 m σ' H' → SpS H t way c pos far (if way ≤ j then 600 else 147) m σ' H' := fun {j σ' H'} hj h => by
      rw [if_pos hj]
      exact h
    have line : ∀ {l : Addr} {ss : List Str} {H' : Hp}, H' l = some (.lst (ss.map V.str)) → m ≤ ss.length → wgt ss ≤ 147 → ∃ x, ss[pos.toNat]? = some x ∧ x.length ≤ 146 ∧ Val (tOp (rIxL K) (tVar 3) (tVar 4)) [some (.str t), some (.int way), some (.int c), some (.ref l), some (.int pos), some (.int far)] H' (.str x) := by
      intro l ss H' h hm hw
      obtain ⟨x, h1, h2, h3⟩ := at_str (ss := ss) (k := pos) m1 (by omega)
      have := wgt_mem h2
      exact ⟨x, h3, by omega, v_ixL (v_var rfl) (v_var rfl) (SqL.of h) h1⟩
    -- 1, 2
    refine q_ifM (SpS H t way c pos far (if way ≤ 2 then 600 else 147) m) (b := decide (V.int way = V.int 1) || decide (V.int way = V.int 2)) (ag_of (by kbt_split)) (fun N k hb H2 e2 => ?_) (fun hb H2 e2 => ?_) ?_
    · have hb : way = 1 ∨ way = 2 := by simpa using hb
      obtain ⟨l, ss, eσ, g1, g2, g3, g4, g5⟩ := st0.same e2
      cases eσ
      obtain ⟨x, hx, hx2, hxv⟩ := line g3 g5 g4
      refine s_setLH (l := l) g3 (P := fun v H' => ∃ y, v = .str y ∧ Same H2 H' ∧ y.length ≤ 301) (h_joinSome s1 (fun Q q => ?_) (by decide)) (fun v H' z => by obtain ⟨_, _, z, _⟩ := z; exact z) (fun _ _ => v_var rfl) (fun _ _ => v_var rfl) (ix_nn m1 (by rw [List.length_map]; omega)) ?_
      · show tCons _ _ _ _ _
        refine avh_cons (h_split hxv v_c (by decide) (by omega)) ?_
        rintro v H3 ⟨p, rfl, hp, rfl⟩
        have e3 := same_upd (o := .lst ((Txt.split x " ").map V.str)) hp
        refine avh_cons (Val.h' (v := .int (c / 11)) (by kbo_bools)) ?_
        rintro v H4 ⟨rfl, rfl⟩
        have hw := wgt_split x " " (by omega)
        refine ⟨p, Txt.split x " ", c / 11, rfl, upd_same, PyProof.Rows.split_pos x " ", by omega, by omega, fun v H' h => ?_⟩
        obtain ⟨r, us, rfl, hr, e, h1, h2⟩ := h
        exact q _ _ ⟨r, us, rfl, e3.free hr, e3.trans e, h1, by omega⟩
      · rintro v H3 ⟨y, rfl, e3, hy⟩
        refine k _ _ (done (by omega) ⟨l, ss.set pos.toNat y, rfl, g1, same_mut (g2.trans e3) g1, by rw [upd_same, List.map_set], ?_, by rw [List.length_set]; exact g5⟩)
        have := wgt_set pos.toNat ss y
        omega
    · obtain ⟨l, ss, h0, h1, h2, h3, h4, h5⟩ := st0
      exact ⟨l, ss, h0, h1, h2.trans e2, e2 _ _ h3, by split <;> omega, h5⟩
    clear st0
    rintro σ1 H1 st
    -- 3
    refine q_ifM (SpS H t way c pos far (if way ≤ 3 then 600 else 147) m) (b := decide (V.int way = V.int 3)) (by obtain ⟨l, ss, rfl, _⟩ := st; exact ag_of (by kbt_split)) (fun N k hb H2 e2 => ?_) (fun hb H2 e2 => skip (by decide) st e2) ?_
    · have hb : way = 3 := by simpa using hb
      obtain ⟨l, ss, rfl, g1, g2, g3, g4, g5⟩ := (orig (by omega) st).same e2
      obtain ⟨x, hx, hx2, hxv⟩ := line g3 g5 g4
      refine s_drop_ (tq := tBM K "list" _ (tVar 3) (tCons (tVar 5) (tCons (tOp (rIxL K) (tVar 3) (tVar 4)) tNil))) ?_
      have hsl := wgt_len ss
      refine ⟨_, rfl, .inl ⟨rfl, _, SqL.of g3⟩, _, rfl, hxv _ ⟨l, ss.map V.str, far, .str x, rfl, rfl, g3, sz_lt (by rw [List.length_map]; omega), m3, by omega, k _ _ (done (by omega) ⟨l, ss.take far.toNat ++ [x] ++ ss.drop far.toNat, rfl, g1, same_mut g2 g1, ?_, ?_, ?_⟩)⟩⟩
      · rw [upd_same, List.map_append, List.map_append, List.map_take, List.map_drop]
        rfl
      · have w1 := wgt_take far.toNat ss
        have w2 := wgt_drop far.toNat ss
        rw [wgt_append, wgt_append, wgt_one]
        omega
      · simp
        omega
    clear st
    rintro σ1 H1 st
    -- 4
    refine q_ifM (SpS H t way c pos far (if way ≤ 4 then 600 else 147) m) (b := decide (V.int way = V.int 4)) (by obtain ⟨l, ss, rfl, _⟩ := st; exact ag_of (by kbt_split)) (fun N k hb H2 e2 => ?_) (fun hb H2 e2 => skip (by decide) st e2) ?_
    · have hb : way = 4 := by simpa using hb
      obtain ⟨l, ss, rfl, g1, g2, g3, g4, g5⟩ := (orig (by omega) st).same e2
      obtain ⟨x, hx, hx2, hxv⟩ := line g3 g5 g4
      have hsl := wgt_len ss
      have hps : pos.toNat < ss.length := by omega
      refine s_drop_ (tq := tBM K "list" _ (tVar 3) (tCons (tVar 5) (tCons (tBM K "list" rPopAt (tVar 3) (tCons (tVar 4) tNil)) tNil))) ?_
      refine ⟨_, rfl, .inl ⟨rfl, _, SqL.of g3⟩, _, rfl, _, rfl, .inl ⟨rfl, _, SqL.of g3⟩, _, rfl, l, ss.map V.str, pos, pos.toNat, .str x, rfl, rfl, g3, by omega, by omega, seqIndex_of m1 (by rw [List.length_map]; omega), by rw [List.getElem?_map, hx]; rfl, l, (ss.map V.str).eraseIdx pos.toNat, far, .str x, rfl, rfl, upd_same, sz_lt (by rw [List.length_eraseIdx]; split <;> (rw [List.length_map]; omega)), m3, by omega, k _ _ (done (by omega) ⟨l, (ss.eraseIdx pos.toNat).take far.toNat ++ [x] ++ (ss.eraseIdx pos.toNat).drop far.toNat, rfl, g1, same_mut (same_mut g2 g1) g1, ?_, ?_, ?_⟩)⟩
      · rw [upd_same, List.map_append, List.map_append, List.map_take, List.map_drop, eraseIdx_map']
        rfl
      · have w1 := wgt_take far.toNat (ss.eraseIdx pos.toNat)
        have w2 := wgt_drop far.toNat (ss.eraseIdx pos.toNat)
        have w3 : wgt (ss.eraseIdx pos.toNat) ≤ wgt ss := by
          rw [List.eraseIdx_eq_take_drop_succ, wgt_append]
          have a1 := wgt_take_drop ss pos.toNat
          have a2 : wgt (ss.drop (pos.toNat + 1)) ≤ wgt (ss.drop pos.toNat) := by
            rw [← List.drop_drop]
            exact wgt_drop 1 _
          omega
        rw [wgt_append, wgt_append, wgt_one]
        omega
      · simp only [List.length_append, List.length_take, List.length_drop, List.length_eraseIdx_of_lt hps, List.length_cons, List.length_nil]
        omega
    clear st
    rintro σ1 H1 st
    -- 5
    refine q_ifM (SpS H t way c pos far (if way ≤ 5 then 600 else 147) m) (b := decide (V.int way = V.int 5)) (by obtain ⟨l, ss, rfl, _⟩ := st; exact ag_of (by kbt_split)) (fun N k hb H2 e2 => ?_) (fun hb H2 e2 => skip (by decide) st e2) ?_
    · have hb : way = 5 := by simpa using hb
      obtain ⟨l, ss, rfl, g1, g2, g3, g4, g5⟩ := (orig (by omega) st).same e2
      obtain ⟨x, hx, hx2, hxv⟩ := line g3 g5 g4
      obtain ⟨z, hz1, hz2⟩ := at4s (a := " " ++ x) (b := x ++ " ") (c := Txt.replace x " " "  ") (d := "") (x := far)
      have hzl : z.length ≤ 300 := by
        simp only [List.mem_cons, List.not_mem_nil, or_false] at hz1
        rcases hz1 with rfl | rfl | rfl | rfl
        · rw [Str.length_append, s1]; omega
        · rw [Str.length_append, s1]; omega
        · have := repl_len x "  " 32 (by rw [s2]; omega)
          have e : (⟨#[32]⟩ : Str) = " " := by decide +kernel
          rw [e] at this
          omega
        · rw [s0]; omega
      refine s_setLH (l := l) g3 (h_ixLst (xs := [.str (" " ++ x), .str (x ++ " "), .str (Txt.replace x " " "  "), .str ""]) (i := far % 4) (av_cons (v_addS v_c hxv (by rw [s1]; omega)) (av_cons (v_addS hxv v_c (by rw [s1]; omega)) (av_cons (v_repl hxv (by rw [s2]; omega)) (av_cons v_c av_nil)))) (by show 4 ≤ 1000; decide) (fun H' e => by kbo_bools) hz2) (fun v H' z => z.2) (fun _ _ => v_var rfl) (fun _ _ => v_var rfl) (ix_nn m1 (by rw [List.length_map]; omega)) ?_
      rintro v H3 ⟨rfl, e3⟩
      refine k _ _ (done (by omega) ⟨l, ss.set pos.toNat z, rfl, g1, same_mut (g2.trans e3) g1, by rw [upd_same, List.map_set], ?_, by rw [List.length_set]; exact g5⟩)
      have := wgt_set pos.toNat ss z
      omega
    clear st
    rintro σ1 H1 ⟨l, ss, rfl, g1, g2, g3, g4, g5⟩
    have g4 : wgt ss ≤ 600 := by split at g4 <;> omega
    refine q_when (by kbt_split) (fun _ => ?_) (fun _ => ?_)
    · obtain ⟨z, hz1, hz2⟩ := at4s (a := "\n" ++ t) (b := t ++ "\n") (c := "") (d := "people") (x := far)
      have hzl : z.length ≤ 300 := by
        simp only [List.mem_cons, List.not_mem_nil, or_false] at hz1
        rcases hz1 with rfl | rfl | rfl | rfl
        · rw [Str.length_append, sn]; omega
        · rw [Str.length_append, sn]; omega
        · rw [s0]; omega
        · rw [s6]; omega
      exact s_retG (g_ixLst (xs := [.str ("\n" ++ t), .str (t ++ "\n"), .str "", .str "people"]) (i := far % 4) (av_cons (v_addS v_c (v_var rfl) (by rw [sn]; omega)) (av_cons (v_addS (v_var rfl) v_c (by rw [sn]; omega)) (av_cons v_c (av_cons v_c av_nil)))) (by show 4 ≤ 1000; decide) (fun H' e => by kbo_bools) hz2) fun H' e => q z H' (g2.trans e) (by omega)
    · have hj := wgt_join sn ss
      refine s_retG (v := .str (Txt.join "\n" ss)) (g_join v_c (ValH.imp (Val.h' (v := .ref l) (v_var rfl)) fun v H' ⟨a, b⟩ => ⟨l, a, by rw [b]; exact Same.refl _, by rw [b]; exact g3⟩) ?_) fun H' e => q _ H' (g2.trans e) (by omega)
      rw [sn]
      unfold wgt at g4
      omega
end
/-! ### what a text writes, told by the law -/
def sp_law_line (K : PySem.W.Frag) (C : Cs) : Sp := fun vs H Q _ => ∃ line name : Str, vs = [.str line, .str name] ∧ line.length ≤ 10000 ∧ (∀ l, lineZ name line = some l → RetInts l H Q) ∧ (lineZ name line = none → ∀ H', Same H H' → Q .non H')
/-- what is due: none, or a new pair of people and ways -/
def sp_law_due (K : PySem.W.Frag) (C : Cs) : Sp := fun vs H Q _ => ∃ t : Str, vs = [.str t] ∧ t.length ≤ 900 ∧ (∀ ps ws, readZ t = some (ps, ws) → RetPlot ps ws H Q) ∧ (readZ t = none → ∀ H', Same H H' → Q .non H')
/-- a row of four figures is a way of the house -/
theorem way_of_row {n : Int} {a b c d : Int} (ha : 0 ≤ a ∧ a ≤ 9) (hb : 0 ≤ b ∧ b ≤ 9) (hc : 0 ≤ c ∧ c ≤ 9) (hd : 0 ≤ d ∧ d ≤ 9) : wayOk n ⟨a, b, c, d⟩ = (decide (1 ≤ a ∧ a ≤ n) && (decide (0 ≤ b ∧ b ≤ n) && (!decide (a = b) && (!decide (c = 0) && decide (1 ≤ d ∧ d ≤ 6))))) := by
  rw [Bool.eq_iff_iff]
  simp [wayOk]
  omega
theorem houseOk_rows {ps : List Int} {ws : List Way} (h1 : 1 ≤ ps.length) (h2 : ps.length ≤ 4) (h3 : ws.length ≤ 10) (hp : ∀ x ∈ ps, 0 ≤ x ∧ x ≤ 9) (hw : ∀ x ∈ ws, wayOk ps.length x = true) : houseOk ps ws = true :=
  houseOk_iff.mpr ⟨⟨h1, h2, h3⟩, fun x hx => decide_eq_true (hp x hx), hw⟩
section
variable {P : Program} {w : World} {K : PySem.W.Frag} {mg : Str → Option Value} {base : Heap} {C : Cs}
abbrev N_law_line : List PySem.Str := ["line", "name", "words", "numbers", "word"]
theorem sc_law_line : FnScope N_law_line ["line", "name"] (defScope s_law_line) := ⟨rfl, rfl, rfl, by decide +kernel, rfl, by decide +kernel, by decide +kernel⟩
theorem c_law_line {f fd} (D : FnP K "_law_line" "_law_line" s_law_line f fd) (hm : mg "_law_line" = some (.ref f)) (G : Bn mg) : Cal P w K mg base CX0 1 "_law_line" (sp_law_line K C) := by
  refine cal_of D hm (D.ok sc_law_line (fun vs H Q E h => ?_) (fun cdv A outer s H vs Q E hr h => ?_)) (fun _ _ _ _ _ _ us hl => match us, hl with | [_, _], _ => rfl)
  · obtain ⟨line, name, rfl, hz, q, qn⟩ := h
    rfl
  · obtain ⟨line, name, rfl, hz, q, qn⟩ := h
    have hu := hu_of hr
    refine ⟨_, PSs.nox (pss_cons (ps_set (i := 2) sc_law_line.nd rfl (Or.inl rfl) (pe_split (pv 0) pe_str))
        (pss_cons (ps_if (pt_cmpR op_ne (pe_ix (ix_listK (K := K) rfl) (pv 2) pe_int (fun _ _ => rfl)) (pv 1) (nomark _))
          (pss_one (ps_ret pe_non))
          pss_nil)
        (pss_cons (ps_set (i := 3) sc_law_line.nd rfl (Or.inl rfl) (pe_lst pa_nil))
        (pss_cons (ps_for PassesOwn.never rfl (pi_listK (K := K) rfl (pe_slice (sl_listK (K := K) rfl) (pv 2) (po_some pe_int) po_none)) (pg_name (i := 4) sc_law_line.nd rfl (Or.inl rfl))
          (pss_cons (ps_if (PW.pt (pw_or (pt_cmpR op_ne (pe_callB (id := "len") call_len_str (by rfl) G.len_ (by decide +kernel) (pa_cons (pv 4) pa_nil)) pe_int (nomark _)) (pw_or1 (pt_cmpR op_notInS (pv 4) pe_str (by rfl)))))
              (pss_one (ps_ret pe_non))
              pss_nil)
            (pss_one (ps_expr (pe_bmK (K := K) rfl PySem.F.plainAttrs_list PySem.F.slot_list_append PySem.F.type_list_append mt_append (pv 3) (pa_cons (pe_m1 PySem.F.slot_str_index PySem.F.type_str_index mt_sindex pe_str (pv 4)) pa_nil))))))
        (pss_one (ps_ret (pv 3))))))), ?_⟩
    unfold lineZ at q qn
    have hsz : ∀ l ∈ Txt.split line " ", l.length ≤ line.length := fun l hl => PyProof.Rows.part_short hl
    have hspl := PyProof.Rows.split_le line " "
    refine q_setH (h_split (v_var rfl) v_c (by decide) (by omega)) ?_
    rintro v H1 ⟨p, rfl, hp, rfl⟩
    have e1 := same_upd (o := .lst ((Txt.split line " ").map V.str)) hp
    have hP : (upd H p (.lst ((Txt.split line " ").map V.str))) p = some (.lst ((Txt.split line " ").map V.str)) := upd_same
    generalize (upd H p (.lst ((Txt.split line " ").map V.str))) = H1 at *
    cases hs : Txt.split line " " with
    | nil => exact absurd hs (split_ne line " ")
    | cons w0 ws =>
      rw [hs] at hP q qn hsz hspl
      simp only at q qn
      refine q_when (b := !decide (V.str w0 = V.str name)) (a_test (v_ne (v_ixL (i := ((0 : Nat) : Int)) (v_var rfl) v_c (SqL.of hP) (atI_nat (j := 0) rfl)) (v_var rfl) rfl)) (fun hb => ?_) (fun hb => ?_)
      · have hb : ¬ w0 = name := by simpa using hb
        rw [if_neg hb] at qn
        exact s_ret v_c (qn rfl H1 e1)
      have hb : w0 = name := by simpa using hb
      rw [if_pos hb] at q qn
      refine q_setH (h_lst (xs := []) (by kxs_still) (by show 0 ≤ sizeLine; decide)) ?_
      rintro v H2 ⟨f, rfl, nf, rfl⟩
      have e2 := same_upd (o := .lst []) nf
      have hP2 := e2 _ _ hP
      have hF2 : (upd H1 f (.lst [])) f = some (.lst []) := upd_same
      have nf0 : H f = none := e1.free nf
      have e12 := e1.trans e2
      generalize (upd H1 f (.lst [])) = H2 at *
      refine q_forLH (h_tail (x := .str w0) (xs := ws.map V.str) (v_var rfl) hP2) ?_
      rintro v H3 ⟨r, rfl, nr, rfl⟩
      have e3 := same_upd (o := .lst (ws.map V.str)) nr
      have hR3 : (upd H2 r (.lst (ws.map V.str))) r = some (.lst (ws.map V.str)) := upd_same
      have hF3 := e3 _ _ hF2
      have e13 := e12.trans e3
      have hrf : r ≠ f := (ne_none hF2 nr).symm
      generalize (upd H2 r (.lst (ws.map V.str))) = H3 at *
      refine q_forL (p := r) (xs := ws.map V.str) v_c (SqL.of hR3) (fun i σ' H' => ∃ u l, σ' = [some (.str line), some (.str name), some (.ref p), some (.ref f), u] ∧ Same H H' ∧ H' r = some (.lst (ws.map V.str)) ∧ H' f = some (.lst (l.map V.int)) ∧ l.length = i ∧ numsZ ws = (numsZ (ws.drop i)).map (l ++ ·))
        ⟨none, [], rfl, e13, hR3, hF3, rfl, by rw [List.drop_zero]; cases numsZ ws <;> rfl⟩ (fun i σ' H' _ ⟨_, _, _, _, h, _⟩ => SqL.of h) ?_ ?_
      · rintro i v σ' H' hi ⟨u, l, rfl, e4, hr4, hf4, hl, hn⟩
        obtain ⟨w, rfl, hw, hwm⟩ := words_item hi
        have hwl := hsz w (List.mem_cons_of_mem _ hwm)
        have hi2 := (List.getElem?_eq_some_iff.mp hw).1
        rw [List.length_cons] at hspl
        obtain ⟨s1, s2⟩ := nums_step hw hn
        refine g_name ?_
        by_cases h1 : w.length = 1
        · obtain ⟨c, rfl⟩ := one_sign h1
          refine q_when (b := !decide (V.int ((Str.length ⟨#[c]⟩ : Nat) : Int) = V.int 1) || !decide (c ∈ FIG.cps.toList)) (a_or (a_test (v_ne (v_lenS (v_var rfl) (by omega)) v_c rfl)) fun _ => a_notInS (v_var rfl) v_c) (fun hb => ?_) (fun hb => ?_)
          · have hb : ¬ c ∈ FIG.cps.toList := by
              rw [h1] at hb
              simpa using hb
            refine s_ret v_c (qn (s1 ?_) _ e4)
            show (if c ∈ FIG.cps.toList then some ((c : Int) - 48) else none) = none
            rw [if_neg hb]
          · have hb : c ∈ FIG.cps.toList := by
              rw [h1] at hb
              simpa using hb
            obtain ⟨hc, rest, ho⟩ := fig_idx hb
            refine s_app (l := f) hf4 (v_var rfl) (v := .int ((c - 48 : Nat) : Int)) (v_idxS v_c (v_var rfl) ho) (sz_lt (by rw [List.length_map]; omega)) ⟨_, l ++ [((c - 48 : Nat) : Int)], rfl, same_mut e4 nf0, by rw [upd_ne hrf]; exact hr4, by rw [upd_same, List.map_append]; rfl, by simp [hl], s2 _ ?_⟩
            show (if c ∈ FIG.cps.toList then some ((c : Int) - 48) else none) = _
            rw [if_pos hb]
            congr 1
            omega
        · refine q_when (b := !decide (V.int ((w.length : Nat) : Int) = V.int 1) || true) (a_or (a_test (v_ne (v_lenS (v_var rfl) (by omega)) v_c rfl)) fun hb => ?_) (fun hb => ?_) (fun hb => by simp at hb)
          · simp at hb
            omega
          · refine s_ret v_c (qn (s1 ?_) _ e4)
            unfold figZ
            split
            · rename_i c hc
              exfalso
              apply h1
              show w.cps.size = 1
              rw [← Array.length_toList, hc]
              rfl
            · rfl
      · rintro σ' H' ⟨u, l, rfl, e4, hr4, hf4, hl, hn⟩
        rw [List.length_map, List.drop_length] at hn
        exact s_ret (v := .ref f) (v_var rfl) (q l (by rw [hn]; simp [numsZ]) f H' nf0 e4 hf4)
abbrev N_law_due : List PySem.Str := ["text", "lines", "people", "ways", "line", "row"]
theorem sc_law_due : FnScope N_law_due ["text"] (defScope s_law_due) := ⟨rfl, rfl, rfl, by decide +kernel, rfl, by decide +kernel, by decide +kernel⟩
theorem c_law_due {f fd} (D : FnP K "_law_due" "_law_due" s_law_due f fd) (hm : mg "_law_due" = some (.ref f)) (G : Bn mg) (c_law_line : Cal P w K mg base CX0 1 "_law_line" (sp_law_line K C)) : Cal P w K mg base CX0 2 "_law_due" (sp_law_due K C) := by
  refine cal_of D hm (D.ok sc_law_due (fun vs H Q E h => ?_) (fun cdv A outer s H vs Q E hr h => ?_)) (fun _ _ _ _ _ _ us hl => match us, hl with | [_], _ => rfl)
  · obtain ⟨t, rfl, hz, q, qn⟩ := h
    rfl
  · obtain ⟨t, rfl, hz, q, qn⟩ := h
    have hu := hu_of hr
    refine ⟨_, PSs.nox (pss_cons (ps_set (i := 1) sc_law_due.nd rfl (Or.inl rfl) (pe_split (pv 0) pe_str))
        (pss_cons (ps_set (i := 2) sc_law_due.nd rfl (Or.inl rfl) (pe_c c_law_line hr (by decide) pass0 rfl (pa_cons (pe_ix (ix_listK (K := K) rfl) (pv 1) pe_int (fun _ _ => rfl)) (pa_cons pe_str pa_nil))))
        (pss_cons (ps_if (PW.pt (pw_or (pt_cmpR op_isN (pv 2) pe_non (nomark _)) (pw_or (pt_not (pt_chain op_le op_le pe_int (pe_callB (id := "len") (call_len_seqK (K := K) rfl) (by rfl) G.len_ (by decide +kernel) (pa_cons (pv 2) pa_nil)) pe_int)) (pw_or1 (pt_cmpR op_gt (pe_callB (id := "len") (call_len_seqK (K := K) rfl) (by rfl) G.len_ (by decide +kernel) (pa_cons (pv 1) pa_nil)) pe_int (nomark _))))))
          (pss_one (ps_ret pe_non))
          pss_nil)
        (pss_cons (ps_set (i := 3) sc_law_due.nd rfl (Or.inl rfl) (pe_lst pa_nil))
        (pss_cons (ps_for PassesOwn.never rfl (pi_listK (K := K) rfl (pe_slice (sl_listK (K := K) rfl) (pv 1) (po_some pe_int) po_none)) (pg_name (i := 4) sc_law_due.nd rfl (Or.inl rfl))
          (pss_cons (ps_set (i := 5) sc_law_due.nd rfl (Or.inl rfl) (pe_c c_law_line hr (by decide) pass0 rfl (pa_cons (pv 4) (pa_cons pe_str pa_nil))))
            (pss_cons (ps_if (PW.pt (pw_or (pt_cmpR op_isN (pv 5) pe_non (nomark _)) (pw_or (pt_cmpR op_ne (pe_callB (id := "len") (call_len_seqK (K := K) rfl) (by rfl) G.len_ (by decide +kernel) (pa_cons (pv 5) pa_nil)) pe_int (nomark _)) (pw_or (pt_not (pt_chain op_le op_le pe_int (pe_ix (ix_listK (K := K) rfl) (pv 5) pe_int (fun _ _ => rfl)) (pe_callB (id := "len") (call_len_seqK (K := K) rfl) (by rfl) G.len_ (by decide +kernel) (pa_cons (pv 2) pa_nil)))) (pw_or1 (pt_not (pt_chain op_le op_le pe_int (pe_ix (ix_listK (K := K) rfl) (pv 5) pe_int (fun _ _ => rfl)) (pe_callB (id := "len") (call_len_seqK (K := K) rfl) (by rfl) G.len_ (by decide +kernel) (pa_cons (pv 2) pa_nil)))))))))
              (pss_one (ps_ret pe_non))
              pss_nil)
            (pss_cons (ps_if (PW.pt (pw_or (pt_cmpR op_eq (pe_ix (ix_listK (K := K) rfl) (pv 5) pe_int (fun _ _ => rfl)) (pe_ix (ix_listK (K := K) rfl) (pv 5) pe_int (fun _ _ => rfl)) (nomark _)) (pw_or (pt_cmpR op_eq (pe_ix (ix_listK (K := K) rfl) (pv 5) pe_int (fun _ _ => rfl)) pe_int (nomark _)) (pw_or1 (pt_not (pt_chain op_le op_le pe_int (pe_ix (ix_listK (K := K) rfl) (pv 5) pe_int (fun _ _ => rfl)) pe_int))))))
              (pss_one (ps_ret pe_non))
              pss_nil)
            (pss_one (ps_expr (pe_bmK (K := K) rfl PySem.F.plainAttrs_list PySem.F.slot_list_append PySem.F.type_list_append mt_append (pv 3) (pa_cons (pe_callTy (T := "tuple") (call_tuple_ofK (K := K) rfl) (by rfl) G.tuple_ (by decide +kernel) (pa_cons (pv 5) pa_nil)) pa_nil))))))))
        (pss_one (ps_ret (pe_tup (pa_cons (pv 2) (pa_cons (pv 3) pa_nil)))))))))), ?_⟩
    have hsz : ∀ l ∈ Txt.split t "\n", l.length ≤ t.length := fun l hl => PyProof.Rows.part_short hl
    have hspl := PyProof.Rows.split_le t "\n"
    unfold readZ at q qn
    refine q_setH (h_split (v_var rfl) v_c (by decide) (by omega)) ?_
    rintro v H1 ⟨p, rfl, hp, rfl⟩
    have e1 := same_upd (o := .lst ((Txt.split t "\n").map V.str)) hp
    have hP : (upd H p (.lst ((Txt.split t "\n").map V.str))) p = some (.lst ((Txt.split t "\n").map V.str)) := upd_same
    generalize (upd H p (.lst ((Txt.split t "\n").map V.str))) = H1 at *
    cases hs : Txt.split t "\n" with
    | nil => exact absurd hs (split_ne t "\n")
    | cons l0 ls =>
      rw [hs] at hP q qn hsz hspl
      simp only at q qn
      have hl0 := hsz l0 List.mem_cons_self
      have hlen : (((l0 :: ls).map V.str).length : Nat) = ls.length + 1 := by simp
      cases hps : lineZ "people" l0 with
      | none =>
        rw [hps] at qn
        refine q_setG (v := .non) (g_call (vs := [.str l0, .str "people"]) (av_cons (v_ixL (i := ((0 : Nat) : Int)) (v_var rfl) v_c (SqL.of hP) (atI_nat (j := 0) rfl)) (av_cons v_c av_nil)) fun Q q => ⟨l0, "people", rfl, by omega, (fun l hl => by rw [hps] at hl; cases hl), fun _ H' e => q H' e⟩) fun H2 e2 => ?_
        refine q_when (b := decide (V.non = V.non) || true) (a_or (a_test (v_isN (x := .non) (v_var rfl))) fun hb => by simp at hb) (fun hb => ?_) (fun hb => by simp at hb)
        exact s_ret v_c (qn rfl H2 (e1.trans e2))
      | some ps =>
        rw [hps] at q qn
        simp only at q qn
        have hpsl : ∀ x ∈ ps, 0 ≤ x ∧ x ≤ 9 := by
          unfold lineZ at hps
          split at hps
          · split at hps
            · exact (numsZ_b hps).1
            · cases hps
          · cases hps
        refine q_setH (P := fun v H2 => ∃ x, v = .ref x ∧ H1 x = none ∧ Same H1 H2 ∧ H2 x = some (.lst (ps.map V.int))) (h_call (vs := [.str l0, .str "people"]) (av_cons (v_ixL (i := ((0 : Nat) : Int)) (v_var rfl) v_c (SqL.of hP) (atI_nat (j := 0) rfl)) (av_cons v_c av_nil)) fun Q q => ⟨l0, "people", rfl, by omega, fun l hl x H' h1 h2 h3 => by
          rw [hps] at hl
          cases hl
          exact q _ _ ⟨x, rfl, h1, h2, h3⟩, fun hno => by rw [hps] at hno; cases hno⟩) ?_
        rintro v H2 ⟨x, rfl, nx, e2, hx⟩
        have hP2 := e2 _ _ hP
        have e12 := e1.trans e2
        refine q_when (b := decide (V.ref x = V.non) || (!(decide ((1 : Int) ≤ ((ps.map V.int).length : Nat)) && decide ((((ps.map V.int).length : Nat) : Int) ≤ 4)) || decide ((11 : Int) < (((l0 :: ls).map V.str).length : Nat)))) (a_or (a_test (v_isN (x := .ref x) (v_var rfl))) fun _ => a_or (a_not (a_chain v_c (v_len (v_var rfl) (SqL.of hx)) v_c)) fun _ => a_I0 (v_len (v_var rfl) (SqL.of hP2)) v_c) (fun hb => ?_) (fun hb => ?_)
        · refine s_ret v_c (qn ?_ H2 e12)
          rw [List.length_map, hlen] at hb
          cases hrw : rowsZ ls with
          | none => rfl
          | some ws =>
            have hwl := rowsZ_len hrw
            have : houseOk ps ws = false := by
              rw [← Bool.not_eq_true]
              intro ho
              have := (houseOk_iff.mp ho).1
              simp at hb
              omega
            simp only [this]
            rfl
        rw [List.length_map, hlen] at hb
        have hb : (1 ≤ ps.length ∧ ps.length ≤ 4) ∧ ls.length ≤ 10 := by
          simp at hb
          omega
        refine q_setH (h_lst (xs := []) (by kxs_still) (by show 0 ≤ sizeLine; decide)) ?_
        rintro v H3 ⟨y, rfl, ny, rfl⟩
        have e3 := same_upd (o := .lst []) ny
        have hY3 : (upd H2 y (.lst [])) y = some (.lst []) := upd_same
        have hx3 := e3 _ _ hx
        have hP3 := e3 _ _ hP2
        have e13 := e12.trans e3
        have ny0 : H y = none := e12.free ny
        have hxy : x ≠ y := ne_none hx ny
        generalize (upd H2 y (.lst [])) = H3 at *
        refine q_forLH (h_tail (x := .str l0) (xs := ls.map V.str) (v_var rfl) hP3) ?_
        rintro v H4 ⟨r, rfl, nr, rfl⟩
        have e4 := same_upd (o := .lst (ls.map V.str)) nr
        have hR4 : (upd H3 r (.lst (ls.map V.str))) r = some (.lst (ls.map V.str)) := upd_same
        have hY4 := e4 _ _ hY3
        have hx4 := e4 _ _ hx3
        have e14 := e13.trans e4
        have hry : r ≠ y := (ne_none hY3 nr).symm
        generalize (upd H3 r (.lst (ls.map V.str))) = H4 at *
        refine q_forL (p := r) (xs := ls.map V.str) v_c (SqL.of hR4) (fun i σ' H' => ∃ u4 u5 acc wls, σ' = [some (.str t), some (.ref p), some (.ref x), some (.ref y), u4, u5] ∧ Same H H' ∧ H' r = some (.lst (ls.map V.str)) ∧ H' x = some (.lst (ps.map V.int)) ∧ H' y = some (.lst (acc.map V.ref)) ∧ WaysAt H' acc wls ∧ wls.length = i ∧ (∀ z ∈ wls, wayOk ps.length z = true) ∧ rowsZ ls = (rowsZ (ls.drop i)).map (wls ++ ·))
          ⟨none, none, [], [], rfl, e14, hR4, hx4, hY4, .nil, rfl, fun z hz => by simp at hz, by rw [List.drop_zero]; cases rowsZ ls <;> rfl⟩ (fun i σ' H' _ ⟨_, _, _, _, _, _, h, _⟩ => SqL.of h) ?_ ?_
        · rintro i v σ' H' hi ⟨u4, u5, acc, wls, rfl, e5, hr5, hx5, hy5, hW5, hwl, hwo, hrow⟩
          obtain ⟨l, rfl, hl, hlm⟩ := words_item hi
          have hll := hsz l (List.mem_cons_of_mem _ hlm)
          have hi3 := (List.getElem?_eq_some_iff.mp hl).1
          obtain ⟨s1, s2⟩ := rows_step hl hrow
          have hal := hW5.len
          refine g_name ?_
          -- not a way of this house: nothing is due
          have bad : (rowZ l = none ∨ ∃ z, rowZ l = some z ∧ wayOk ps.length z = false) → ∀ H9, Same H H9 → Q .non H9 := by
            intro h H9 e9
            rcases h with h | ⟨z, h, hz⟩
            · exact qn (by rw [s1 h]) H9 e9
            · refine qn ?_ H9 e9
              have hr := s2 z h
              cases hd : rowsZ (ls.drop (i + 1)) with
              | none =>
                rw [hr, hd]
                rfl
              | some r =>
                rw [hr, hd]
                have : houseOk ps (wls ++ [z] ++ r) = false := by
                  rw [← Bool.not_eq_true]
                  intro ho
                  have := (houseOk_iff.mp ho).2.2 z (by simp)
                  rw [hz] at this
                  cases this
                show (if houseOk ps (wls ++ [z] ++ r) = true then some (ps, wls ++ [z] ++ r) else none) = none
                rw [this]
                rfl
          cases hlz : lineZ "way" l with
          | none =>
            have hrz : rowZ l = none := by rw [rowZ, hlz]
            refine q_setG (v := .non) (g_call (vs := [.str l, .str "way"]) (av_cons (v_var rfl) (av_cons v_c av_nil)) fun Q q => ⟨l, "way", rfl, by omega, (fun l hl => by rw [hlz] at hl; cases hl), fun _ H' e => q H' e⟩) fun H6 e6 => ?_
            refine q_when (b := decide (V.non = V.non) || true) (a_or (a_test (v_isN (x := .non) (v_var rfl))) fun hb => by simp at hb) (fun hb => ?_) (fun hb => by simp at hb)
            exact s_ret v_c (bad (.inl hrz) H6 (e5.trans e6))
          | some row =>
            have hrb : ∀ x ∈ row, 0 ≤ x ∧ x ≤ 9 := by
              unfold lineZ at hlz
              split at hlz
              · split at hlz
                · exact (numsZ_b hlz).1
                · cases hlz
              · cases hlz
            refine q_setH (P := fun v H6 => ∃ z, v = .ref z ∧ H' z = none ∧ Same H' H6 ∧ H6 z = some (.lst (row.map V.int))) (h_call (vs := [.str l, .str "way"]) (av_cons (v_var rfl) (av_cons v_c av_nil)) fun Q q => ⟨l, "way", rfl, by omega, fun l' hl' z H' h1 h2 h3 => by
              rw [hlz] at hl'
              cases hl'
              exact q _ _ ⟨z, rfl, h1, h2, h3⟩, fun hno => by rw [hlz] at hno; cases hno⟩) ?_
            rintro v H6 ⟨z, rfl, nz, e6, hz6⟩
            have e56 := e5.trans e6
            have hx6 := e6 _ _ hx5
            have hzx : Val (tVar 5) [some (.str t), some (.ref p), some (.ref x), some (.ref y), some (.str l), some (.ref z)] H6 (.ref z) := v_var rfl
            by_cases h4 : row.length = 4
            · obtain ⟨n1, n2, n3, n4, rfl⟩ : ∃ a b c d, row = [a, b, c, d] := by
                match row, h4 with
                | [a, b, c, d], _ => exact ⟨a, b, c, d, rfl⟩
              have hrz : rowZ l = some ⟨n1, n2, n3, n4⟩ := by rw [rowZ, hlz]
              have b1 := hrb n1 (by simp)
              have b2 := hrb n2 (by simp)
              have b3 := hrb n3 (by simp)
              have b4 := hrb n4 (by simp)
              have hwy := way_of_row (n := ps.length) b1 b2 b3 b4
              have it : ∀ {j : Nat} {m : Int}, [n1, n2, n3, n4][j]? = some m → Val (tOp (rIxL K) (tVar 5) (tC (.int j))) [some (.str t), some (.ref p), some (.ref x), some (.ref y), some (.str l), some (.ref z)] H6 (.int m) := fun {j m} h => v_ixL (i := (j : Int)) hzx v_c (SqL.of hz6) (atI_nat (by rw [List.getElem?_map, h]; rfl))
              have ln : Val (tCB (rLenQ K) (tCons (tVar 2) tNil)) [some (.str t), some (.ref p), some (.ref x), some (.ref y), some (.str l), some (.ref z)] H6 (.int ((ps.map V.int).length : Nat)) := v_len (v_var rfl) (SqL.of hx6)
              refine q_when (b := decide (V.ref z = V.non) || (!decide (V.int (([n1, n2, n3, n4].map V.int).length : Nat) = V.int 4) || (!(decide (1 ≤ n1) && decide (n1 ≤ ((ps.map V.int).length : Nat))) || !(decide (0 ≤ n2) && decide (n2 ≤ ((ps.map V.int).length : Nat)))))) (a_or (a_test (v_isN (x := .ref z) hzx)) fun _ => a_or (a_test (v_ne (v_len hzx (SqL.of hz6)) v_c rfl)) fun _ => a_or (a_not (a_chain v_c (it (j := 0) rfl) ln)) fun _ => a_not (a_chain v_c (it (j := 1) rfl) ln)) (fun hb => ?_) (fun hb => ?_)
              · refine s_ret v_c (bad (.inr ⟨_, hrz, ?_⟩) H6 e56)
                rw [hwy, List.length_map] at *
                rw [← Bool.not_eq_true]
                intro hh
                simp at hb hh
                omega
              refine q_when (b := decide (V.int n1 = V.int n2) || (decide (V.int n3 = V.int 0) || !(decide (1 ≤ n4) && decide (n4 ≤ 6)))) (a_or (a_test (v_eq (it (j := 0) rfl) (it (j := 1) rfl) rfl)) fun _ => a_or (a_test (v_eq (it (j := 2) rfl) v_c rfl)) fun _ => a_not (a_chain v_c (it (j := 3) rfl) v_c)) (fun hb2 => ?_) (fun hb2 => ?_)
              · refine s_ret v_c (bad (.inr ⟨_, hrz, ?_⟩) H6 e56)
                rw [hwy]
                rw [← Bool.not_eq_true]
                intro hh
                simp at hb2 hh
                omega
              · have hway : wayOk ps.length ⟨n1, n2, n3, n4⟩ = true := by
                  rw [hwy]
                  rw [List.length_map] at hb
                  simp at hb hb2 ⊢
                  omega
                have hy6 := e6 _ _ hy5
                refine s_appH (l := y) hy6 (v_var rfl) (P := fun v H7 => ∃ q, v = .ref q ∧ Same H6 H7 ∧ H7 q = some (.tup (wayV ⟨n1, n2, n3, n4⟩))) (fun Q q => hzx _ ⟨z, _, rfl, .inl ⟨SqL.of hz6, fun tt htt => q _ _ ⟨tt, rfl, same_upd htt, upd_same⟩⟩⟩) (by rw [List.length_map]; omega) (fun v H7 z => by obtain ⟨_, _, z, _⟩ := z; exact z) ?_
                rintro v H7 ⟨qq, rfl, e7, hq7⟩
                have hy7 := e7 _ _ hy6
                have kp : ∀ c o, H7 c = some o → c ≠ y → (upd H7 y (.lst (acc.map V.ref ++ [.ref qq]))) c = some o := fun c o hc hcy => by rw [upd_ne hcy]; exact hc
                refine ⟨_, _, acc ++ [qq], wls ++ [⟨n1, n2, n3, n4⟩], rfl, same_mut (e56.trans e7) ny0, kp _ _ (e7 _ _ (e6 _ _ hr5)) hry, kp _ _ (e7 _ _ hx6) hxy, by rw [upd_same, List.map_append]; rfl, ?_, by simp [hwl], fun u hu => ?_, s2 _ hrz⟩
                · refine All2.appendT (All2.imp ((hW5.same e6).same e7) fun c u hc => ?_) (.cons ?_ .nil)
                  · have hc : H7 c = some (.tup (wayV u)) := hc
                    exact kp _ _ hc (ne_of hc hy7 (by intro z; cases z))
                  · exact kp _ _ hq7 (ne_of hq7 hy7 (by intro z; cases z))
                · rcases List.mem_append.mp hu with hu | hu
                  · exact hwo u hu
                  · rw [List.mem_singleton] at hu
                    rw [hu]
                    exact hway
            · have hrz : rowZ l = none := by
                rw [rowZ, hlz]
                match row, h4 with
                | [], _ => rfl
                | [_], _ => rfl
                | [_, _], _ => rfl
                | [_, _, _], _ => rfl
                | [_, _, _, _], h => exact absurd rfl h
                | _ :: _ :: _ :: _ :: _ :: _, _ => rfl
              refine q_when (b := decide (V.ref z = V.non) || (!decide (V.int ((row.map V.int).length : Nat) = V.int 4) || true)) (a_or (a_test (v_isN (x := .ref z) hzx)) fun _ => a_or (a_test (v_ne (v_len hzx (SqL.of hz6)) v_c rfl)) fun hb => by
                rw [List.length_map] at hb
                simp at hb
                omega) (fun hb => ?_) (fun hb => by simp at hb)
              exact s_ret v_c (bad (.inl hrz) H6 e56)
        · rintro σ' H' ⟨u4, u5, acc, wls, rfl, e5, hr5, hx5, hy5, hW5, hwl, hwo, hrow⟩
          rw [List.length_map, List.drop_length] at hrow
          have hrow : rowsZ ls = some wls := by
            rw [hrow]
            simp [rowsZ]
          rw [List.length_map] at hwl
          have hok := houseOk_rows hb.1.1 hb.1.2 (by omega) hpsl hwo
          refine s_retH (h_tup (xs := [.ref x, .ref y]) (av_cons (v_var rfl) (av_cons (v_var rfl) av_nil)) (by show 2 ≤ sizeLine; decide)) ?_
          rintro v H6 ⟨g, rfl, hg, rfl⟩
          have e6 := same_upd (o := .tup [.ref x, .ref y]) hg
          refine q ps wls (by rw [hrow]; simp only [hok]; rfl) g x y acc _ (e5.free hg) (e5.trans e6) ⟨upd_same, e6 _ _ hx5, e6 _ _ hy5, hW5.same e6⟩
end
theorem s_setCallS {D : Ends} {σ : St} {H : Hp} {n : Nat} {tr : TA} {vs : List V} {sp : Sp} {E : St → XK} (ht : AV tr σ H vs)
   (hs : sp vs H (fun v H2 => D.nx (σ.set n (some v)) H2) (E σ)) : tAsg (tCallS sp E tr) (gName n) D σ H := ht _ hs
def sp_law_told (K : PySem.W.Frag) (C : Cs) : Sp := fun vs H Q _ => ∃ t : Str, vs = [.str t] ∧ t.length ≤ 900 ∧ (∀ ps ws, readZ t = some (ps, ws) → ∀ h as H', Same H H' → HouseAt C H' h as ps ws → Q (.ref h) H') ∧ (readZ t = none → ∀ a H', Same H H' → H' a = some (ExK (.ref C.NoText) a) → Q (.ref a) H')
def sp_law (K : PySem.W.Frag) (C : Cs) : Sp := fun vs H Q _ => ∃ (a : Addr) (ns : List Int), vs = [.ref a] ∧ SqL K H a (ns.map V.int) ∧ ns.length ≤ 63 ∧ ∀ H', Q (.bl true) H'
section
variable {P : Program} {w : World} {K : PySem.W.Frag} {mg : Str → Option Value} {base : Heap} {C : Cs}
abbrev N_law_told : List PySem.Str := ["text", "found", "e"]
theorem sc_law_told : FnScope N_law_told ["text"] (defScope s_law_told) := ⟨rfl, rfl, rfl, by decide +kernel, rfl, by decide +kernel, by decide +kernel⟩
theorem c_law_told {f fd} (D : FnP K "_law_told" "_law_told" s_law_told f fd) (hm : mg "_law_told" = some (.ref f)) (G : Bn mg) (g_HallError : mg "HallError" = some (.ref C.HallError)) (mx_NoText_HallError : PySem.W.exmOne K (.ref C.NoText) (.ref C.HallError) = some true) (c_read : Cal P w K mg base (L2.CX P w) 4 "read" (sp_read K C)) : Cal P w K mg base CX0 5 "_law_told" (sp_law_told K C) := by
  refine cal_of D hm (D.ok sc_law_told (fun vs H Q E h => ?_) (fun cdv A outer s H vs Q E hr h => ?_)) (fun _ _ _ _ _ _ us hl => match us, hl with | [_], _ => rfl)
  · obtain ⟨t, rfl, hz, q1, q2⟩ := h
    rfl
  · obtain ⟨t, rfl, hz, q1, q2⟩ := h
    have hu := hu_of hr
    refine ⟨_, PSs.nox (pss_cons (ps_set (i := 1) sc_law_told.nd rfl (Or.inl rfl) pe_non)
        (pss_cons (ps_try_keep (K := K) (i := 2) (Wout := fun _ _ _ _ => False) rfl rfl rfl rfl sc_law_told.nd rfl rfl ⟨rfl, by decide, Or.inl g_HallError⟩ takes0
          (fun W pn xe tk _ => (pss_one (ps_set (i := 1) sc_law_told.nd rfl (Or.inl rfl) (pe_cS c_read hr (by decide) (fun σ => passAt tk σ) rfl (pa_cons (pv 0) pa_nil)))))
          (fun a oe cls d pn hz hf => (pss_one (ps_set (i := 1) sc_law_told.nd rfl (Or.inl rfl) (pv 2)))))
        (pss_one (ps_ret (pv 1))))), ?_⟩
    kopn_word
    refine q_seq ?_
    refine s_setCallS (vs := [.str t]) (av_cons (v_var rfl) av_nil) ?_
    refine ⟨t, rfl, hz, fun ps ws hr h as H' e hh => ?_, fun hno H' e => ?_⟩
    · show tRet (tVar 1) _ _ _
      exact s_ret (v := .ref h) (v_var rfl) (q1 ps ws hr h as H' e hh)
    · refine ⟨true, mx_NoText_HallError, fun _ => ⟨rfl, fun a ha => ?_⟩, fun z => nomatch z⟩
      refine s_set (v := .ref a) (v_var rfl) ?_
      show tRet (tVar 1) _ _ _
      exact s_ret (v := .ref a) (v_var rfl) (q2 hno a _ (e.trans (same_upd ha)) upd_same)
abbrev N_law : List PySem.Str := ["script", "text", "due", "turn", "found"]
theorem sc_law : FnScope N_law ["script"] (defScope s_law) := ⟨rfl, rfl, rfl, by decide +kernel, rfl, by decide +kernel, by decide +kernel⟩
theorem ok_law {f fd} (D : FnP K "law" "law" s_law f fd) (G : Bn mg) (g_House : mg "House" = some (.ref C.House)) (XH : C8.InsC K C.House) (A_NoText : AloneC K C C.NoText 3) (c_law_spoiled : Cal P w K mg base CX0 2 "_law_spoiled" (sp_law_spoiled K C)) (c_law_due : Cal P w K mg base CX0 2 "_law_due" (sp_law_due K C)) (c_law_shown : Cal P w K mg base CX0 1 "_law_shown" (sp_law_shown K C)) (c_law_draw : Cal P w K mg base CX0 2 "_law_draw" (sp_law_draw K C)) (c_law_told : Cal P w K mg base CX0 5 "_law_told" (sp_law_told K C)) (c_law_house : Cal P w K mg base CX0 4 "_law_house" (sp_law_house K C)) (c_law_alone : Cal P w K mg base CX0 1 "_law_alone" (sp_law_alone K C)) (c_House_people : Met P w K mg base CX0 1 C.House "people" (sp_House_people K C)) (c_House_ways : Met P w K mg base CX0 1 C.House "ways" (sp_House_ways K C)) : FnOk P w K mg base CX0 6 f fd ["script"] (sp_law K C) := by
  refine D.ok sc_law (fun vs H Q E h => ?_) (fun cdv A outer s H vs Q E hr h => ?_)
  · obtain ⟨a, ns, rfl, hS, hz, q⟩ := h
    rfl
  · obtain ⟨a, ns, rfl, hS, hz, q⟩ := h
    have hu := hu_of hr
    refine ⟨_, PSs.nox (pss_cons (ps_set (i := 1) sc_law.nd rfl (Or.inl rfl) (pe_c c_law_spoiled hr (by decide) pass0 rfl (pa_cons (pe_c c_law_shown hr (by decide) pass0 rfl (pa_cons (pe_c c_law_house hr (by decide) pass0 rfl (pa_cons (pv 0) pa_nil)) pa_nil)) (pa_cons (pe_op op_mod (pe_c c_law_draw hr (by decide) pass0 rfl (pa_cons (pv 0) (pa_cons pe_int pa_nil))) pe_int) (pa_cons (pe_c c_law_draw hr (by decide) pass0 rfl (pa_cons (pv 0) (pa_cons pe_int pa_nil))) pa_nil)))))
        (pss_cons (ps_set (i := 2) sc_law.nd rfl (Or.inl rfl) (pe_c c_law_due hr (by decide) pass0 rfl (pa_cons (pv 1) pa_nil)))
        (pss_cons (ps_for PassesOwn.never rfl (pi_range1 rfl G.range_ (pa_cons pe_int pa_nil)) (pg_name (i := 3) sc_law.nd rfl (Or.inl rfl))
          (pss_cons (ps_set (i := 4) sc_law.nd rfl (Or.inl rfl) (pe_c c_law_told hr (by decide) pass0 rfl (pa_cons (pv 1) pa_nil)))
            (pss_cons (ps_if (PW.pt (pw_and (pt_cmpR op_isN (pv 2) pe_non (nomark _)) (pw_and1 (pt_cmpR op_ne (pe_c c_law_alone hr (by decide) pass0 rfl (pa_cons (pv 4) pa_nil)) pe_int (nomark _)))))
              (pss_one (ps_ret pe_bl))
              pss_nil)
            (pss_cons (ps_if (PW.pt (pw_and (pt_cmpR op_notN (pv 2) pe_non (nomark _)) (pw_and1 (pt_not (pt_val (pe_callB (id := "isinstance") (call_isCK (K := K) rfl XH) (by rfl) G.isinstance_ (by decide +kernel) (pa_cons (pv 4) (pa_cons (pe_glob (v := .ref C.House) rfl g_House rfl) pa_nil))))))))
              (pss_one (ps_ret pe_bl))
              pss_nil)
            (pss_one (ps_if (PW.pt (pw_and (pt_cmpR op_notN (pv 2) pe_non (nomark _)) (pw_and1 (PW.pt (pw_or (pt_cmpR (op_neDK (K := K) rfl hr.units) (pe_mt0 c_House_people hr (by decide) pass0 (pv 4)) (pe_ix (ix_tupK (K := K) rfl) (pv 2) pe_int (fun _ _ => rfl)) (nomark _)) (pw_or1 (pt_cmpR (op_neDK (K := K) rfl hr.units) (pe_mt0 c_House_ways hr (by decide) pass0 (pv 4)) (pe_ix (ix_tupK (K := K) rfl) (pv 2) pe_int (fun _ _ => rfl)) (nomark _))))))))
              (pss_one (ps_ret pe_bl))
              pss_nil))))))
        (pss_one (ps_ret pe_bl))))), ?_⟩
    have hok := house_ok ns
    have d91 := draw_nn ns 91
    have d92 := draw_nn ns 92
    obtain ⟨⟨h1, h2, h3⟩, hpk, hwk⟩ := houseOk_iff.mp hok
    have hlen := text_len (ps := folkZ ns) (ws := waysZ ns) (n := (folkZ ns).length) (by omega) (folk_figs hpk) h2 h3 hwk
    refine q_setH (P := fun v H1 => ∃ t, v = .str t ∧ Same H H1 ∧ t.length ≤ 900) (fun Q q => ?_) ?_
    · show tCons _ _ _ _ _
      refine avh_cons (P := fun v H1 => v = .str (textZ (folkZ ns) (waysZ ns)) ∧ Same H H1) (fun Q q => ?_) ?_
      · show tCons _ _ _ _ _
        refine avh_cons (h_plot (v_var rfl) hS) ?_
        rintro v H1 ⟨p, pl, wl, as, rfl, e1, hP⟩
        exact ⟨p, pl, wl, as, _, _, rfl, hP, hok, q _ _ ⟨rfl, e1⟩⟩
      rintro v H1 ⟨rfl, e1⟩
      have hS1 := Evl.ex_l e1 hS
      refine avh_cons (Val.h' (v := .int (drawZ ns 91 % 7)) (by kbo_bools)) ?_
      rintro v H2 ⟨rfl, rfl⟩
      refine avh_cons (Val.h' (v := .int (drawZ ns 92)) (by kbo_bools)) ?_
      rintro v H2 ⟨rfl, rfl⟩
      exact ⟨_, _, _, rfl, hlen, d92, fun t' H' e ht => q _ _ ⟨t', rfl, e1.trans e, ht⟩⟩
    rintro v H1 ⟨t, rfl, e1, ht⟩
    refine q_setH (P := fun v H2 => Same H1 H2 ∧ match readZ t with
      | some (ps, ws) => ∃ g gp gw as, v = .ref g ∧ PlotAt H2 g gp gw as ps ws
      | none => v = .non) (h_call (vs := [.str t]) (av_cons (v_var rfl) av_nil) fun Q q => ⟨t, rfl, ht, fun ps ws hr g gp gw as H' _ e hh => q _ _ ⟨e, by rw [hr]; exact ⟨g, gp, gw, as, rfl, hh⟩⟩, fun hr H' e => q _ _ ⟨e, by rw [hr]⟩⟩) ?_
    rintro v H2 ⟨e2, hv⟩
    refine q_forR1 (n := 2) (by kxs_still) (by omega) (fun i σ' H' => ∃ u3 u4, σ' = [some (.ref a), some (.str t), some v, u3, u4] ∧ Same H2 H') ⟨none, none, rfl, Same.refl _⟩ ?_ ?_
    · rintro i σ' H' hi ⟨u3, u4, rfl, e5⟩
      refine g_name ?_
      refine q_setH (P := fun u H6 => Same H' H6 ∧ match readZ t with
        | some (ps, ws) => ∃ h as, u = .ref h ∧ HouseAt C H6 h as ps ws
        | none => ∃ x, u = .ref x ∧ H6 x = some (ExK (.ref C.NoText) x)) (h_call (vs := [.str t]) (av_cons (v_var rfl) av_nil) fun Q q => ⟨t, rfl, ht, fun ps ws hr h as H6 e6 hh => q _ _ ⟨e6, by rw [hr]; exact ⟨h, as, rfl, hh⟩⟩, fun hr x H6 e6 hx => q _ _ ⟨e6, by rw [hr]; exact ⟨x, rfl, hx⟩⟩⟩) ?_
      rintro u H6 ⟨e6, hu⟩
      have e26 := e5.trans e6
      cases hr : readZ t with
      | none =>
        rw [hr] at hv hu
        have hv : v = .non := hv
        subst hv
        obtain ⟨x, rfl, hx⟩ := hu
        refine q_whenG (b := decide (V.non = V.non) && !decide (V.int 3 = V.int 3)) (ag_and (ag_test (g_of (v_isN (v_var rfl)))) fun hb H8 e8 => ag_test ?_) (fun hb => by simp at hb) (fun _ H8 e8 => ?_)
        · exact g_neS (g_call (vs := [.ref x]) (v := .int 3) (by kxs_still) fun Q q => ⟨x, C.NoText, 3, rfl, by decide, A_NoText, e8 _ _ hx, fun H' e => q H' e⟩) (fun _ _ => g_of v_c) rfl
        refine q_whenG (b := !decide (V.non = V.non) && false) (ag_and (ag_test (g_of (v_notN (x := .non) (v_var rfl)))) fun hb => by simp at hb) (fun hb => by simp at hb) (fun _ H9 e9 => ?_)
        exact s_ifG (b := !decide (V.non = V.non) && false) (ag_and (ag_test (g_of (v_notN (x := .non) (v_var rfl)))) fun hb => by simp at hb) (fun hb => by simp at hb) (fun _ H10 e10 => ⟨_, _, rfl, e26.trans (e8.trans (e9.trans e10))⟩)
      | some pw =>
        obtain ⟨ps, ws⟩ := pw
        rw [hr] at hv hu
        obtain ⟨g, gp, gw, as, rfl, hG⟩ := hv
        obtain ⟨h, bs, rfl, hH⟩ := hu
        refine q_whenG (b := decide (V.ref g = V.non) && false) (ag_and (ag_test (g_of (v_isN (x := .ref g) (v_var rfl)))) fun hb => by simp at hb) (fun hb => by simp at hb) (fun _ H8 e8 => ?_)
        have hH8 := hH.same e8
        have hob := hH8
        obtain ⟨dx, l1, l2, hI⟩ := hob
        refine q_whenG (b := !decide (V.ref g = V.non) && !true) (ag_and (ag_test (g_of (v_notN (x := .ref g) (v_var rfl)))) fun hb H9 e9 => ag_not (ag_B (g_of (v_isH (v_var rfl) v_c (e9 _ _ hI.ob))))) (fun hb => by simp at hb) (fun _ H9 e9 => ?_)
        have hH9 := hH8.same e9
        have hG9 := hG.same (e26.trans (e8.trans e9))
        refine s_ifG (b := !decide (V.ref g = V.non) && (!PyData.eqv (intsD ps) (intsD ps) || !PyData.eqv (waysD ws) (waysD ws))) (ag_and (ag_test (g_of (v_notN (x := .ref g) (v_var rfl)))) fun _ H10 e10 => ag_or (ag_test (g_neDH (h_hpeople (v_var rfl) (hH9.same e10)) (fun x H11 z => ?_) (shaped_ints _) (shaped_ints _))) fun _ H11 e11 => ag_test (g_neDH (h_hways (v_var rfl) ((hH9.same e10).same e11)) (fun x H12 z => ?_) (shaped_ways _) (shaped_ways _))) (fun hb => ?_) (fun _ H10 e10 => ⟨_, _, rfl, e26.trans (e8.trans (e9.trans e10))⟩)
        · obtain ⟨y, rfl, _, e11, hy⟩ := z
          have hP5 := (hG9.same e10).same e11
          refine ⟨e11, ValH.imp (Val.h' (v := .ref gp) (v_ixT (v_var rfl) v_c hP5.1 rfl)) ?_⟩
          rintro u H6 ⟨rfl, rfl⟩
          exact ⟨Same.refl _, dp_ints hy, dp_ints hP5.2.1⟩
        · obtain ⟨y, rfl, _, e12, hy⟩ := z
          have hP6 := ((hG9.same e10).same e11).same e12
          have hH6 := ((hH9.same e10).same e11).same e12
          obtain ⟨_, _, _, hI6⟩ := hH6
          refine ⟨e12, ValH.imp (Val.h' (v := .ref gw) (v_ixT (v_var rfl) v_c hP6.1 rfl)) ?_⟩
          rintro u H7 ⟨rfl, rfl⟩
          exact ⟨Same.refl _, dp_ways hy hI6.ws, dp_ways hP6.2.2.1 hP6.2.2.2⟩
        · rw [eqv_refl (shaped_ints _), eqv_refl (shaped_ways _)] at hb
          simp at hb
    · rintro σ' H' ⟨u3, u4, rfl, e5⟩
      exact s_ret v_c (q H')
end
set_option maxHeartbeats 0
def CsOf (K : PySem.W.Frag) : Cs := { House := He.ga K "House", Flow := 0, BadHouse := He.ga K "BadHouse", NoWalk := He.ga K "NoWalk", BadPaper := He.ga K "BadPaper", NoText := He.ga K "NoText", HallError := He.ga K "HallError" }
def exB : PySem.W.Frag → Bool := fun K => (aloneB K (CsOf K) (CsOf K).NoText 3) && (insB K (CsOf K).House)
abbrev R : PySem.W.OpenRow := PySem.W.OpenLaw.row PySem.Challenge.rw_emptyhall_k11_texts_read
abbrev hk : PySem.W.Hook := hookX 4 fa fn exB
def ob (s : PySem.W.SharedT) : AlX := obsXG 4 fa fn exB (HandSHeadRun.getT s)
theorem ob_eq (s : PySem.W.SharedT) : ob s = hk.obs s.abs := obsXG_eq (HandSHeadRun.getT_eq s)
theorem run (w : World) : HandSHeadRun.RunEq R (PySem.W.view R.prog [28]) hk ob 4000 loose w := by
  intro os
  kernel_rfl
theorem facts {P : Program} {w : World} {K : PySem.W.Frag} {h : Heap} {mg : Str → Option Value} {fL : Addr} (X : K.In h) (G0 : h.Ns mainGlobals mg) (hfa : mg ("law" : Str) = some (.ref fL)) (c : SaysX fa fn exB K) :
    ∃ (C : Cs) (fd : FuncData), (∀ (s : Shared) (v : Value), BindsTo s fd ⟨[v], []⟩ [("script", v)]) ∧ ∀ base : Heap, K.In base → base.Ns mainGlobals mg → FnOk P w K mg base CX0 6 fL fd ["script"] (sp_law K C) := by
  let C : Cs := CsOf K
  have G : Bn mg := { len_ := He.free_ok X G0 (c.d.fact 17 (f := .free "len") rfl), list_ := He.free_ok X G0 (c.d.fact 18 (f := .free "list") rfl), tuple_ := He.free_ok X G0 (c.d.fact 19 (f := .free "tuple") rfl), range_ := He.free_ok X G0 (c.d.fact 20 (f := .free "range") rfl), sum_ := He.free_ok X G0 (c.d.fact 21 (f := .free "sum") rfl), min_ := He.free_ok X G0 (c.d.fact 22 (f := .free "min") rfl), max_ := He.free_ok X G0 (c.d.fact 23 (f := .free "max") rfl), isinstance_ := He.free_ok X G0 (c.d.fact 24 (f := .free "isinstance") rfl), str_ := He.free_ok X G0 (c.d.fact 25 (f := .free "str") rfl), int_ := He.free_ok X G0 (c.d.fact 26 (f := .free "int") rfl), bool_ := He.free_ok X G0 (c.d.fact 27 (f := .free "bool") rfl), enumerate_ := He.free_ok X G0 (c.d.fact 28 (f := .free "enumerate") rfl), ValueError_ := He.free_ok X G0 (c.d.fact 29 (f := .free "ValueError") rfl) }
  have g_HallError : mg "HallError" = some (.ref C.HallError) := He.glo_ok X G0 (c.d.fact 30 (f := .glo "HallError") rfl)
  have X_HallError : Xc K mg "HallError" C.HallError := ⟨(He.exc_ok (c.d.fact 31 (f := .exc "HallError") rfl)).1, g_HallError, (He.exc_ok (c.d.fact 31 (f := .exc "HallError") rfl)).2.1, (He.exc_ok (c.d.fact 31 (f := .exc "HallError") rfl)).2.2.1, (He.exc_ok (c.d.fact 31 (f := .exc "HallError") rfl)).2.2.2⟩
  have g_BadHouse : mg "BadHouse" = some (.ref C.BadHouse) := He.glo_ok X G0 (c.d.fact 32 (f := .glo "BadHouse") rfl)
  have X_BadHouse : Xc K mg "BadHouse" C.BadHouse := ⟨(He.exc_ok (c.d.fact 33 (f := .exc "BadHouse") rfl)).1, g_BadHouse, (He.exc_ok (c.d.fact 33 (f := .exc "BadHouse") rfl)).2.1, (He.exc_ok (c.d.fact 33 (f := .exc "BadHouse") rfl)).2.2.1, (He.exc_ok (c.d.fact 33 (f := .exc "BadHouse") rfl)).2.2.2⟩
  have g_NoWalk : mg "NoWalk" = some (.ref C.NoWalk) := He.glo_ok X G0 (c.d.fact 34 (f := .glo "NoWalk") rfl)
  have X_NoWalk : Xc K mg "NoWalk" C.NoWalk := ⟨(He.exc_ok (c.d.fact 35 (f := .exc "NoWalk") rfl)).1, g_NoWalk, (He.exc_ok (c.d.fact 35 (f := .exc "NoWalk") rfl)).2.1, (He.exc_ok (c.d.fact 35 (f := .exc "NoWalk") rfl)).2.2.1, (He.exc_ok (c.d.fact 35 (f := .exc "NoWalk") rfl)).2.2.2⟩
  have g_BadPaper : mg "BadPaper" = some (.ref C.BadPaper) := He.glo_ok X G0 (c.d.fact 36 (f := .glo "BadPaper") rfl)
  have X_BadPaper : Xc K mg "BadPaper" C.BadPaper := ⟨(He.exc_ok (c.d.fact 37 (f := .exc "BadPaper") rfl)).1, g_BadPaper, (He.exc_ok (c.d.fact 37 (f := .exc "BadPaper") rfl)).2.1, (He.exc_ok (c.d.fact 37 (f := .exc "BadPaper") rfl)).2.2.1, (He.exc_ok (c.d.fact 37 (f := .exc "BadPaper") rfl)).2.2.2⟩
  have g_NoText : mg "NoText" = some (.ref C.NoText) := He.glo_ok X G0 (c.d.fact 38 (f := .glo "NoText") rfl)
  have X_NoText : Xc K mg "NoText" C.NoText := ⟨(He.exc_ok (c.d.fact 39 (f := .exc "NoText") rfl)).1, g_NoText, (He.exc_ok (c.d.fact 39 (f := .exc "NoText") rfl)).2.1, (He.exc_ok (c.d.fact 39 (f := .exc "NoText") rfl)).2.2.1, (He.exc_ok (c.d.fact 39 (f := .exc "NoText") rfl)).2.2.2⟩
  have g_House : mg "House" = some (.ref C.House) := He.glo_ok X G0 (c.d.fact 40 (f := .glo "House") rfl)
  have cl_House : Cls K C.House := He.cls_ok (c.d.fact 41 (f := .cls "House") rfl)
  have mk_House : Mk K C.House (He.ma K C.House "__init__") := He.mkr_ok (c.d.fact 42 (f := .mkr "House") rfl)
  have HC : HouseC K C := ⟨cl_House, He.noat_ok (c.d.fact 43 (f := .noat "House" "held") rfl), He.noat_ok (c.d.fact 44 (f := .noat "House" "laid") rfl)⟩
  have XG : ExcG mg C := ⟨g_BadHouse, g_NoWalk, g_BadPaper, g_NoText, g_HallError⟩
  have hx : exB K = true := c.x
  rw [exB, Bool.and_eq_true] at hx
  have A_NoText : AloneC K C C.NoText 3 := aloneB_ok hx.1
  have XH : C8.InsC K C.House := insB_ok cl_House hx.2
  have gF : ∃ t, mg "FIGURES" = some (.str FIG t) := He.str_ok X G0 (c.d.fact 47 (f := .str "FIGURES" "0123456789") rfl)
  have mx_BadHouse_BadHouse := He.exm_ok (c.d.fact 49 (f := .exm "BadHouse" "BadHouse" true) rfl)
  have mx_NoText_HallError := He.exm_ok (c.d.fact 57 (f := .exm "NoText" "HallError" true) rfl)
  obtain ⟨fd0, F0⟩ := c.d.def_ 0 (d := d_see_way) rfl
  obtain ⟨fd1, F1⟩ := c.d.def_ 1 (d := d_House_init) rfl
  obtain ⟨fd2, F2⟩ := c.d.def_ 2 (d := d_House_people) rfl
  obtain ⟨fd3, F3⟩ := c.d.def_ 3 (d := d_House_ways) rfl
  obtain ⟨fd4, F4⟩ := c.d.def_ 4 (d := d_numbers_of) rfl
  obtain ⟨fd5, F5⟩ := c.d.def_ 5 (d := d_read) rfl
  obtain ⟨fd6, F6⟩ := c.d.def_ 6 (d := d_law_cell_at) rfl
  obtain ⟨fd7, F7⟩ := c.d.def_ 7 (d := d_law_draw) rfl
  obtain ⟨fd8, F8⟩ := c.d.def_ 8 (d := d_law_whole) rfl
  obtain ⟨fd9, F9⟩ := c.d.def_ 9 (d := d_law_people) rfl
  obtain ⟨fd10, F10⟩ := c.d.def_ 10 (d := d_law_way) rfl
  obtain ⟨fd11, F11⟩ := c.d.def_ 11 (d := d_law_house) rfl
  obtain ⟨fd12, F12⟩ := c.d.def_ 12 (d := d_law_shown) rfl
  obtain ⟨fd13, F13⟩ := c.d.def_ 13 (d := d_law_alone) rfl
  obtain ⟨fd14, F14⟩ := c.d.def_ 14 (d := d_law_words) rfl
  obtain ⟨fd15, F15⟩ := c.d.def_ 15 (d := d_law_spoiled) rfl
  obtain ⟨fd16, F16⟩ := c.d.def_ 16 (d := d_law_line) rfl
  obtain ⟨fd17, F17⟩ := c.d.def_ 17 (d := d_law_due) rfl
  obtain ⟨fd18, F18⟩ := c.d.def_ 18 (d := d_law_told) rfl
  obtain ⟨fd19, F19⟩ := c.d.def_ 19 (d := d_law) rfl
  have m_see_way := He.glo_ok X G0 (c.d.fact 0 (f := .glo "see_way") rfl)
  have m_numbers_of := He.glo_ok X G0 (c.d.fact 1 (f := .glo "numbers_of") rfl)
  have m_read := He.glo_ok X G0 (c.d.fact 2 (f := .glo "read") rfl)
  have m_law_cell_at := He.glo_ok X G0 (c.d.fact 3 (f := .glo "_law_cell_at") rfl)
  have m_law_draw := He.glo_ok X G0 (c.d.fact 4 (f := .glo "_law_draw") rfl)
  have m_law_whole := He.glo_ok X G0 (c.d.fact 5 (f := .glo "_law_whole") rfl)
  have m_law_people := He.glo_ok X G0 (c.d.fact 6 (f := .glo "_law_people") rfl)
  have m_law_way := He.glo_ok X G0 (c.d.fact 7 (f := .glo "_law_way") rfl)
  have m_law_house := He.glo_ok X G0 (c.d.fact 8 (f := .glo "_law_house") rfl)
  have m_law_shown := He.glo_ok X G0 (c.d.fact 9 (f := .glo "_law_shown") rfl)
  have m_law_alone := He.glo_ok X G0 (c.d.fact 10 (f := .glo "_law_alone") rfl)
  have m_law_words := He.glo_ok X G0 (c.d.fact 11 (f := .glo "_law_words") rfl)
  have m_law_spoiled := He.glo_ok X G0 (c.d.fact 12 (f := .glo "_law_spoiled") rfl)
  have m_law_line := He.glo_ok X G0 (c.d.fact 13 (f := .glo "_law_line") rfl)
  have m_law_due := He.glo_ok X G0 (c.d.fact 14 (f := .glo "_law_due") rfl)
  have m_law_told := He.glo_ok X G0 (c.d.fact 15 (f := .glo "_law_told") rfl)
  have e := hfa.symm.trans (He.glo_ok X G0 (c.d.fact 16 (f := .glo "law") rfl))
  cases e
  refine ⟨C, fd19, fun s v => FunD.bindsA (ps := ["script"]) F19 (fun _ _ _ _ _ _ us hl => match us, hl with | [_], _ => rfl) s [v] rfl, fun base _ _ => ?_⟩
  have c_law_words : Cal P w K mg base CX0 1 "_law_words" (sp_law_words K C) := c_law_words F14 m_law_words G
  have c_law_spoiled : Cal P w K mg base CX0 2 "_law_spoiled" (sp_law_spoiled K C) := c_law_spoiled F15 m_law_spoiled G c_law_words
  have c_law_line : Cal P w K mg base CX0 1 "_law_line" (sp_law_line K C) := c_law_line F16 m_law_line G
  have c_law_due : Cal P w K mg base CX0 2 "_law_due" (sp_law_due K C) := c_law_due F17 m_law_due G c_law_line
  have c_law_shown : Cal P w K mg base CX0 1 "_law_shown" (sp_law_shown K C) := c_law_shown F12 m_law_shown G
  have c_law_cell_at : Cal P w K mg base CX0 1 "_law_cell_at" (sp_law_cell_at K C) := c_law_cell_at F6 m_law_cell_at G
  have c_law_draw : Cal P w K mg base CX0 2 "_law_draw" (sp_law_draw K C) := c_law_draw F7 m_law_draw G c_law_cell_at
  have c_numbers_of : Cal P w K mg base (L2.CX P w) 1 "numbers_of" (sp_numbers_of K C) := c_numbers_of F4 m_numbers_of G X_NoText gF
  have c_see_way : Cal P w K mg base (L2N.CX P w) 1 "see_way" (sp_see_way K C) := c_see_way F0 m_see_way G X_BadHouse
  have c_House_init : Mak P w K mg base (L2N.CX P w) 2 "House" C.House (sp_House_init K C) := c_House_init F1 g_House mk_House G HC X_BadHouse c_see_way
  have c_read : Cal P w K mg base (L2.CX P w) 4 "read" (sp_read K C) := c_read F5 m_read G X_NoText g_BadHouse mx_BadHouse_BadHouse c_numbers_of c_House_init
  have c_law_told : Cal P w K mg base CX0 5 "_law_told" (sp_law_told K C) := c_law_told F18 m_law_told G g_HallError mx_NoText_HallError c_read
  have c_law_way : Cal P w K mg base CX0 3 "_law_way" (sp_law_way K C) := c_law_way F10 m_law_way G c_law_draw
  have c_law_people : Cal P w K mg base CX0 3 "_law_people" (sp_law_people K C) := c_law_people F9 m_law_people G c_law_draw
  have c_law_house : Cal P w K mg base CX0 4 "_law_house" (sp_law_house K C) := c_law_house F11 m_law_house G c_law_draw c_law_way c_law_people
  have c_law_alone : Cal P w K mg base CX0 1 "_law_alone" (sp_law_alone K C) := c_law_alone F13 m_law_alone G XG
  have c_House_people : Met P w K mg base CX0 1 C.House "people" (sp_House_people K C) := c_House_people F2 cl_House (He.meth_ok (c.d.fact 45 (f := .meth "House" "people") rfl)) G HC
  have c_House_ways : Met P w K mg base CX0 1 C.House "ways" (sp_House_ways K C) := c_House_ways F3 cl_House (He.meth_ok (c.d.fact 46 (f := .meth "House" "ways") rfl)) G HC
  exact ok_law F19 G g_House XH A_NoText c_law_spoiled c_law_due c_law_shown c_law_draw c_law_told c_law_house c_law_alone c_House_people c_House_ways
end EH
open PySem PySem.W PySem.Calls PyProof.Rows
theorem PySem.Challenge.cw_emptyhall_k11_texts_read_holds : PySem.Challenge.rw_emptyhall_k11_texts_read.Holds := by
  w_on; o_law
  refine HandSHeadRun.head_any (r := OpenLaw.row PySem.Challenge.rw_emptyhall_k11_texts_read) (q := view (OpenLaw.row PySem.Challenge.rw_emptyhall_k11_texts_read).prog [28]) (H := EH.hk) (ob := EH.ob) (M := 4000) (loose := EH.loose) (d := HandSHeadRun.topDef (OpenLaw.row PySem.Challenge.rw_emptyhall_k11_texts_read).prog 28) (kwd := []) EH.ob_eq
    (by kernel_rfl) (fun s => by kernel_rfl) EH.run (by kernel_rfl) (by kernel_rfl) (by kernel_rfl) (by rfl) (by first | assumption | decide +kernel) (by decide +kernel) ⟨rfl, rfl, rfl, rfl, rfl, by decide +kernel⟩ ?hw ?hc
  case hw => w_witness2
  case hc =>
    refine L2.walk_ofE (l := PySem.Challenge.rw_emptyhall_k11_texts_read) (n := 63) (k := 6) (x := "script") (CX := L2.CX0) rfl (by decide) (by kernel_rfl) ⟨rfl, by decide, by decide⟩ ?F (fun _ _ _ _ z => z)
    intro w mg fa h Y G hmg0
    obtain ⟨K, KX, c⟩ := Y
    have hmg : mg ("law" : PySem.Str) = some (.ref fa) := by
      have e : (HandSHeadRun.topDef (OpenLaw.row PySem.Challenge.rw_emptyhall_k11_texts_read).prog 28).name = ("law" : PySem.Str) := by kernel_rfl
      rw [← e]
      exact hmg0
    obtain ⟨C, fd, hb, hF⟩ := EH.facts (P := (PySem.Challenge.rw_emptyhall_k11_texts_read).prog) (w := w) KX G hmg c
    exact ⟨K, fd, EH.sp_law K C, KX, hb, fun H a ns hl _ hS => ⟨a, ns, rfl, hS, hl, fun _ => rfl⟩, hF⟩
#print axioms PySem.Challenge.cw_emptyhall_k11_texts_read_holds

