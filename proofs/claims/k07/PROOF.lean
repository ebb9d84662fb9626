import PyProof.Rows.All
import Wide.All
import OpenK.AllK
import Wide.FinOn
import KE.KStateDown
import HandS.ForMost
import HandS.ForExc
import HandS.Defaults
import HandS.IsInst
import HandS.Deep
import HandS.More
import HandS.SetFor
import HandS.Codes
import HandS.Head0
import HandS.Head1
import HandS.Head2
import HandS.HeadEnd
import HandS.HeadHook1
import HandS.HeadHook2
import HandS.Steps
import HandS.Evl
import HandS.ExcIs
import HandS.ExcValue
import HandS.Dict
import HandS.Iter
import HandS.Walk
import PySem.Challenge.RW_emptyhall_k07_whole_no_plan_above_a_pape
set_option Elab.async false
set_option linter.all false
set_option maxRecDepth 100000
set_option maxHeartbeats 2000000
/-! own layer: defs by name, a hook with one more look -/
namespace EH
open PySem PySem.Spec PyProof.Rows L2

/-! ### defs by name -/
abbrev FnP (K : PySem.W.Frag) (x qual : Str) (st : Stmt) (f : Addr) (fd : FuncData) : Prop := FunD K x qual (defArgs st) (defBody st) (defScope st) [] [] f fd
structure Cal (P : Program) (w : World) (K : PySem.W.Frag) (mg : Str → Option Value) (base : Heap) (CX : CXT) (k : Nat) (x : Str) (sp : Sp) : Prop where
  ex : ∃ (f : Addr) (fd : FuncData) (ps : List Str), FnOk P w K mg base CX k f fd ps sp ∧ mg x = some (.ref f) ∧ PySem.W.keepIn K (.ref f) = true ∧ Binds K fd ps []
structure Met (P : Program) (w : World) (K : PySem.W.Frag) (mg : Str → Option Value) (base : Heap) (CX : CXT) (k : Nat) (C : Addr) (m : Str) (sp : Sp) : Prop where
  ex : ∃ (f : Addr) (fd : FuncData) (ps : List Str), Cls K C ∧ Meth K C m f ∧ FnOk P w K mg base CX k f fd ps sp ∧ Binds K fd ps []
structure Mak (P : Program) (w : World) (K : PySem.W.Frag) (mg : Str → Option Value) (base : Heap) (CX : CXT) (k : Nat) (x : Str) (C : Addr) (sp : Sp) : Prop where
  ex : ∃ (f : Addr) (fd : FuncData) (ps : List Str), Mk K C f ∧ FnOk P w K mg base CX k f fd ps sp ∧ mg x = some (.ref C) ∧ Binds K fd ps []
section
variable {X : Cx} {CX : CXT} {E : XK} {k j : Nat} {C : Addr} {x m : Str} {sp : Sp} {p pos apos : Pos} {e o : Expr} {es : List Expr} {ta : TE} {t : TA}
theorem pe_c (c : Cal X.prog X.w X.K X.mg X.base CX k x sp) (hr : Room j X.A) (hk : k ≤ j) (hx : Passes CX X E) (hg : Gl X x) (ha : PA X (e :: es) t)
    (hdb : (x == ("__debug__" : Str)) = false := by decide) (he : starEach (e :: es) X.env = (false, eval e X.env) :: starEach es X.env := by rfl) (hpl : (backTo pos (starEach es X.env)).any (·.1) = false := by rfl) :
    PE X (.Call (.Name x p) (e :: es) [] pos) (tCall sp [] E t) := by
  obtain ⟨f, fd, ps, F, hm, kp, b⟩ := c.ex
  exact pe_call F (hr.mono hk) hg hm kp b .nil hx ha hdb he hpl
theorem pe_mk (c : Mak X.prog X.w X.K X.mg X.base CX k x C sp) (hr : Room j X.A) (hk : k + 1 ≤ j) (hx : Passes CX X E) (hg : Gl X x) (ha : PA X (e :: es) t)
    (hdb : (x == ("__debug__" : Str)) = false := by decide) (he : starEach (e :: es) X.env = (false, eval e X.env) :: starEach es X.env := by rfl) (hpl : (backTo pos (starEach es X.env)).any (·.1) = false := by rfl) :
    PE X (.Call (.Name x p) (e :: es) [] pos) (tMake C sp [] E t) := by
  obtain ⟨f, fd, ps, M, F, hm, b⟩ := c.ex
  exact pe_make M F (hr.mono hk) hg hm b .nil hx ha hdb he hpl
theorem pe_mt {pl : Sem Bool} (c : Met X.prog X.w X.K X.mg X.base CX k C m sp) (hr : Room j X.A) (hk : k ≤ j) (hx : Passes CX X E) (he : PE X o ta) (ha : PA X (e :: es) t)
    (hst : starEach (e :: es) X.env = (false, eval e X.env) :: starEach es X.env := by rfl) (hpl : (backTo pos (starEach es X.env)).any (·.1) = false := by rfl)
    (ht : eval (.Call (.Attribute o m apos) (e :: es) [] pos) X.env = (do
      let ov ← eval o X.env
      standAt apos.atName
      let (f, first) ← holding [ov] (getMethod ov m pl)
      callWith pos f first (backTo pos (starEach (e :: es) X.env)) (backToKw pos (keywordEach [] X.env))) := by rfl) :
    PE X (.Call (.Attribute o m apos) (e :: es) [] pos) (tMeth C m sp [] E ta t) := by
  obtain ⟨f, fd, ps, hc, hm, F, b⟩ := c.ex
  exact pe_meth (pl := pl) he hc hm F (hr.mono hk) b .nil hx ha hst hpl ht
theorem pe_mt0 {pl : Sem Bool} (c : Met X.prog X.w X.K X.mg X.base CX k C m sp) (hr : Room j X.A) (hk : k ≤ j) (hx : Passes CX X E) (he : PE X o ta)
    (ht : eval (.Call (.Attribute o m apos) [] [] pos) X.env = (do
      let ov ← eval o X.env
      standAt apos.atName
      let (f, first) ← holding [ov] (getMethod ov m pl)
      callWith pos f first (backTo pos (starEach [] X.env)) (backToKw pos (keywordEach [] X.env))) := by rfl) :
    PE X (.Call (.Attribute o m apos) [] [] pos) (tMeth C m sp [] E ta tNil) := by
  obtain ⟨f, fd, ps, hc, hm, F, b⟩ := c.ex
  exact pe_meth0 (pl := pl) he hc hm F (hr.mono hk) b .nil hx ht
end

/-! ### the hook of facts, with one more look -/
abbrev AlX : Type := He.AlD × Bool
def obsX (fa : List He.Fa) (fn : List He.DefD) (ex : PySem.W.Frag → Bool) (K : PySem.W.Frag) : AlX := (He.obsD fa fn K, ex K)
def valX (fn : List He.DefD) : AlX := (He.valD fn, true)
structure SaysX (fa : List He.Fa) (fn : List He.DefD) (ex : PySem.W.Frag → Bool) (K : PySem.W.Frag) : Prop where
  d : He.SaysD fa fn K
  x : ex K = true
def obsXG (n : Nat) (fa : List He.Fa) (fn : List He.DefD) (ex : PySem.W.Frag → Bool) (g : Addr → Option Obj) : AlX := obsX fa fn ex (He.frG g (He.asD g n))
def hookX (n : Nat) (fa : List He.Fa) (fn : List He.DefD) (ex : PySem.W.Frag → Bool) : PySem.W.Hook where
  α := AlX
  obs := fun s => obsXG n fa fn ex s.heap.get?
  val := fun _ => valX fn
  says := fun _ h => ∃ K : PySem.W.Frag, K.In h ∧ SaysX fa fn ex K
  of := fun _ _ e => ⟨_, He.frG_in, ⟨congrArg Prod.fst e, congrArg Prod.snd e⟩⟩
  keeps := fun _ _ _ ⟨K, hK, c⟩ k => ⟨K, PySem.W.Frag.In.keeps hK k, c⟩
theorem obsXG_eq {n : Nat} {fa : List He.Fa} {fn : List He.DefD} {ex : PySem.W.Frag → Bool} {g : Addr → Option Obj} {s : Shared} (h : ∀ a, g a = s.heap.get? a) : obsXG n fa fn ex g = (hookX n fa fn ex).obs s := by
  have e : g = s.heap.get? := funext h
  rw [e] <;> rfl
end EH

set_option maxHeartbeats 2000000
/-! own layer, 1: readings in short: values (Val), tests (Ans), lists of arguments (AV), statements -/
namespace EH
open PySem PySem.Spec PyProof.Rows L2
abbrev St := L2.St
def AV (t : TA) (σ : St) (H : Hp) (vs : List V) : Prop := ∀ Q : List V → Hp → Prop, Q vs H → t σ H Q
section
variable {K : PySem.W.Frag} {σ : St} {H : Hp} {ta tb tc te : TE} {t u : TT} {x y z v : V} {a b c : Bool} {i j k : Int}

theorem av_nil : AV tNil σ H [] := fun _ q => q
theorem av_cons {tr : TA} {vs : List V} (h : Val ta σ H x) (hr : AV tr σ H vs) : AV (tCons ta tr) σ H (x :: vs) := fun _ q => h _ (hr _ q)
theorem v_c : Val (tC v) σ H v := fun _ q => q
theorem v_var {n : Nat} (h : σ[n]? = some (some v)) : Val (tVar n) σ H v := fun _ q => ⟨v, h, q⟩
theorem v_I0 {g : Int → Int → V} (ha : Val ta σ H (.int i)) (hb : Val tb σ H (.int j)) : Val (tOp (rI0 g) ta tb) σ H (g i j) := fun _ q => ha _ (hb _ ⟨i, j, rfl, rfl, q⟩)
theorem v_I {C : Int → Int → Prop} {g : Int → Int → V} (ha : Val ta σ H (.int i)) (hb : Val tb σ H (.int j)) (hc : C i j) : Val (tOp (rI C g) ta tb) σ H (g i j) := fun _ q => ha _ (hb _ ⟨i, j, rfl, rfl, hc, q⟩)
theorem v_neg : Val ta σ H (.int i) → Val (tUn (rU fun i => .int (-i)) ta) σ H (.int (-i)) := fun ha _ q => ha _ ⟨i, rfl, q⟩
theorem v_eq (ha : Val ta σ H x) (hb : Val tb σ H y) (hs : scal x y = true) : Val (tOp rEq ta tb) σ H (.bl (decide (x = y))) := fun _ q => ha _ (hb _ ⟨hs, q⟩)
theorem v_ne (ha : Val ta σ H x) (hb : Val tb σ H y) (hs : scal x y = true) : Val (tOp rNe ta tb) σ H (.bl (!decide (x = y))) := fun _ q => ha _ (hb _ ⟨hs, q⟩)
abbrev rIsNQ : R2 := fun x y H Q => y = .non ∧ Q (.bl (decide (x = .non))) H
abbrev rNotNQ : R2 := fun x y H Q => y = .non ∧ Q (.bl (!decide (x = .non))) H
theorem v_isN (ha : Val ta σ H x) : Val (tOp rIsNQ ta (tC .non)) σ H (.bl (decide (x = .non))) := fun _ q => ha _ ⟨rfl, q⟩
theorem v_notN (ha : Val ta σ H x) : Val (tOp rNotNQ ta (tC .non)) σ H (.bl (!decide (x = .non))) := fun _ q => ha _ ⟨rfl, q⟩
theorem v_fld {p C dx : Addr} {fs : List (Str × V)} {f : Str} (ha : Val ta σ H (.ref p)) (ho : H p = some (.ins C dx fs)) (hc : Cls K C) (hn : NoAttr K C f) (hl : fs.lookup f = some v) : Val (tFld K ta f) σ H v := fun _ q => ha _ ⟨p, C, dx, fs, v, rfl, ho, hc, hn, hl, q⟩
theorem v_ixL {p : Addr} {xs : List V} (ha : Val ta σ H (.ref p)) (hb : Val tb σ H (.int i)) (h : SqL K H p xs) (hi : atI xs i = some v) : Val (tOp (rIxL K) ta tb) σ H v := fun _ q => ha _ (hb _ ⟨p, xs, i, v, rfl, rfl, h, hi, q⟩)
theorem v_ixT {p : Addr} {xs : List V} (ha : Val ta σ H (.ref p)) (hb : Val tb σ H (.int i)) (h : H p = some (.tup xs)) (hi : atI xs i = some v) : Val (tOp (rIxT K) ta tb) σ H v := fun _ q => ha _ (hb _ ⟨p, xs, i, v, rfl, rfl, SqT.of h, hi, q⟩)
abbrev rLenQ (K : PySem.W.Frag) : List V → Hp → VK → Prop := fun xs H Q => ∃ p ys, xs = [.ref p] ∧ (SqL K H p ys ∨ SqT K H p ys) ∧ Q (.int ys.length) H
theorem v_len {p : Addr} {xs : List V} (ha : Val ta σ H (.ref p)) (h : SqL K H p xs) : Val (tCB (rLenQ K) (tCons ta tNil)) σ H (.int xs.length) := fun _ q => ha _ ⟨p, xs, rfl, .inl h, q⟩
theorem v_call {tr : TA} {sp : Sp} {E : XK} {vs : List V} (ht : AV tr σ H vs) (hs : ∀ Q : VK, Q v H → sp (vs ++ []) H Q E) : Val (tCall sp [] E tr) σ H v := fun Q q => ht _ (hs Q q)
theorem v_if (hc : Ans t σ H b) (h1 : b = true → Val ta σ H v) (h2 : b = false → Val tb σ H v) : Val (tIf t ta tb) σ H v := fun Q q => hc _ (by
  cases b with
  | true => exact iteT (h1 rfl Q q)
  | false => exact iteF (h2 rfl Q q))
theorem v_and (h1 : Val ta σ H (.bl a)) (h2 : a = true → Val tb σ H (.bl b)) : Val (tAndV ta tb) σ H (.bl (a && b)) := fun Q q => h1 _ ⟨a, rfl, by
  cases a with
  | true => exact iteT (h2 rfl Q q)
  | false => exact iteF q⟩
theorem v_or (h1 : Val ta σ H (.bl a)) (h2 : a = false → Val tb σ H (.bl b)) : Val (tOrV ta tb) σ H (.bl (a || b)) := fun Q q => h1 _ ⟨a, rfl, by
  cases a with
  | true => exact iteT q
  | false => exact iteF (h2 rfl Q q)⟩
theorem v_not (h : Val ta σ H (.bl a)) : Val (tNotV ta) σ H (.bl (!a)) := fun _ q => h _ ⟨a, rfl, q⟩
theorem v_isi {tp : TE} {cl : V} {tt uu : Value} (ha : Val ta σ H x) (hb : Val tp σ H cl) (hc : ClsV cl uu) (ht : TyX K H x tt) (hk : PySem.W.kitOne K tt uu = some b) : Val (tCB (rIsi K) (tCons ta (tCons tp tNil))) σ H (.bl b) :=
  fun _ q => ha _ (hb _ ⟨x, cl, tt, uu, b, rfl, hc, ht, hk, q⟩)
theorem Val.to (h : Val te σ H v) (e : v = x) : Val te σ H x := e ▸ h

theorem a_I0 {p : Int → Int → Bool} (ha : Val ta σ H (.int i)) (hb : Val tb σ H (.int j)) : Ans (tTest (tOp (rI0 fun i j => .bl (p i j)) ta tb)) σ H (p i j) := fun _ q => ha _ (hb _ ⟨i, j, rfl, rfl, _, rfl, q⟩)
theorem a_test (h : Val te σ H (.bl b)) : Ans (tTest te) σ H b := fun _ q => h _ ⟨b, rfl, q⟩
theorem a_B (h : Val te σ H (.bl b)) : Ans (tB te) σ H b := fun _ q => h _ ⟨b, rfl, q⟩
theorem a_chain {p q : Int → Int → Bool} (ha : Val ta σ H (.int i)) (hb : Val tb σ H (.int j)) (hc : Val tc σ H (.int k)) :
    Ans (tTest (tChain (rI0 fun i j => .bl (p i j)) (rI0 fun i j => .bl (q i j)) ta tb tc)) σ H (p i j && q j k) := fun Q h => ha _ (hb _ ⟨i, j, rfl, rfl, _, rfl, by
  cases e : p i j with
  | true =>
    rw [e] at h
    exact iteT (hc _ ⟨j, k, rfl, rfl, _, rfl, h⟩)
  | false =>
    rw [e] at h
    exact iteF ⟨_, rfl, h⟩⟩)
theorem a_not (h : Ans t σ H a) : Ans (tNot t) σ H (!a) := fun _ q => h _ q
theorem a_and (h1 : Ans t σ H a) (h2 : a = true → Ans u σ H b) : Ans (tAnd t u) σ H (a && b) := fun Q q => h1 _ (by
  cases a with
  | true => exact iteT (h2 rfl Q q)
  | false => exact iteF q)
theorem a_or (h1 : Ans t σ H a) (h2 : a = false → Ans u σ H b) : Ans (tOr t u) σ H (a || b) := fun Q q => h1 _ (by
  cases a with
  | true => exact iteT q
  | false => exact iteF (h2 rfl Q q))

/-! ### statements; in a row (q_), at the end (s_) -/
variable {D : Ends} {ts tz tu : TS} {P : V → Hp → Prop}
theorem s_set {n : Nat} (h : Val te σ H v) (k : D.nx (σ.set n (some v)) H) : tAsg te (gName n) D σ H := h _ k
theorem q_set {n : Nat} (h : Val te σ H v) (k : tz D (σ.set n (some v)) H) : tSeq (tAsg te (gName n)) tz D σ H := h _ k
theorem s_setH {n : Nat} (h : ValH te σ H P) (k : ∀ v H', P v H' → D.nx (σ.set n (some v)) H') : tAsg te (gName n) D σ H := h _ k
theorem q_setH {n : Nat} (h : ValH te σ H P) (k : ∀ v H', P v H' → tz D (σ.set n (some v)) H') : tSeq (tAsg te (gName n)) tz D σ H := h _ k
theorem s_ret (h : Val te σ H v) (k : D.rt v H) : tRet te D σ H := h _ k
theorem s_retH (h : ValH te σ H P) (k : ∀ v H', P v H' → D.rt v H') : tRet te D σ H := h _ k
theorem s_if (h : Ans t σ H b) (h1 : b = true → ts D σ H) (h2 : b = false → tu D σ H) : tIfS t ts tu D σ H := h _ (by
  cases b with
  | true => exact iteT (h1 rfl)
  | false => exact iteF (h2 rfl))
theorem q_if (h : Ans t σ H b) (h1 : b = true → ts { D with nx := tz D } σ H) (h2 : b = false → tu { D with nx := tz D } σ H) : tSeq (tIfS t ts tu) tz D σ H := s_if (D := { D with nx := tz D }) h h1 h2
/-- an if without else -/
theorem q_when (h : Ans t σ H b) (h1 : b = true → ts { D with nx := tz D } σ H) (h2 : b = false → tz D σ H) : tSeq (tIfS t ts tNext) tz D σ H := s_if (D := { D with nx := tz D }) h h1 h2
theorem s_drop (h : Val te σ H v) (k : D.nx σ H) : tDrop te D σ H := h _ k
theorem q_drop (h : Val te σ H v) (k : tz D σ H) : tSeq (tDrop te) tz D σ H := h _ k
theorem s_dropH (h : ValH te σ H P) (k : ∀ v H', P v H' → D.nx σ H') : tDrop te D σ H := h _ k
theorem q_dropH (h : ValH te σ H P) (k : ∀ v H', P v H' → tz D σ H') : tSeq (tDrop te) tz D σ H := h _ k
theorem q_seq (k : ts { D with nx := tz D } σ H) : tSeq ts tz D σ H := k
theorem q_app {l : Addr} {xs : List V} (hl : H l = some (.lst xs)) (ha : Val ta σ H (.ref l)) (h : Val te σ H v) (hz : xs.length < sizeLine) (k : tz D σ (upd H l (.lst (xs ++ [v])))) :
    tSeq (tDrop (tBM K "list" rAppend ta (tCons te tNil))) tz D σ H := ha _ ⟨.inl ⟨rfl, _, SqL.of hl⟩, h _ ⟨l, xs, v, rfl, rfl, hl, hz, k⟩⟩
theorem s_app {l : Addr} {xs : List V} (hl : H l = some (.lst xs)) (ha : Val ta σ H (.ref l)) (h : Val te σ H v) (hz : xs.length < sizeLine) (k : D.nx σ (upd H l (.lst (xs ++ [v])))) :
    tDrop (tBM K "list" rAppend ta (tCons te tNil)) D σ H := ha _ ⟨.inl ⟨rfl, _, SqL.of hl⟩, h _ ⟨l, xs, v, rfl, rfl, hl, hz, k⟩⟩
theorem q_forL {p : Addr} {xs : List V} {g : TG} (h : Val te σ H (.ref p)) (hx : SqL K H p xs) (Pv : Nat → St → Hp → Prop) (h0 : Pv 0 σ H) (hl : ∀ i σ' H', i ≤ xs.length → Pv i σ' H' → SqL K H' p xs)
    (hs : ∀ i x σ' H', xs[i]? = some x → Pv i σ' H' → g x σ' H' fun σ2 H2 => ts { D with nx := Pv (i + 1), ct := Pv (i + 1), bk := tz D } σ2 H2) (hd : ∀ σ' H', Pv xs.length σ' H' → tz D σ' H') : tSeq (tFor (iList K te) g ts) tz D σ H :=
  h _ ⟨p, rfl, ⟨xs, hx⟩, for_list (K := K) (a := p) (xs := xs) (D := { D with nx := tz D }) Pv h0 hl hs hd⟩
theorem q_forR1 {tr : TA} {n : Int} {g : TG} (h : AV tr σ H [.int n]) (hn : -1000000 ≤ n ∧ n ≤ 1000000) (Pv : Nat → St → Hp → Prop) (h0 : Pv 0 σ H)
    (hs : ∀ (i : Nat) σ' H', (i : Int) < n → Pv i σ' H' → g (.int (i : Int)) σ' H' fun σ2 H2 => ts { D with nx := Pv (i + 1), ct := Pv (i + 1), bk := tz D } σ2 H2) (hd : ∀ σ' H', Pv n.toNat σ' H' → tz D σ' H') : tSeq (tFor (iRng1 tr) g ts) tz D σ H :=
  h _ ⟨n, rfl, by omega, by omega, for_range (lo := 0) (n := n.toNat) (D := { D with nx := tz D }) Pv h0 (fun i σ' H' hi p => by
    rw [Int.zero_add]
    exact hs i σ' H' (by omega) p) hd⟩
theorem q_forR2 {tr : TA} {lo n : Int} {g : TG} (h : AV tr σ H [.int lo, .int n]) (hn : -1000000 ≤ lo ∧ lo ≤ 1000000 ∧ -1000000 ≤ n ∧ n ≤ 1000000) (Pv : Nat → St → Hp → Prop) (h0 : Pv 0 σ H)
    (hs : ∀ (i : Nat) σ' H', lo + (i : Int) < n → Pv i σ' H' → g (.int (lo + (i : Int))) σ' H' fun σ2 H2 => ts { D with nx := Pv (i + 1), ct := Pv (i + 1), bk := tz D } σ2 H2) (hd : ∀ σ' H', Pv (n - lo).toNat σ' H' → tz D σ' H') : tSeq (tFor (iRng2 tr) g ts) tz D σ H :=
  h _ ⟨lo, n, rfl, by omega, for_range (lo := lo) (n := (n - lo).toNat) (D := { D with nx := tz D }) Pv h0 (fun i σ' H' hi p => hs i σ' H' (by omega) p) hd⟩
theorem q_while (Pv : Nat → St → Hp → Prop) {m : Nat} (h0 : Pv m σ H)
    (hs : ∀ m σ' H', Pv m σ' H' → ∃ b, Ans t σ' H' b ∧ (b = true → ∀ N : St → Hp → Prop, (∀ m' σ2 H2, m' < m → Pv m' σ2 H2 → N σ2 H2) → ts { D with nx := N, ct := N, bk := tz D } σ' H') ∧ (b = false → tz D σ' H')) : tSeq (tWhile t ts) tz D σ H := by
  refine ⟨Pv, ⟨m, h0⟩, fun m σ' H' p => ?_⟩
  obtain ⟨b, hb, h1, h2⟩ := hs m σ' H' p
  refine hb _ ?_
  cases b with
  | true => exact iteT ⟨fun σ2 H2 => ∃ m', m' < m ∧ Pv m' σ2 H2, fun σ2 H2 z => z, h1 rfl _ fun m' σ2 H2 l q => ⟨m', l, q⟩⟩
  | false => exact iteF (h2 rfl)

theorem q_fldH {p : Addr} {f : Str} (h : ValH te σ H P) (k : ∀ v H', P v H' → Val ta σ H' (.ref p) ∧ ∃ C dx fs, H' p = some (.ins C dx fs) ∧ Cls K C ∧ NoAttr K C f ∧ fs.length < 1000 ∧ tz D σ (upd H' p (.ins C dx (putF f v fs)))) :
    tSeq (sFld K ta te f) tz D σ H := h _ fun v H' p' => by
  obtain ⟨h1, C, dx, fs, h2, h3, h4, h5, h6⟩ := k v H' p'
  exact h1 _ ⟨p, C, dx, fs, rfl, h2, h3, h4, h5, h6⟩
theorem s_fldH {p : Addr} {f : Str} (h : ValH te σ H P) (k : ∀ v H', P v H' → Val ta σ H' (.ref p) ∧ ∃ C dx fs, H' p = some (.ins C dx fs) ∧ Cls K C ∧ NoAttr K C f ∧ fs.length < 1000 ∧ D.nx σ (upd H' p (.ins C dx (putF f v fs)))) :
    sFld K ta te f D σ H := h _ fun v H' p' => by
  obtain ⟨h1, C, dx, fs, h2, h3, h4, h5, h6⟩ := k v H' p'
  exact h1 _ ⟨p, C, dx, fs, rfl, h2, h3, h4, h5, h6⟩
theorem h_call {tr : TA} {sp : Sp} {E : XK} {vs : List V} (ht : AV tr σ H vs) (hs : ∀ Q : VK, (∀ v H', P v H' → Q v H') → sp (vs ++ []) H Q E) : ValH (tCall sp [] E tr) σ H P := fun Q q => ht _ (hs Q q)
theorem h_meth {tr : TA} {sp : Sp} {E : XK} {vs : List V} {C p dx : Addr} {m : Str} {fs : List (Str × V)} (ha : Val ta σ H (.ref p)) (ho : H p = some (.ins C dx fs)) (hl : fs.lookup m = none) (ht : AV tr σ H vs) (hs : ∀ Q : VK, (∀ v H', P v H' → Q v H') → sp (.ref p :: (vs ++ [])) H Q E) :
    ValH (tMeth C m sp [] E ta tr) σ H P := fun Q q => ha _ ⟨p, dx, fs, rfl, ho, hl, ht _ (hs Q q)⟩
theorem h_make {tr : TA} {sp : Sp} {E : XK} {vs : List V} {C : Addr} (ht : AV tr σ H vs)
    (hs : ∀ (Q : VK) x dx, H x = none → H dx = none → dx ≠ x → (∀ H', P (.ref x) H' → Q (.ref x) H') → sp (.ref x :: (vs ++ [])) (upd (upd H dx (.own x)) x (.ins C dx [])) (fun v H2 => v = .non ∧ Q (.ref x) H2) E) : ValH (tMake C sp [] E tr) σ H P :=
  fun Q q => ht _ fun x dx h1 h2 h3 => hs Q x dx h1 h2 h3 fun H' p => q _ _ p
/-! ### new objects -/
def NewL (H : Hp) (xs : List V) : V → Hp → Prop := fun v H' => ∃ p, v = .ref p ∧ H p = none ∧ H' = upd H p (.lst xs)
def NewT (H : Hp) (xs : List V) : V → Hp → Prop := fun v H' => ∃ p, v = .ref p ∧ H p = none ∧ H' = upd H p (.tup xs)
theorem h_lst {tr : TA} {xs : List V} (h : AV tr σ H xs) (hz : xs.length ≤ sizeLine) : ValH (tLst tr) σ H (NewL H xs) := fun Q q => h _ ⟨hz, fun p hp => q _ _ ⟨p, rfl, hp, rfl⟩⟩
theorem h_tup {tr : TA} {xs : List V} (h : AV tr σ H xs) (hz : xs.length ≤ sizeLine) : ValH (tTup tr) σ H (NewT H xs) := fun Q q => h _ ⟨hz, fun p hp => q _ _ ⟨p, rfl, hp, rfl⟩⟩
abbrev rListQ (K : PySem.W.Frag) : List V → Hp → VK → Prop := fun xs H Q => ∃ p ys, xs = [.ref p] ∧ (SqL K H p ys ∨ SqT K H p ys) ∧ ∀ l, H l = none → Q (.ref l) (upd H l (.lst ys))
theorem h_list {p : Addr} {xs : List V} (ha : Val ta σ H (.ref p)) (h : SqL K H p xs) : ValH (tCB (rListQ K) (tCons ta tNil)) σ H (NewL H xs) := fun Q q => ha _ ⟨p, xs, rfl, .inl h, fun l hl => q _ _ ⟨l, rfl, hl, rfl⟩⟩
theorem Val.h' (h : Val te σ H v) : ValH te σ H (fun v' H' => v' = v ∧ H' = H) := fun Q q => h Q (q v H ⟨rfl, rfl⟩)
theorem ValH.imp {P' : V → Hp → Prop} (h : ValH te σ H P) (k : ∀ v H', P v H' → P' v H') : ValH te σ H P' := fun Q q => h Q fun v H' p => q v H' (k v H' p)
end
/-! ### heaps -/
theorem same_upd {H : Hp} {p : Addr} {o : HO} (h : H p = none) : Same H (upd H p o) := fun b x e => by
  rw [upd_ne (ne_of_none e h)]
  exact e
theorem same_mut {H H' : Hp} {p : Addr} {o : HO} (e : Same H H') (h : H p = none) : Same H (upd H' p o) := fun b x q => by
  rw [upd_ne (ne_of_none q h)]
  exact e b x q
theorem ne_none {H : Hp} {a b : Addr} {o : HO} (h : H a = some o) (h' : H b = none) : a ≠ b := ne_of_none h h'
theorem sz_ok {n : Nat} (h : n ≤ 1000000) : n ≤ sizeLine := Nat.le_trans h (by decide)
theorem sz_lt {n : Nat} (h : n ≤ 1000000) : n < sizeLine := Nat.lt_of_le_of_lt h (by decide)
/-! ### the text's classes -/
structure Cs where
  House : Addr
  Flow : Addr
  BadHouse : Addr
  NoWalk : Addr
  BadPaper : Addr
  NoText : Addr
  HallError : Addr
structure HouseC (K : PySem.W.Frag) (C : Cs) : Prop where
  cl : Cls K C.House
  held : NoAttr K C.House "held"
  laid : NoAttr K C.House "laid"
structure FlowC (K : PySem.W.Frag) (C : Cs) : Prop where
  cl : Cls K C.Flow
  folk : NoAttr K C.Flow "folk"
  doors : NoAttr K C.Flow "doors"
  last : NoAttr K C.Flow "last"
  entered : NoAttr K C.Flow "entered"
  waited : NoAttr K C.Flow "waited"
  begun : NoAttr K C.Flow "begun"
/-! ### built-in names -/
structure Bn (mg : Str → Option Value) : Prop where
  len_ : mg "len" = none
  list_ : mg "list" = none
  tuple_ : mg "tuple" = none
  range_ : mg "range" = none
  sum_ : mg "sum" = none
  min_ : mg "min" = none
  max_ : mg "max" = none
  isinstance_ : mg "isinstance" = none
  str_ : mg "str" = none
  int_ : mg "int" = none
  bool_ : mg "bool" = none
  enumerate_ : mg "enumerate" = none
  ValueError_ : mg "ValueError" = none
/-- an own error -/
structure Xc (K : PySem.W.Frag) (mg : Str → Option Value) (nm : Str) (C : Addr) : Prop where
  xi : PySem.W.excIn K C He.veBase "ValueError.__new__" = true
  g : mg nm = some (.ref C)
  k : PySem.W.keepIn K (.ref C) = true
  b : PySem.W.subIn K (.ref C) (.type "BaseException") = some true
  t : PySem.W.typeIn K (.ref C) = some (.type "type")
/-! ### the library's rules, the written part named -/
section
variable {X : Cx} {K : PySem.W.Frag}
theorem ix_listK (h : X.K = K) : IxR X (rIxL K) := by subst h; exact ix_list
theorem ix_tupK (h : X.K = K) : IxR X (rIxT K) := by subst h; exact ix_tup
theorem sl_listK (h : X.K = K) : SlR X (rSlL K) := by subst h; exact sl_list
theorem call_len_seqK (h : X.K = K) : CallR X (.builtin "len") (rLenQ K) := by subst h; exact call_len_seq
theorem call_list_ofK (h : X.K = K) : CallR X (.type "list") (rListQ K) := by subst h; exact call_list_of
abbrev rTupQ (K : PySem.W.Frag) : List V → Hp → VK → Prop := fun xs H Q => ∃ a ys, xs = [.ref a] ∧ SqT K H a ys ∧ Q (.ref a) H
theorem call_tupleTK (h : X.K = K) : CallR X (.type "tuple") (rTupQ K) := by subst h; exact call_tupleT
abbrev rTup2Q (K : PySem.W.Frag) : List V → Hp → VK → Prop := fun xs H Q => ∃ p ys, xs = [.ref p] ∧ ((SqL K H p ys ∧ ∀ l, H l = none → Q (.ref l) (upd H l (.tup ys))) ∨ (SqT K H p ys ∧ Q (.ref p) H))
theorem call_tuple_ofK (h : X.K = K) : CallR X (.type "tuple") (rTup2Q K) := by subst h; exact call_tuple_of
theorem cr_sumK (h : X.K = K) (hc : X.calm = true) : CallR X (.builtin "sum") (rSum K) := by subst h; exact cr_sum hc
theorem cr_minK' (h : X.K = K) (hc : X.calm = true) : CallR X (.builtin "min") (rMin K) := by subst h; exact cr_min hc
theorem call_isiK' (h : X.K = K) : CallR X (.builtin "isinstance") (rIsi K) := by subst h; exact call_isi
theorem op_eqDK (h : X.K = K) (hu : X.A.units + 64 < cLine) : OpR X (compareOp .Eq) (rEqD K) := by subst h; exact op_eqD hu
theorem op_neDK (h : X.K = K) (hu : X.A.units + 64 < cLine) : OpR X (compareOp .NotEq) (rNeD K) := by subst h; exact op_neD hu
theorem op_in_seqK (h : X.K = K) : OpR X (compareOp .In) (rIn K false) := by subst h; exact op_in_seq
theorem op_notIn_seqK (h : X.K = K) : OpR X (compareOp .NotIn) (rIn K true) := by subst h; exact op_notIn_seq
theorem mt_indexK (h : X.K = K) : MtR X "list.index" (rIndex K) := by subst h; exact mt_index
theorem mt_lcountK (h : X.K = K) : MtR X "list.count" (rCntI K) := by subst h; exact mt_lcount
theorem pi_listK {tg l : Expr} {tl : TE} (h : X.K = K) (hl : PE X l tl) : PI X tg l (iList K tl) := by subst h; exact pi_list hl
theorem pi_tupK {tg l : Expr} {tl : TE} (h : X.K = K) (hl : PE X l tl) : PI X tg l (iTup K tl) := by subst h; exact pi_tup hl
theorem pi_enumK {e : Expr} {ta : TA} {p pos tpos : Pos} {elts : List Expr} {kk : Nat} (h : X.K = K) (hg : Gl X "enumerate") (hm : X.mg "enumerate" = none) (ha : PA X [e] ta) (hs : starEach [e] X.env = [(false, eval e X.env)] := by rfl) :
    PI X (.Tuple elts kk tpos) (.Call (.Name "enumerate" p) [e] [] pos) (iEnum K ta) := by subst h; exact pi_enum hg hm ha hs
theorem pe_fldK {e : Expr} {f : Str} {pos : Pos} {ta : TE} (h : X.K = K) (he : PE X e ta) (hb : attributeBase e f X.env (eval e X.env) = eval e X.env) : PE X (.Attribute e f pos) (tFld K ta f) := by subst h; exact pe_fld he hb
theorem ps_fldK {o value : Expr} {f : Str} {pos pos' : Pos} {ta tv : TE} (h : X.K = K) (ha : PE X o ta) (hv : PE X value tv) (hs : swapsWith value (some (.Attribute o f pos')) pos.line X.env = pure false) : PS X (.Assign [.Attribute o f pos'] value pos) (sFld K ta tv f) := by subst h; exact ps_fld ha hv hs
theorem pe_bm0K {o : Expr} {to : TE} {name : Str} {apos cpos : Pos} {T id : String} {r : V → List V → Hp → VK → Prop} (h : X.K = K) (pa : PlainAttrs T) (slot : Slot T name id) (hty : typeOf (.builtin id) = pure (.type "method_descriptor")) (hm : MtR X id r) (ho : PE X o to)
    (hbase : attributeBase o name X.env (eval o X.env) = eval o X.env := by rfl) (hline : (apos.endLine == cpos.line) = true := by rfl) : PE X (.Call (.Attribute o name apos) [] [] cpos) (tBM0 K T r to) := by subst h; exact pe_bm0 pa slot hty hm ho hbase hline
theorem pe_bmK {o e : Expr} {es : List Expr} {to : TE} {t : TA} {name : Str} {apos cpos : Pos} {T id : String} {r : V → List V → Hp → VK → Prop} (h : X.K = K) (pa : PlainAttrs T) (slot : Slot T name id) (hty : typeOf (.builtin id) = pure (.type "method_descriptor")) (hm : MtR X id r) (ho : PE X o to) (ha : PA X (e :: es) t)
    (hbase : attributeBase o name X.env (eval o X.env) = eval o X.env := by rfl)
    (hfew : ((backTo cpos (starEach (e :: es) X.env)).all (fun x => !x.1) && (backToKw cpos (keywordEach [] X.env)).all (fun x => x.1.isSome)
      && decide ((e :: es).length + ([] : List Keyword).length + (if ([] : List Keyword).isEmpty then 0 else 1) < 30)) = true := by rfl)
    (hline : (apos.endLine == cpos.line) = true := by rfl) (hs : starEach (e :: es) X.env = (false, eval e X.env) :: starEach es X.env := by rfl) (hplain : (backTo cpos (starEach es X.env)).any (·.1) = false := by rfl) :
    PE X (.Call (.Attribute o name apos) (e :: es) [] cpos) (tBM K T r to t) := by subst h; exact pe_bm pa slot hty hm ho ha hbase hfew hline hs hplain
theorem pg_tupK {es : List Expr} {k : Nat} {pos : Pos} {t : TGs} {n : Nat} (h : X.K = K) (hc : X.calm = true) (hh : PGs X es t)
    (hn : (assignEach es X.env).length = n := by rfl) (hst : (assignEach es X.env).findIdx? (·.1) = none := by rfl) : PG X (.Tuple es k pos) (gTup K n t) := by subst h; exact pg_tup hc hh hn hst
end
end EH

set_option maxHeartbeats 2000000
/-! own layer, 2: houses as data; lists of ways on the heap; comprehensions -/
namespace EH
open PySem PySem.Spec PyProof.Rows L2
/-! ### a def's promise under its name -/
section
variable {P : Program} {w : World} {K : PySem.W.Frag} {mg : Str → Option Value} {base : Heap}
theorem cal_of {CX : CXT} {k : Nat} {x : Str} {st : Stmt} {f : Addr} {fd : FuncData} {ps : List Str} {sp : Sp} (D : FnP K x x st f fd) (hm : mg x = some (.ref f)) (F : FnOk P w K mg base CX k f fd ps sp)
   (h : ∀ (kV doc pm : Value) (an : Option Addr) (cdv ct : Value) (us : List Value), us.length = ps.length → bindArgs (PySem.W.fnOf x x (defArgs st) (defBody st) (defScope st) .none kV doc pm an cdv ct) ⟨us, []⟩ = pure (ps.zip us)) :
   Cal P w K mg base CX k x sp := ⟨f, fd, ps, F, hm, D.kp, D.bindsN h⟩
theorem met_of {CX : CXT} {k : Nat} {x q : Str} {st : Stmt} {f A : Addr} {fd : FuncData} {ps : List Str} {sp : Sp} (D : FnP K x q st f fd) (hc : Cls K A) (hm : Meth K A x f) (F : FnOk P w K mg base CX k f fd ps sp)
   (h : ∀ (kV doc pm : Value) (an : Option Addr) (cdv ct : Value) (us : List Value), us.length = ps.length → bindArgs (PySem.W.fnOf x q (defArgs st) (defBody st) (defScope st) .none kV doc pm an cdv ct) ⟨us, []⟩ = pure (ps.zip us)) :
   Met P w K mg base CX k A x sp := ⟨f, fd, ps, hc, hm, F, D.bindsN h⟩
theorem mak_of {CX : CXT} {k : Nat} {x q : Str} {st : Stmt} {f A : Addr} {fd : FuncData} {ps : List Str} {sp : Sp} (D : FnP K "__init__" q st f fd) (hm : mg x = some (.ref A)) (M : Mk K A f) (F : FnOk P w K mg base CX k f fd ps sp)
   (h : ∀ (kV doc pm : Value) (an : Option Addr) (cdv ct : Value) (us : List Value), us.length = ps.length → bindArgs (PySem.W.fnOf "__init__" q (defArgs st) (defBody st) (defScope st) .none kV doc pm an cdv ct) ⟨us, []⟩ = pure (ps.zip us)) :
   Mak P w K mg base CX k x A sp := ⟨f, fd, ps, M, F, hm, D.bindsN h⟩
end
/-! ### data -/
structure Way where
  s : Int
  e : Int
  w : Int
  l : Int
  deriving DecidableEq, Inhabited
def wayV (w : Way) : List V := [.int w.s, .int w.e, .int w.w, .int w.l]
def intsD (ns : List Int) : PyData := .list (ns.map PyData.int)
def wayD (w : Way) : PyData := .tuple [.int w.s, .int w.e, .int w.w, .int w.l]
def waysD (ws : List Way) : PyData := .list (ws.map wayD)
inductive All2 {α β : Type} (R : α → β → Prop) : List α → List β → Prop
  | nil : All2 R [] []
  | cons {a b as bs} : R a b → All2 R as bs → All2 R (a :: as) (b :: bs)
theorem All2.len {α β : Type} {R : α → β → Prop} : ∀ {as : List α} {bs : List β}, All2 R as bs → as.length = bs.length
  | _, _, .nil => rfl
  | _, _, .cons _ t => congrArg Nat.succ t.len
theorem All2.imp {α β : Type} {R S : α → β → Prop} : ∀ {as : List α} {bs : List β}, All2 R as bs → (∀ a b, R a b → S a b) → All2 S as bs
  | _, _, .nil, _ => .nil
  | _, _, .cons h t, f => .cons (f _ _ h) (t.imp f)
theorem All2.get {α β : Type} {R : α → β → Prop} : ∀ {as : List α} {bs : List β} {i : Nat} {b : β}, All2 R as bs → bs[i]? = some b → ∃ a, as[i]? = some a ∧ R a b
  | _, _, _, _, .nil, h => by simp at h
  | _, _, 0, b, .cons h t, e => by
    simp at e
    subst e
    exact ⟨_, rfl, h⟩
  | _, _, i + 1, b, .cons h t, e => by
    obtain ⟨a, h1, h2⟩ := t.get (i := i) (by simpa using e)
    exact ⟨a, by simpa using h1, h2⟩
theorem All2.get' {α β : Type} {R : α → β → Prop} : ∀ {as : List α} {bs : List β} {i : Nat} {a : α}, All2 R as bs → as[i]? = some a → ∃ b, bs[i]? = some b ∧ R a b
  | _, _, _, _, .nil, h => by simp at h
  | _, _, 0, b, .cons h t, e => by
    simp at e
    subst e
    exact ⟨_, rfl, h⟩
  | _, _, i + 1, b, .cons h t, e => by
    obtain ⟨a, h1, h2⟩ := t.get' (i := i) (by simpa using e)
    exact ⟨a, by simpa using h1, h2⟩
theorem All2.set {α β : Type} {R : α → β → Prop} {a : α} {b : β} (r : R a b) : ∀ {as : List α} {bs : List β} (i : Nat), All2 R as bs → All2 R (as.set i a) (bs.set i b)
  | _, _, _, .nil => .nil
  | _, _, 0, .cons _ t => .cons r t
  | _, _, i + 1, .cons h t => .cons h (All2.set r i t)
theorem All2.of_get {α β : Type} {R : α → β → Prop} : ∀ {as : List α} {bs : List β}, as.length = bs.length → (∀ (i : Nat) (a : α) (b : β), as[i]? = some a → bs[i]? = some b → R a b) → All2 R as bs
  | [], [], _, _ => .nil
  | a :: as, b :: bs, hl, h => .cons (h 0 a b rfl rfl) (All2.of_get (by simpa using hl) fun i x y hx hy => h (i + 1) x y (by simpa using hx) (by simpa using hy))
def WayAt (H : Hp) (a : Addr) (w : Way) : Prop := H a = some (.tup (wayV w))
def WaysAt (H : Hp) (as : List Addr) (ws : List Way) : Prop := All2 (WayAt H) as ws
theorem WaysAt.same {H H' : Hp} {as : List Addr} {ws : List Way} (h : WaysAt H as ws) (e : Same H H') : WaysAt H' as ws := All2.imp h fun a w q => e a _ q
theorem WaysAt.fresh {H : Hp} {as : List Addr} {ws : List Way} (h : WaysAt H as ws) {p : Addr} (hp : H p = none) : p ∉ as := fun m => by
  obtain ⟨i, hi⟩ := List.getElem?_of_mem m
  obtain ⟨w, _, hw⟩ := All2.get' h hi
  have hw : H p = some (.tup (wayV w)) := hw
  rw [hp] at hw
  cases hw
/-! ### == of data -/
theorem dp_all_ints {K : PySem.W.Frag} {H : Hp} : ∀ ns : List Int, DpAll K H (ns.map V.int) (ns.map PyData.int)
  | [] => .nil
  | n :: ns => .cons (.int n) (dp_all_ints ns)
theorem dp_ints {K : PySem.W.Frag} {H : Hp} {p : Addr} {ns : List Int} (h : H p = some (.lst (ns.map V.int))) : Dp K H (.ref p) (intsD ns) := .lst (SqL.of h) (dp_all_ints ns)
theorem dp_way {K : PySem.W.Frag} {H : Hp} {p : Addr} {w : Way} (h : WayAt H p w) : Dp K H (.ref p) (wayD w) := .tup (SqT.of h) (.cons (.int _) (.cons (.int _) (.cons (.int _) (.cons (.int _) .nil))))
theorem dp_all_ways {K : PySem.W.Frag} {H : Hp} : ∀ {as : List Addr} {ws : List Way}, WaysAt H as ws → DpAll K H (as.map V.ref) (ws.map wayD)
  | _, _, .nil => .nil
  | _, _, .cons h t => .cons (dp_way h) (dp_all_ways t)
theorem dp_ways {K : PySem.W.Frag} {H : Hp} {p : Addr} {as : List Addr} {ws : List Way} (h : H p = some (.lst (as.map V.ref))) (hw : WaysAt H as ws) : Dp K H (.ref p) (waysD ws) := .lst (SqL.of h) (dp_all_ways hw)
theorem lay_ints : ∀ ns : List Int, PyData.canLayAll0 (ns.map PyData.int) = true
  | [] => rfl
  | n :: ns => by simp [PyData.canLayAll0, PyData.canLay0, lay_ints ns]
theorem lay_ways : ∀ ws : List Way, PyData.canLayAll0 (ws.map wayD) = true
  | [] => rfl
  | w :: ws => by simp [PyData.canLayAll0, PyData.canLay0, wayD, lay_ways ws]
theorem dep_ints : ∀ ns : List Int, PyData.depthAll (ns.map PyData.int) = 0
  | [] => rfl
  | n :: ns => by simp [PyData.depthAll, PyData.depth, dep_ints ns]
theorem dep_ways : ∀ ws : List Way, PyData.depthAll (ws.map wayD) ≤ 1
  | [] => by simp [PyData.depthAll]
  | w :: ws => by
    have := dep_ways ws
    simp [PyData.depthAll, PyData.depth, wayD, this]
theorem shaped_ints (ns : List Int) : SeqAt.shaped (intsD ns) = true := by
  simp [SeqAt.shaped, intsD, PyData.canLay0, lay_ints, PyData.depth, dep_ints]
theorem shaped_ways (ws : List Way) : SeqAt.shaped (waysD ws) = true := by
  have := dep_ways ws
  simp [SeqAt.shaped, waysD, PyData.canLay0, lay_ways, PyData.depth]
  omega
theorem shaped_nil : SeqAt.shaped (.list []) = true := by simp [SeqAt.shaped, PyData.canLay0, PyData.canLayAll0, PyData.depth, PyData.depthAll]
theorem shaped_pair {a b : PyData} (ha : SeqAt.shaped a = true) (hb : SeqAt.shaped b = true) (da : a.depth ≤ 60) (db : b.depth ≤ 60) : SeqAt.shaped (.list [a, b]) = true := by
  simp [SeqAt.shaped] at ha hb
  simp [SeqAt.shaped, PyData.canLay0, PyData.canLayAll0, PyData.depth, PyData.depthAll, ha.1, hb.1]
  omega
theorem dep_intsD (ns : List Int) : (intsD ns).depth ≤ 60 := by simp [intsD, PyData.depth, dep_ints]
theorem dep_waysD (ws : List Way) : (waysD ws).depth ≤ 60 := by
  have := dep_ways ws
  simp [waysD, PyData.depth]
  omega
theorem eqv_refl {d : PyData} (h : SeqAt.shaped d = true) : PyData.eqv d d = true := SeqAt.eqv_refl d (SeqAt.canLay_of_shaped h)
theorem eqvAll_ints : ∀ a b : List Int, PyData.eqvAll (a.map PyData.int) (b.map PyData.int) = decide (a = b)
  | [], [] => rfl
  | [], b :: bs => by simp [PyData.eqvAll]
  | a :: as, [] => by simp [PyData.eqvAll]
  | a :: as, b :: bs => by
    simp only [List.map_cons, PyData.eqvAll, PyData.eqv, eqvAll_ints as bs]
    by_cases h : a = b <;> simp [h]
theorem eqv_ints (a b : List Int) : PyData.eqv (intsD a) (intsD b) = decide (a = b) := by
  simp only [intsD, PyData.eqv, eqvAll_ints]
theorem eqv_way (a b : Way) : PyData.eqv (wayD a) (wayD b) = decide (a = b) := by
  obtain ⟨a1, a2, a3, a4⟩ := a
  obtain ⟨b1, b2, b3, b4⟩ := b
  simp only [wayD, PyData.eqv, PyData.eqvAll]
  rw [Bool.eq_iff_iff]
  simp
theorem eqvAll_ways : ∀ a b : List Way, PyData.eqvAll (a.map wayD) (b.map wayD) = decide (a = b)
  | [], [] => rfl
  | [], b :: bs => by simp [PyData.eqvAll]
  | a :: as, [] => by simp [PyData.eqvAll]
  | a :: as, b :: bs => by
    simp only [List.map_cons, PyData.eqvAll, eqv_way, eqvAll_ways as bs]
    by_cases h : a = b <;> simp [h]
theorem eqv_ways (a b : List Way) : PyData.eqv (waysD a) (waysD b) = decide (a = b) := by
  simp only [waysD, PyData.eqv, eqvAll_ways]
theorem eqv_ways_nil (a : List Way) : PyData.eqv (waysD a) (.list []) = decide (a = []) := by
  cases a <;> simp [waysD, PyData.eqv, PyData.eqvAll]
theorem eqv_ints_nil (a : List Int) : PyData.eqv (intsD a) (.list []) = decide (a = []) := by
  cases a <;> simp [intsD, PyData.eqv, PyData.eqvAll]
/-! ### comprehensions -/
/-- what is said of an item hangs on no list -/
def NoList (R : V → Hp → Prop) : Prop := ∀ v H H', R v H → (∀ a o, H a = some o → (∀ xs, o ≠ .lst xs) → H' a = some o) → R v H'
theorem noList_c {P : V → Prop} : NoList (fun v _ => P v) := fun _ _ _ h _ => h
theorem noList_tup {f : List V} {P : V → Prop} : NoList (fun v H => ∃ p, v = .ref p ∧ H p = some (.tup f)) := fun _ _ _ ⟨p, e, h⟩ k => ⟨p, e, k p _ h (fun _ z => by cases z)⟩
def Made (H : Hp) (n : Nat) (R : Nat → V → Hp → Prop) : V → Hp → Prop := fun v H' => ∃ D acc, v = .ref D ∧ H D = none ∧ Same H H' ∧ H' D = some (.lst acc) ∧ acc.length = n ∧ ∀ i x, acc[i]? = some x → R i x H'
/-- what a comprehension keeps: the list so far -/
structure LcInv (H1 : Hp) (D : Addr) (R : Nat → V → Hp → Prop) (i : Nat) (H' : Hp) : Prop where
  fr : H1 D = none
  sm : Same H1 H'
  acc : ∃ acc, H' D = some (.lst acc) ∧ acc.length = i ∧ ∀ k x, acc[k]? = some x → R k x H'
section
variable {K : PySem.W.Frag} {σ : L2.St} {H : Hp} {tl te : TE} {j : Nat} {vs : List Nat} {R : Nat → V → Hp → Prop}
theorem lc_start {D : Addr} (hD : H D = none) : LcInv H D R 0 (upd H D (.lst [])) := ⟨hD, same_upd hD, [], upd_same, rfl, fun k x h => by simp at h⟩
theorem lc_turn {H1 H' : Hp} {D : Addr} {i : Nat} {σ2 : L2.St} (hR : ∀ i, NoList (R i)) (hi : i < 100000) (p : LcInv H1 D R i H') (he : ValH te σ2 H' (fun v H2 => Same H' H2 ∧ R i v H2)) :
    tYes σ2 H' fun b H3 => if b = true then te σ2 H3 fun y H4 => ∃ acc, H4 D = some (.lst acc) ∧ acc.length < sizeLine ∧ LcInv H1 D R (i + 1) (upd H4 D (.lst (acc ++ [y]))) else LcInv H1 D R (i + 1) H3 := by
  obtain ⟨fr, sm, acc, ha, hl, hk⟩ := p
  refine iteT (B := LcInv H1 D R (i + 1) H') ?_
  refine he _ fun v H2 hv => ?_
  obtain ⟨e2, rv⟩ := hv
  refine ⟨acc, e2 D _ ha, sz_lt (by omega), fr, same_mut (sm.trans e2) fr, acc ++ [v], upd_same, by simp [hl], fun k x hx => ?_⟩
  have hst : ∀ a o, H2 a = some o → (∀ xs, o ≠ .lst xs) → (upd H2 D (.lst (acc ++ [v]))) a = some o := fun a o h1 h2 => by
    have : a ≠ D := fun z => by
      rw [z, e2 D _ ha] at h1
      exact h2 acc (Option.some.inj h1).symm
    rw [upd_ne this]
    exact h1
  by_cases hkl : k < acc.length
  · rw [List.getElem?_append_left hkl] at hx
    exact hR k x _ _ (hR k x _ _ (hk k x hx) fun a o h1 _ => e2 a o h1) hst
  · have hka : k = acc.length := by
      have := (List.getElem?_eq_some_iff.mp hx).1
      simp at this
      omega
    subst hka
    rw [List.getElem?_append_right (Nat.le_refl _), Nat.sub_self] at hx
    have : v = x := by simpa using hx
    subst this
    rw [hl]
    exact hR i v _ _ rv hst
/-- over range(n) -/
theorem h_lcR {tr : TA} {n : Int} (h : AV tr σ H [.int n]) (hn : 0 ≤ n ∧ n ≤ 40000) (hw : ∀ x, wipe ((wipe σ vs).set j (some x)) vs = wipe σ vs) (R : Nat → V → Hp → Prop) (hR : ∀ i, NoList (R i))
    (he : ∀ (i : Nat) H', (i : Int) < n → Same H H' → ValH te ((wipe σ vs).set j (some (.int (i : Int)))) H' (fun v H2 => Same H' H2 ∧ R i v H2)) : ValH (tLc (iRng1 tr) (gName j) tYes te vs) σ H (Made H n.toNat R) := fun Q q =>
  h _ ⟨n, rfl, by omega, by omega, fun D hD => lc_range (lo := 0) (n := n.toNat) (LcInv H D R) (lc_start hD) (fun i H' hi p => by
    rw [Int.zero_add]
    exact ⟨hw _, lc_turn hR (by omega) p (he i H' (by omega) p.sm)⟩) fun H' p => by
      obtain ⟨fr, sm, acc, h1, h2, h3⟩ := p
      exact q _ _ ⟨D, acc, rfl, fr, sm, h1, h2, h3⟩⟩
/-- over a list -/
theorem h_lcL {p : Addr} {xs : List V} (h : Val tl σ H (.ref p)) (hx : SqL K H p xs) (hz : xs.length ≤ 40000) (hw : ∀ x, wipe ((wipe σ vs).set j (some x)) vs = wipe σ vs) (R : Nat → V → Hp → Prop) (hR : ∀ i, NoList (R i))
    (he : ∀ (i : Nat) x H', xs[i]? = some x → Same H H' → ValH te ((wipe σ vs).set j (some x)) H' (fun v H2 => Same H' H2 ∧ R i v H2)) : ValH (tLc (iList K tl) (gName j) tYes te vs) σ H (Made H xs.length R) := fun Q q =>
  h _ ⟨p, rfl, ⟨xs, hx⟩, fun D hD => lc_list (K := K) (a := p) (xs := xs) (LcInv H D R) (lc_start hD) (fun i H' _ r => Evl.ex_l r.sm hx) (fun i x H' hi r =>
    ⟨hw _, lc_turn hR (by have := (List.getElem?_eq_some_iff.mp hi).1; omega) r (he i x H' hi r.sm)⟩) fun H' r => by
      obtain ⟨fr, sm, acc, h1, h2, h3⟩ := r
      exact q _ _ ⟨D, acc, rfl, fr, sm, h1, h2, h3⟩⟩
end
/-- items that are told by their place -/
theorem made_eq {H H' : Hp} {n : Nat} {f : Nat → V} {v : V} (h : Made H n (fun i x _ => x = f i) v H') : ∃ D, v = .ref D ∧ H D = none ∧ Same H H' ∧ H' D = some (.lst ((List.range n).map f)) := by
  obtain ⟨D, acc, rfl, fr, sm, h1, h2, h3⟩ := h
  refine ⟨D, rfl, fr, sm, ?_⟩
  have : acc = (List.range n).map f := by
    apply List.ext_getElem?
    intro i
    by_cases hi : i < n
    · rw [List.getElem?_map, List.getElem?_range hi]
      have hi' : i < acc.length := by omega
      rw [List.getElem?_eq_getElem hi']
      have := h3 i acc[i] (List.getElem?_eq_getElem hi')
      rw [this]
      rfl
    · rw [List.getElem?_eq_none (by omega), List.getElem?_eq_none (by simp; omega)]
  rw [h1, this]
/-- items that are tuples of ways -/
theorem made_ways {H H' : Hp} {n : Nat} {f : Nat → Way} {v : V} (h : Made H n (fun i x H2 => ∃ p, x = .ref p ∧ WayAt H2 p (f i)) v H') :
    ∃ D as, v = .ref D ∧ H D = none ∧ Same H H' ∧ H' D = some (.lst (as.map V.ref)) ∧ WaysAt H' as ((List.range n).map f) := by
  obtain ⟨D, acc, rfl, fr, sm, h1, h2, h3⟩ := h
  have key : ∀ (m : Nat) (l : List V) (g : Nat → Way), l.length = m → (∀ i x, l[i]? = some x → ∃ p, x = .ref p ∧ WayAt H' p (g i)) → ∃ as : List Addr, l = as.map V.ref ∧ WaysAt H' as ((List.range m).map g) := by
    intro m
    induction m with
    | zero =>
      intro l g hl _
      have : l = [] := List.eq_nil_of_length_eq_zero hl
      subst this
      exact ⟨[], rfl, .nil⟩
    | succ m ih =>
      intro l g hl hx
      cases l with
      | nil => simp at hl
      | cons x l =>
        obtain ⟨p, rfl, hp⟩ := hx 0 x rfl
        obtain ⟨as, e, hw⟩ := ih l (fun i => g (i + 1)) (by simpa using hl) fun i y hy => hx (i + 1) y (by simpa using hy)
        refine ⟨p :: as, by simp [e], ?_⟩
        rw [List.range_succ_eq_map, List.map_cons, List.map_map]
        exact .cons hp hw
  obtain ⟨as, e, hw⟩ := key n acc f h2 h3
  exact ⟨D, as, rfl, fr, sm, by rw [h1, e], hw⟩
/-- a written list at a reckoned place -/
theorem h_ixLst {K : PySem.W.Frag} {σ : L2.St} {H : Hp} {tr : TA} {tb : TE} {xs : List V} {i : Int} {z : V} (h : AV tr σ H xs) (hz : xs.length ≤ 1000) (hb : ∀ H', Same H H' → Val tb σ H' (.int i)) (hi : atI xs i = some z) :
    ValH (tOp (rIxL K) (tLst tr) tb) σ H (fun v H' => v = z ∧ Same H H') := fun Q q => h _ ⟨sz_ok (by omega), fun p hp => hb _ (same_upd hp) _ ⟨p, xs, i, z, rfl, rfl, SqL.of upd_same, hi, q _ _ ⟨rfl, same_upd hp⟩⟩⟩
end EH

set_option maxHeartbeats 2000000
/-! own layer, 3: values, tests, arguments that leave new objects behind (the heap grows) -/
namespace EH
open PySem PySem.Spec PyProof.Rows L2
def GV (te : TE) (σ : St) (H : Hp) (v : V) : Prop := ∀ Q : VK, (∀ H', Same H H' → Q v H') → te σ H Q
def AG (t : TT) (σ : St) (H : Hp) (b : Bool) : Prop := ∀ Q : Bool → Hp → Prop, (∀ H', Same H H' → Q b H') → t σ H Q
def AVG (t : TA) (σ : St) (H : Hp) (vs : List V) : Prop := ∀ Q : List V → Hp → Prop, (∀ H', Same H H' → Q vs H') → t σ H Q
section
variable {K : PySem.W.Frag} {σ : St} {H : Hp} {ta tb tc te : TE} {t u : TT} {x y z v : V} {a b c : Bool} {i j k : Int} {D : Ends} {ts tz tu : TS} {P : V → Hp → Prop}
theorem g_of (h : Val te σ H v) : GV te σ H v := fun Q q => h Q (q H (Same.refl H))
theorem ag_of (h : Ans t σ H b) : AG t σ H b := fun Q q => h Q (q H (Same.refl H))
theorem avg_of {tr : TA} {vs : List V} (h : AV tr σ H vs) : AVG tr σ H vs := fun Q q => h Q (q H (Same.refl H))
theorem g_I0 {g : Int → Int → V} (ha : GV ta σ H (.int i)) (hb : ∀ H', Same H H' → GV tb σ H' (.int j)) : GV (tOp (rI0 g) ta tb) σ H (g i j) := fun Q q => ha _ fun H1 e1 => hb H1 e1 _ fun H2 e2 => ⟨i, j, rfl, rfl, q H2 (e1.trans e2)⟩
theorem g_I {C : Int → Int → Prop} {g : Int → Int → V} (ha : GV ta σ H (.int i)) (hb : ∀ H', Same H H' → GV tb σ H' (.int j)) (hc : C i j) : GV (tOp (rI C g) ta tb) σ H (g i j) := fun Q q => ha _ fun H1 e1 => hb H1 e1 _ fun H2 e2 => ⟨i, j, rfl, rfl, hc, q H2 (e1.trans e2)⟩
theorem g_ixLst {tr : TA} {xs : List V} (h : AV tr σ H xs) (hz : xs.length ≤ 1000) (hb : ∀ H', Same H H' → Val tb σ H' (.int i)) (hi : atI xs i = some z) : GV (tOp (rIxL K) (tLst tr) tb) σ H z := fun Q q =>
  h_ixLst h hz hb hi Q fun v H' p => by
    obtain ⟨rfl, e⟩ := p
    exact q H' e
theorem g_call {tr : TA} {sp : Sp} {E : XK} {vs : List V} (ht : AV tr σ H vs) (hs : ∀ Q : VK, (∀ H', Same H H' → Q v H') → sp (vs ++ []) H Q E) : GV (tCall sp [] E tr) σ H v := fun Q q => ht _ (hs Q q)
theorem GV.h (h : GV te σ H v) : ValH te σ H (fun v' H' => v' = v ∧ Same H H') := fun Q q => h Q fun H' e => q v H' ⟨rfl, e⟩
theorem avg_nil : AVG tNil σ H [] := fun _ q => q H (Same.refl H)
theorem avg_cons {tr : TA} {vs : List V} (h : GV ta σ H x) (hr : ∀ H', Same H H' → AVG tr σ H' vs) : AVG (tCons ta tr) σ H (x :: vs) := fun _ q => h _ fun H1 e1 => hr H1 e1 _ fun H2 e2 => q H2 (e1.trans e2)
theorem h_tupG {tr : TA} {xs : List V} (h : AVG tr σ H xs) (hz : xs.length ≤ 1000) : ValH (tTup tr) σ H (fun v H' => ∃ p, v = .ref p ∧ H p = none ∧ Same H H' ∧ H' p = some (.tup xs)) := fun Q q => h _ fun H1 e1 => ⟨sz_ok (by omega), fun p hp => q _ _ ⟨p, rfl, e1.free hp, e1.trans (same_upd hp), upd_same⟩⟩
theorem h_lstG {tr : TA} {xs : List V} (h : AVG tr σ H xs) (hz : xs.length ≤ 1000) : ValH (tLst tr) σ H (fun v H' => ∃ p, v = .ref p ∧ H p = none ∧ Same H H' ∧ H' p = some (.lst xs)) := fun Q q => h _ fun H1 e1 => ⟨sz_ok (by omega), fun p hp => q _ _ ⟨p, rfl, e1.free hp, e1.trans (same_upd hp), upd_same⟩⟩
theorem ag_test (h : GV te σ H (.bl b)) : AG (tTest te) σ H b := fun _ q => h _ fun H1 e1 => ⟨b, rfl, q H1 e1⟩
theorem ag_B (h : GV te σ H (.bl b)) : AG (tB te) σ H b := fun _ q => h _ fun H1 e1 => ⟨b, rfl, q H1 e1⟩
theorem ag_not (h : AG t σ H a) : AG (tNot t) σ H (!a) := fun _ q => h _ q
theorem ag_and (h1 : AG t σ H a) (h2 : a = true → ∀ H', Same H H' → AG u σ H' b) : AG (tAnd t u) σ H (a && b) := fun Q q => h1 _ fun H1 e1 => by
  cases a with
  | true => exact iteT (h2 rfl H1 e1 Q fun H2 e2 => q H2 (e1.trans e2))
  | false => exact iteF (q H1 e1)
theorem ag_or (h1 : AG t σ H a) (h2 : a = false → ∀ H', Same H H' → AG u σ H' b) : AG (tOr t u) σ H (a || b) := fun Q q => h1 _ fun H1 e1 => by
  cases a with
  | true => exact iteT (q H1 e1)
  | false => exact iteF (h2 rfl H1 e1 Q fun H2 e2 => q H2 (e1.trans e2))
/-- == and != of data; the right one may be made on the way -/
theorem g_neD {d e : PyData} (ha : GV ta σ H x) (hb : ∀ H', Same H H' → ValH tb σ H' (fun y H2 => Same H' H2 ∧ Dp K H2 x d ∧ Dp K H2 y e)) (sd : SeqAt.shaped d = true) (se : SeqAt.shaped e = true) : GV (tOp (rNeD K) ta tb) σ H (.bl (!PyData.eqv d e)) :=
  fun Q q => ha _ fun H1 e1 => hb H1 e1 _ fun y H2 p => ⟨d, e, p.2.1, p.2.2, sd, se, q H2 (e1.trans p.1)⟩
theorem g_eqD {d e : PyData} (ha : GV ta σ H x) (hb : ∀ H', Same H H' → ValH tb σ H' (fun y H2 => Same H' H2 ∧ Dp K H2 x d ∧ Dp K H2 y e)) (sd : SeqAt.shaped d = true) (se : SeqAt.shaped e = true) : GV (tOp (rEqD K) ta tb) σ H (.bl (PyData.eqv d e)) :=
  fun Q q => ha _ fun H1 e1 => hb H1 e1 _ fun y H2 p => ⟨d, e, p.2.1, p.2.2, sd, se, q H2 (e1.trans p.1)⟩
/-- both operands may be made on the way -/
theorem g_neDH {d e : PyData} {P : V → Hp → Prop} (ha : ValH ta σ H P) (hb : ∀ x H', P x H' → Same H H' ∧ ValH tb σ H' (fun y H2 => Same H' H2 ∧ Dp K H2 x d ∧ Dp K H2 y e)) (sd : SeqAt.shaped d = true) (se : SeqAt.shaped e = true) : GV (tOp (rNeD K) ta tb) σ H (.bl (!PyData.eqv d e)) :=
  fun Q q => ha _ fun x H1 p1 => (hb x H1 p1).2 _ fun y H2 p => ⟨d, e, p.2.1, p.2.2, sd, se, q H2 ((hb x H1 p1).1.trans p.1)⟩
theorem h_nil {H : Hp} : ValH (tLst tNil) σ H (fun y H2 => Same H H2 ∧ Dp K H2 y (.list [])) := fun Q q => show ([] : List V).length ≤ sizeLine ∧ _ from ⟨Nat.zero_le _, fun p hp => q _ _ ⟨same_upd hp, .lst (SqL.of upd_same) .nil⟩⟩
theorem q_ifG (h : AG t σ H b) (h1 : b = true → ∀ H', Same H H' → ts { D with nx := tz D } σ H') (h2 : b = false → ∀ H', Same H H' → tu { D with nx := tz D } σ H') : tSeq (tIfS t ts tu) tz D σ H := h _ fun H' e => by
  cases b with
  | true => exact iteT (h1 rfl H' e)
  | false => exact iteF (h2 rfl H' e)
theorem q_whenG (h : AG t σ H b) (h1 : b = true → ∀ H', Same H H' → ts { D with nx := tz D } σ H') (h2 : b = false → ∀ H', Same H H' → tz D σ H') : tSeq (tIfS t ts tNext) tz D σ H := q_ifG h h1 h2
theorem q_setG {n : Nat} (h : GV te σ H v) (k : ∀ H', Same H H' → tz D (σ.set n (some v)) H') : tSeq (tAsg te (gName n)) tz D σ H := h _ k
theorem s_setG {n : Nat} (h : GV te σ H v) (k : ∀ H', Same H H' → D.nx (σ.set n (some v)) H') : tAsg te (gName n) D σ H := h _ k
theorem s_retG (h : GV te σ H v) (k : ∀ H', Same H H' → D.rt v H') : tRet te D σ H := h _ k
/-- if c: x = e, told by the value x has behind it -/
theorem q_ifset {n : Nat} (h : Ans t σ H b) (h1 : b = true → Val te σ H v) (h2 : b = false → σ.set n (some v) = σ) (k : tz D (σ.set n (some v)) H) : tSeq (tIfS t (tAsg te (gName n)) tNext) tz D σ H :=
  q_when h (fun hb => s_set (D := { D with nx := tz D }) (h1 hb) k) (fun hb => by
    rw [h2 hb] at k
    exact k)
/-- an if without else, what holds behind it told by M -/
theorem q_ifM (M : St → Hp → Prop) (h : AG t σ H b) (h1 : ∀ N : St → Hp → Prop, (∀ σ' H', M σ' H' → N σ' H') → b = true → ∀ H', Same H H' → ts { D with nx := N } σ H') (h2 : b = false → ∀ H', Same H H' → M σ H') (k : ∀ σ' H', M σ' H' → tz D σ' H') : tSeq (tIfS t ts tNext) tz D σ H :=
  q_ifG h (fun hb H' e => h1 (tz D) k hb H' e) fun hb H' e => k σ H' (h2 hb H' e)
theorem s_setLG {l : Addr} {xs : List V} {n : Nat} (hl : H l = some (.lst xs)) (h : GV te σ H v) (ho : ∀ H', Same H H' → Val ta σ H' (.ref l)) (hi : ∀ H', Same H H' → Val tb σ H' (.int i)) (hn : ixN xs.length i = some n) (k : ∀ H', Same H H' → D.nx σ (upd H' l (.lst (xs.set n v)))) :
    tAsg te (gSub ta tb rSetL) D σ H := h _ fun H1 e1 => ho H1 e1 _ (hi H1 e1 _ ⟨l, xs, i, n, rfl, rfl, e1 _ _ hl, hn, k H1 e1⟩)
/-- the value something new -/
theorem s_setLH {l : Addr} {xs : List V} {n : Nat} (hl : H l = some (.lst xs)) (h : ValH te σ H P) (hP : ∀ v H', P v H' → Same H H') (ho : ∀ H', Same H H' → Val ta σ H' (.ref l)) (hi : ∀ H', Same H H' → Val tb σ H' (.int i)) (hn : ixN xs.length i = some n) (k : ∀ v H', P v H' → D.nx σ (upd H' l (.lst (xs.set n v)))) :
    tAsg te (gSub ta tb rSetL) D σ H := h _ fun v H1 p => ho H1 (hP v H1 p) _ (hi H1 (hP v H1 p) _ ⟨l, xs, i, n, rfl, rfl, hP v H1 p _ _ hl, hn, k v H1 p⟩)
theorem at2 {a b i : Int} (h : i = 0 ∨ i = 1) : atI [V.int a, .int b] i = some (.int (if i = 0 then a else b)) := by
  rcases h with rfl | rfl <;> rfl
theorem ix_nn {n : Nat} {i : Int} (h : 0 ≤ i) (h2 : i < n) : ixN n i = some i.toNat := by
  unfold ixN
  rw [if_pos h, if_pos h2]
/-- xs[i] = v -/
theorem s_setL {l : Addr} {xs : List V} {n : Nat} (hl : H l = some (.lst xs)) (h : Val te σ H v) (ho : Val ta σ H (.ref l)) (hi : Val tb σ H (.int i)) (hn : ixN xs.length i = some n) (k : D.nx σ (upd H l (.lst (xs.set n v)))) :
    tAsg te (gSub ta tb rSetL) D σ H := h _ (ho _ (hi _ ⟨l, xs, i, n, rfl, rfl, hl, hn, k⟩))
theorem q_setL {l : Addr} {xs : List V} {n : Nat} (hl : H l = some (.lst xs)) (h : Val te σ H v) (ho : Val ta σ H (.ref l)) (hi : Val tb σ H (.int i)) (hn : ixN xs.length i = some n) (k : tz D σ (upd H l (.lst (xs.set n v)))) :
    tSeq (tAsg te (gSub ta tb rSetL)) tz D σ H := h _ (ho _ (hi _ ⟨l, xs, i, n, rfl, rfl, hl, hn, k⟩))
/-- append of something new -/
theorem q_appH {l : Addr} {xs : List V} (hl : H l = some (.lst xs)) (ha : Val ta σ H (.ref l)) (h : ValH te σ H P) (hz : xs.length ≤ 1000000) (hP : ∀ v H', P v H' → Same H H') (k : ∀ v H', P v H' → tz D σ (upd H' l (.lst (xs ++ [v])))) :
    tSeq (tDrop (tBM K "list" rAppend ta (tCons te tNil))) tz D σ H := ha _ ⟨.inl ⟨rfl, _, SqL.of hl⟩, h _ fun v H' p => ⟨l, xs, v, rfl, rfl, hP v H' p _ _ hl, sz_lt hz, k v H' p⟩⟩
theorem s_appH {l : Addr} {xs : List V} (hl : H l = some (.lst xs)) (ha : Val ta σ H (.ref l)) (h : ValH te σ H P) (hz : xs.length ≤ 1000000) (hP : ∀ v H', P v H' → Same H H') (k : ∀ v H', P v H' → D.nx σ (upd H' l (.lst (xs ++ [v])))) :
    tDrop (tBM K "list" rAppend ta (tCons te tNil)) D σ H := ha _ ⟨.inl ⟨rfl, _, SqL.of hl⟩, h _ fun v H' p => ⟨l, xs, v, rfl, rfl, hP v H' p _ _ hl, sz_lt hz, k v H' p⟩⟩
/-- x in a list made on the way -/
theorem g_inN {neg : Bool} {xs : List V} (ha : GV ta σ H x) (hb : ∀ H', Same H H' → ValH tb σ H' (fun v H2 => ∃ D, v = .ref D ∧ H' D = none ∧ Same H' H2 ∧ H2 D = some (.lst xs))) (hx : flatV x = true) (hxs : xs.all flatV = true) : GV (tOp (rIn K neg) ta tb) σ H (.bl (if neg then !inV x xs else inV x xs)) :=
  fun Q q => ha _ fun H1 e1 => hb H1 e1 _ fun y H2 p => by
    obtain ⟨D, rfl, _, e2, h⟩ := p
    exact ⟨D, xs, rfl, .inl (SqL.of h), hx, hxs, q H2 (e1.trans e2)⟩
theorem inV_none {x : V} : ∀ xs : List V, (∀ y ∈ xs, eqV y x = false) → inV x xs = false := fun xs h => by
  rw [inV, List.any_eq_false]
  intro y hy
  rw [h y hy]
  exact Bool.false_ne_true
/-! ### comprehensions whose items are told by what they come from -/
theorem lc_turnF {D : Addr} {acc : List V} {H' : Hp} {σ2 : L2.St} {tt : TT} {b : Bool} {out : V} (fr : H D = none) (sm : Same H H') (ha : H' D = some (.lst acc)) (hz : acc.length ≤ 100000) (ht : AG tt σ2 H' b) (he : b = true → ∀ H2, Same H' H2 → GV te σ2 H2 out)
    {Pn : Hp → Prop} (k : ∀ H2, Same H H2 → H2 D = some (.lst (acc ++ if b then [out] else [])) → Pn H2) :
    tt σ2 H' fun b H3 => if b = true then te σ2 H3 fun y H4 => ∃ acc, H4 D = some (.lst acc) ∧ acc.length < sizeLine ∧ Pn (upd H4 D (.lst (acc ++ [y]))) else Pn H3 := ht _ fun H3 e3 => by
  cases b with
  | true =>
    refine iteT (he rfl H3 e3 _ fun H4 e4 => ⟨acc, e4 _ _ (e3 _ _ ha), sz_lt (by omega), k _ (same_mut (sm.trans (e3.trans e4)) fr) upd_same⟩)
  | false => exact iteF (k H3 (sm.trans e3) (by simpa using e3 _ _ ha))
theorem take_map_filter {α : Type} {xs : List α} {f : α → Bool} {out : α → V} {i : Nat} {x : α} (h : xs[i]? = some x) : ((xs.take (i + 1)).filter f).map out = ((xs.take i).filter f).map out ++ if f x then [out x] else [] := by
  rw [List.take_add_one, h]
  simp only [Option.toList, List.filter_append, List.map_append]
  by_cases hf : f x = true <;> simp [hf]
theorem h_lcF {α : Type} {tl : TE} {tt : TT} {j : Nat} {vs : List Nat} {p : Addr} (xs : List α) (emb out : α → V) (f : α → Bool) (h : Val tl σ H (.ref p)) (hx : SqL K H p (xs.map emb)) (hz : xs.length ≤ 40000) (hw : ∀ x, wipe ((wipe σ vs).set j (some x)) vs = wipe σ vs)
    (ht : ∀ x H', x ∈ xs → Same H H' → AG tt ((wipe σ vs).set j (some (emb x))) H' (f x)) (he : ∀ x H', x ∈ xs → f x = true → Same H H' → GV te ((wipe σ vs).set j (some (emb x))) H' (out x)) :
    ValH (tLc (iList K tl) (gName j) tt te vs) σ H (fun v H' => ∃ D, v = .ref D ∧ H D = none ∧ Same H H' ∧ H' D = some (.lst ((xs.filter f).map out))) := fun Q q =>
  h _ ⟨p, rfl, ⟨_, hx⟩, fun D hD => lc_list (K := K) (a := p) (xs := xs.map emb) (fun i H' => Same H H' ∧ H' D = some (.lst (((xs.take i).filter f).map out))) ⟨same_upd hD, upd_same⟩ (fun i H' _ r => Evl.ex_l r.1 hx)
    (fun i x H' hi r => by
      rw [List.getElem?_map] at hi
      cases e : xs[i]? with
      | none =>
        rw [e] at hi
        cases hi
      | some y =>
        rw [e] at hi
        have hi : emb y = x := Option.some.inj hi
        subst hi
        have hm := List.mem_of_getElem? e
        have hl : (((xs.take i).filter f).map out).length ≤ xs.length := by
          rw [List.length_map]
          exact Nat.le_trans (List.length_filter_le _ _) (List.length_take_le' _ _)
        refine ⟨hw _, lc_turnF hD r.1 r.2 (by omega) (ht y H' hm r.1) (fun hf H2 e2 => he y H2 hm hf (r.1.trans e2)) fun H2 e2 h2 => ⟨e2, ?_⟩⟩
        rw [h2, take_map_filter e])
    fun H' r => q _ _ ⟨D, rfl, hD, r.1, by rw [r.2, List.length_map, List.take_length]⟩⟩
/-- over range(lo, hi) or range(n): the numbers told -/
theorem h_lcF2 {tr : TA} {tt : TT} {j : Nat} {vs : List Nat} {lo hi : Int} (out : Int → V) (f : Int → Bool) (h : AV tr σ H [.int lo, .int hi]) (hz : -100000 ≤ lo ∧ lo ≤ 100000 ∧ -100000 ≤ hi ∧ hi ≤ 100000 ∧ hi - lo ≤ 40000) (hw : ∀ x, wipe ((wipe σ vs).set j (some x)) vs = wipe σ vs)
    (ht : ∀ (x : Int) H', lo ≤ x → x < hi → Same H H' → AG tt ((wipe σ vs).set j (some (.int x))) H' (f x)) (he : ∀ (x : Int) H', lo ≤ x → x < hi → f x = true → Same H H' → GV te ((wipe σ vs).set j (some (.int x))) H' (out x)) :
    ValH (tLc (iRng2 tr) (gName j) tt te vs) σ H (fun v H' => ∃ D, v = .ref D ∧ H D = none ∧ Same H H' ∧ H' D = some (.lst ((((List.range (hi - lo).toNat).map fun (k : Nat) => lo + (k : Int)).filter f).map out))) := fun Q q =>
  h _ ⟨lo, hi, rfl, by omega, fun D hD => lc_range (lo := lo) (n := (hi - lo).toNat) (fun i H' => Same H H' ∧ H' D = some (.lst (((((List.range (hi - lo).toNat).map fun (k : Nat) => lo + (k : Int)).take i).filter f).map out))) ⟨same_upd hD, upd_same⟩
    (fun i H' hi' r => by
      have e : ((List.range (hi - lo).toNat).map fun (k : Nat) => lo + (k : Int))[i]? = some (lo + (i : Int)) := by
        rw [List.getElem?_map, List.getElem?_range hi']
        rfl
      have hl : (((((List.range (hi - lo).toNat).map fun (k : Nat) => lo + (k : Int)).take i).filter f).map out).length ≤ (hi - lo).toNat := by
        rw [List.length_map]
        refine Nat.le_trans (List.length_filter_le _ _) (Nat.le_trans (List.length_take_le' _ _) ?_)
        simp
      refine ⟨hw _, lc_turnF hD r.1 r.2 (by omega) (ht _ H' (by omega) (by omega) r.1) (fun hf H2 e2 => he _ H2 (by omega) (by omega) hf (r.1.trans e2)) fun H2 e2 h2 => ⟨e2, ?_⟩⟩
      rw [h2, take_map_filter e])
    fun H' r => q _ _ ⟨D, rfl, hD, r.1, by
      rw [r.2, List.take_of_length_le (by simp)]⟩⟩
theorem h_lcF1 {tr : TA} {tt : TT} {j : Nat} {vs : List Nat} {hi : Int} (out : Int → V) (f : Int → Bool) (h : AV tr σ H [.int hi]) (hz : 0 ≤ hi ∧ hi ≤ 40000) (hw : ∀ x, wipe ((wipe σ vs).set j (some x)) vs = wipe σ vs)
    (ht : ∀ (x : Int) H', 0 ≤ x → x < hi → Same H H' → AG tt ((wipe σ vs).set j (some (.int x))) H' (f x)) (he : ∀ (x : Int) H', 0 ≤ x → x < hi → f x = true → Same H H' → GV te ((wipe σ vs).set j (some (.int x))) H' (out x)) :
    ValH (tLc (iRng1 tr) (gName j) tt te vs) σ H (fun v H' => ∃ D, v = .ref D ∧ H D = none ∧ Same H H' ∧ H' D = some (.lst ((((List.range hi.toNat).map fun (k : Nat) => (k : Int)).filter f).map out))) := fun Q q =>
  h _ ⟨hi, rfl, by omega, by omega, fun D hD => lc_range (lo := 0) (n := hi.toNat) (fun i H' => Same H H' ∧ H' D = some (.lst (((((List.range hi.toNat).map fun (k : Nat) => (k : Int)).take i).filter f).map out))) ⟨same_upd hD, upd_same⟩
    (fun i H' hi' r => by
      rw [Int.zero_add]
      have e : ((List.range hi.toNat).map fun (k : Nat) => (k : Int))[i]? = some (i : Int) := by
        rw [List.getElem?_map, List.getElem?_range hi']
        rfl
      have hl : (((((List.range hi.toNat).map fun (k : Nat) => (k : Int)).take i).filter f).map out).length ≤ hi.toNat := by
        rw [List.length_map]
        refine Nat.le_trans (List.length_filter_le _ _) (Nat.le_trans (List.length_take_le' _ _) ?_)
        simp
      refine ⟨hw _, lc_turnF hD r.1 r.2 (by omega) (ht _ H' (by omega) (by omega) r.1) (fun hf H2 e2 => he _ H2 (by omega) (by omega) hf (r.1.trans e2)) fun H2 e2 h2 => ⟨e2, ?_⟩⟩
      rw [h2, take_map_filter e])
    fun H' r => q _ _ ⟨D, rfl, hD, r.1, by
      rw [r.2, List.take_of_length_le (by simp)]⟩⟩
theorem ag_yes : AG tYes σ H true := fun _ q => q H (Same.refl H)
theorem v_tupT {p : Addr} {ys : List V} (ha : Val ta σ H (.ref p)) (h : H p = some (.tup ys)) : Val (tCB (rTupQ K) (tCons ta tNil)) σ H (.ref p) := fun _ q => ha _ ⟨p, ys, rfl, SqT.of h, q⟩
end
end EH

set_option maxHeartbeats 2000000
/-! own layer, 4: list.count of data; an error that a clause catches and keeps as a value; isinstance of such -/
namespace EH
open PySem PySem.Spec PyProof.Rows L2
section
variable {X : Cx}
def rCntD (K : PySem.W.Frag) : V → List V → Hp → VK → Prop := fun x xs H Q => ∃ (a : Addr) (y : V) (d : PyData) (ds : List PyData), x = V.ref a ∧ xs = [y] ∧ Dp K H (V.ref a) (.list ds) ∧ Dp K H y d ∧ SeqAt.shaped (.list ds) = true ∧ SeqAt.shaped d = true ∧ Q (.int (ds.countP fun z => PyData.eqv z d : Nat)) H
theorem room65 {A : Around} {k : Nat} (hr : Room k A) : A.units + 65 < cLine := by have := hr.un; omega
theorem mt_countD {K : PySem.W.Frag} (hK : X.K = K) (hu : X.A.units + 65 < cLine) : MtR X "list.count" (rCntD K) := by
  subst hK
  intro pins s σ H x xs v us Q I rx rxs h
  obtain ⟨a, y, d, ds, rfl, rfl, hl, hy, sl, sd, q⟩ := h
  cases rx
  cases rxs with
  | cons ry rt =>
    rename_i uy ut
    cases rt
    obtain ⟨bs, r1⟩ := Dp.reads I d y uy hy ry
    have hxs : PyData.canLayAll0 ds = true := SeqAt.canLay_of_shaped sl
    have hroom : X.A.units + 1 + min (PyData.depthAll ds) d.depth < cLine := by
      have h1 := SeqAt.depth_of_shaped sd
      have h2 : min (PyData.depthAll ds) d.depth ≤ d.depth := Nat.min_le_right _ _
      omega
    cases hl with
    | lst hs ha =>
      obtain ⟨its, rv, ⟨⟨cls, dd, data, sls⟩, n, ho, hc, hdn, hdt⟩, hlen⟩ := I.list hs
      simp only at hc hdt
      subst hc hdt
      obtain ⟨as, h4⟩ := Dp.readsAll I ds _ its ha rv
      have hmap : its.map (SeqAt.readOf s.heap) = ds := SeqAt.readsAll_map ds its as hxs h4
      refine call_meets PySem.F.slot_list_count ⟨_, ho, rfl⟩ PySem.F.entry_list_count (PySem.F.args_list_count_2 _ _)
        (SeqAt.list_countAt a its.toArray n dd sls uy (fun u => PyData.eqv (SeqAt.readOf s.heap u) d)) ⟨ho, SeqAt.items_eqAt (vs := its.toArray) (show ReadsAll s.heap its.toArray.toList ds as from h4) r1 hxs (SeqAt.canLay_of_shaped sd) hroom, ?_⟩
      have ec : its.toArray.toList.countP (fun u => PyData.eqv (SeqAt.readOf s.heap u) d) = ds.countP fun z => PyData.eqv z d := by
        rw [← hmap, List.countP_map]
        rfl
      refine ⟨.int (ds.countP fun z => PyData.eqv z d : Nat), H, I.tok _, ⟨s.toks, ?_⟩, q⟩
      show Value.int ((its.toArray.toList.countP (fun u => PyData.eqv (SeqAt.readOf s.heap u) d) : Nat) : Int) s.toks = Value.int ((ds.countP fun z => PyData.eqv z d : Nat) : Int) s.toks
      rw [ec]
end
/-! ### an error kept -/
/-- an error of the class cls stands at a -/
def ExK (cls : Value) (a : Addr) : HO := .ext fun h => ∃ (oe : Obj) (vs : Array Value), h.get? a = some oe ∧ Zc cls none oe ∧ oe.data = .fields vs
theorem exK_ok {P : Program} {w : World} {H : Hp} {h : Heap} {a : Addr} {cls : Value} {oe : Obj} {vs : Array Value} (e : h.get? a = some oe) (z : Zc cls none oe) (d : oe.data = .fields vs) : ObjOk P w H h a (ExK cls a) :=
  ⟨⟨oe, vs, e, z, d⟩, ⟨oe, e⟩, fun _ _ ⟨o, v, q, r⟩ k => ⟨o, v, k o q, r⟩⟩
section
variable {X : Cx} {pins : List (Addr × Obj)} {σ : St} {H : Hp} {s : Shared}
/-- an object of ours, new since the entry, is tracked from here on -/
theorem Inv.track {a : Addr} {o : HO} {ob : Obj} (I : Inv X pins σ H s) (hb : s.heap.get? a = some ob) (hd : ∀ v, ob.data ≠ .cell v) (na : H a = none) (n0 : X.s_0.heap.get? a = none) (nL : a ≠ X.env.locals) (np : ∀ p ∈ X.pn ++ pins, p.1 ≠ a)
    (new : ObjOk X.prog X.w (upd H a o) s.heap a o) : Inv X pins σ (upd H a o) s := by
  have ne : ∀ b u, H b = some u → b ≠ a := fun b u e => ne_of_none e na
  have nc : ∀ x c, X.env.cells.lookup x = some c → c ≠ a := fun x c e z => by
    obtain ⟨v, o', h1, h2⟩ := I.cell x c e
    rw [z, hb] at h1
    cases h1
    exact hd v h2
  refine ⟨I.ok, I.os, I.bare, ⟨I.base.keep, I.base.slot, fun b u q n hx => ?_, I.base.there, fun b xs q => ?_, fun b u xs q => ?_, fun b ps q => ?_⟩, I.loc, I.cell, ?_, fun x c e => ?_, fun p hp => ?_, fun b u e => ?_, I.len⟩
  · have : b ≠ a := fun z => by
      rw [z, n0] at q
      cases q
    rw [upd_ne this]
    exact I.base.free b u q n hx
  · have := I.base.tups b xs q
    rw [upd_ne (ne _ _ this)]
    exact this
  · have := I.base.frzs b u xs q
    rw [upd_ne (ne _ _ this)]
    exact this
  · obtain ⟨more, e⟩ := I.base.tbls b ps q
    exact ⟨more, by rw [upd_ne (ne _ _ e)]; exact e⟩
  · rw [upd_ne nL.symm]
    exact I.free
  · rw [upd_ne (nc x c e)]
    exact I.freeC x c e
  · obtain ⟨h1, h2, h3⟩ := I.pin p hp
    refine ⟨h1, ?_, h3⟩
    rw [upd_ne (np p hp)]
    exact h2
  · by_cases hba : b = a
    · subst hba
      rw [upd_same] at e
      cases e
      exact new
    · rw [upd_ne hba] at e
      exact (I.hok b u e).stay (fun _ _ _ q => q) (fun c q => by rw [upd_ne (ne _ _ q)]; exact q) fun c xs q => by rw [upd_ne (ne _ _ q)]; exact q
theorem Inv.unsuiteP {a : Addr} {q : Addr × Obj} {pn' : List (Addr × Obj)} (I : Inv (X.suite a (q :: (X.pn ++ pins))) pn' σ H s) (ok : X.Ok) : Inv X (q :: pins) σ H s :=
  ⟨ok, I.os, I.bare, I.base, I.loc, I.cell, I.free, I.freeC, fun p hp => I.pin p (List.mem_append_left _ (by
    rcases List.mem_append.mp hp with h | h
    · exact List.mem_cons_of_mem _ (List.mem_append_left _ h)
    · rcases List.mem_cons.mp h with h | h
      · rw [h]; exact List.mem_cons_self
      · exact List.mem_cons_of_mem _ (List.mem_append_right _ h))), I.hok, I.len⟩
theorem Inv.unpin {q : Addr × Obj} (I : Inv X (q :: pins) σ H s) : Inv X pins σ H s := I.pins_of fun p hp => I.pin p (List.mem_append_right _ (List.mem_cons_of_mem _ hp))
end
/-- what the clause 'except x as n' wishes, the error kept behind it (slot i is n's) -/
def wKeep (K : PySem.W.Frag) (c : Value) (i : Nat) (ts : Addr → Value → Option Addr → TS) (Wout : WX) (D : Ends) : WX := fun cls d σ H =>
  ∃ b, PySem.W.exmOne K cls c = some b ∧ (b = true → d = none ∧ ∀ a, H a = none → ts a cls d { nx := fun σ' H' => D.nx (σ'.set i none) (upd H' a (ExK cls a)), rt := fun _ _ => False } (σ.set i (some (.ref a))) H) ∧ (b = false → Wout cls d σ H)
section
variable {X : Cx} {x n : Str} {c : Value} {i : Nat} {body suite : List Stmt} {b₀ : Stmt} {np pos pos' : Pos} {tb : WX → TS} {ts : Addr → Value → Option Addr → TS} {Wout : WX}
theorem ps_try_keep {K : PySem.W.Frag} (hK : X.K = K) (hs : X.stack = X.env :: X.outer) (hf : X.env.frame = some X.env.locals) (hex : X.ex = []) (hN : X.N.Nodup) (hi : X.N[i]? = some n) (hln : X.env.kindOf n = some .local) (hc : Names X x c) (tk : Takes X Wout)
    (hb : ∀ (W : WX) (pn : List (Addr × Obj)) (xe : Value → Shared → Prop), Takes (X.tr pn xe) W → PassesOwn (model X.prog X.w) X.A X.env xe → PSs (X.tr pn xe) body (tb W))
    (hsu : ∀ (a : Addr) (oe : Obj) (cls : Value) (d : Option Addr) (pn : List (Addr × Obj)), Zc cls d oe → (∃ vs, oe.data = .fields vs) → PSs (X.suite a ((a, oe) :: pn)) (b₀ :: suite) (ts a cls d)) :
    PS X (.Try body [.ExceptHandler (some (.Name x np)) (some n) (b₀ :: suite) pos'] [] [] pos) (fun D σ H => tb (wKeep K c i ts Wout D) D σ H) := by
  subst hK
  refine ⟨fun pins s σ H D I h => ?_⟩
  have ok := I.ok
  have hfr : X.A.frames = some (X.env :: X.outer) := by rw [ok.frames, hs]
  have hloc : Loc X.env.scope n := .inl hln
  refine wpAny_Try_except ?_
  refine wpAny_mono ((hb (wKeep X.K c i ts Wout D) (X.pn ++ pins) (fun e s₁ => wpAny (model X.prog X.w) X.A (noteFrame e X.env) (fun _ s₂ => wpAny (model X.prog X.w) X.A (setFlight e none) (fun _ s₃ =>
    wpAny (model X.prog X.w) X.A (handleBy e X.env [.ExceptHandler (some (.Name x np)) (some n) (b₀ :: suite) pos']) (SP X pins D) X.xe s₃) X.xe s₂) X.xe s₁) (fun u s' xx => ?_) PassesOwn.looking).run [] s σ H D (I.toTry _) h) (fun f s1 hsp => ?_) (fun e s1 he => he)
  · obtain ⟨a, B, sI, pins', σ', H', cls, d, rfl, J', nb, up, sky, na, os, ag, b, hb1, hyes, hno⟩ := xx
    have J : Inv X pins σ' H' sI := J'.ofTry ok
    have sky' : Sky B (X.env :: X.outer) a (Zc cls d) X.env.locals s'.heap := by rw [← hs]; exact sky
    show wpAny (model X.prog X.w) X.A (noteFrame (.ref a) X.env) _ _ _
    refine Sky.land Zc.steady hfr hf sky' fun h3 fl3 up3 => ?_
    have J3 : Inv X pins σ' H' { s' with heap := h3 } := J.landed nb fl3.1 (up.trans up3) os ag
    obtain ⟨oe3, vs3, he3, hz3, hd3⟩ := fl3.there
    have notFr : ∀ {h : Heap} {o : Obj} {vs : Array Value}, h.FunFrames B (X.env :: X.outer) → h.get? a = some o → o.data = .fields vs → a ∉ frs (X.env :: X.outer) := fun {h o vs} ff e dd hm => by
      obtain ⟨_, o', e', hnf⟩ := ff.mem hm
      rw [e] at e'; cases e'
      exact hnf _ dd
    have nfr := notFr fl3.2.2.1 he3 hd3
    have nL : a ≠ X.env.locals := fun z => nfr (List.mem_filterMap.mpr ⟨X.env, List.mem_cons_self, by rw [hf, z]⟩)
    have nF : a ∉ X.fs := fun hm => by
      obtain ⟨e, he, q⟩ := List.mem_filterMap.mp hm
      exact nfr (List.mem_filterMap.mpr ⟨e, List.mem_cons_of_mem _ he, q⟩)
    -- the error is new since the entry
    have nI : sI.heap.get? a = none := by
      cases e : sI.heap.get? a with
      | none => rfl
      | some o =>
        have h1 := nb a o e (by rw [hs]; exact nfr)
        rw [fl3.2.1] at h1
        cases h1
    have n0 : X.s_0.heap.get? a = none := by
      cases e : X.s_0.heap.get? a with
      | none => rfl
      | some o =>
        obtain ⟨o', e'⟩ := J.base.there a o e (by rw [hex]; simp)
        rw [nI] at e'
        cases e'
    have npp : ∀ p ∈ X.pn ++ pins, p.1 ≠ a := fun p hp z => by
      obtain ⟨h1, _⟩ := J.pin p hp
      rw [z, nI] at h1
      cases h1
    have S3 := J3.suite he3 hd3 na nL nF
    refine wpAny_handleBy_cons (codeAny_handlers_test ?_) (by intro q; cases q)
    have LT : PySem.W.Looks (model X.prog X.w) h3 (typeOf (.ref a)) cls := fun A Q E s k q => wpAny_typeOf_ref (k _ _ he3) (by rw [hz3.1]; exact q)
    have LM := PySem.W.exm_one (M := model X.prog X.w) (J3.kIn) LT hb1
    have test : ∀ {Q : Value → Shared → Prop} {E : Value → Shared → Prop}, Q c { s' with heap := h3 } → wpAny (model X.prog X.w) (X.A.mark (some (.ref a))) (eval (.Name x np) X.env) Q E { s' with heap := h3 } := fun {Q E} q => by
      obtain ⟨hg, hdbg, hm | ⟨hm, hv, hnn⟩⟩ := hc
      · exact ld_glob (X := X.suite a ((a, oe3) :: (X.pn ++ pins))) S3 hg hm q hdbg
      · exact ld_blt (X := X.suite a ((a, oe3) :: (X.pn ++ pins))) S3 hg hm hv q hnn hdbg
    refine test (LM.here ?_)
    cases b with
    | true =>
      obtain ⟨dn, hyes⟩ := hyes rfl
      subst dn
      refine codeAny_handlers_suite_as ?_
      refine HandSPX.lands_againZ fl3 fun h4 fl4 up4 => ?_
      have J4 : Inv X pins σ' H' { s' with heap := h4 } := J.landed nb fl4.1 ((up.trans up3).trans up4) os ag
      obtain ⟨oe4, vs4, he4, hz4, hd4⟩ := fl4.there
      have S4 := J4.suite he4 hd4 na nL nF
      refine store_ok (X := X.suite a ((a, oe4) :: (X.pn ++ pins))) (v := .ref a) S4 hN hi hloc rfl (fun s5 S5 => ?_) (.inr hln)
      refine wpAny_mono ((hsu a oe4 cls none (X.pn ++ pins) hz4 ⟨_, hd4⟩).run [] s5 _ H' _ S5 (hyes a na)) (fun f s6 hsp => ?_) (fun _ _ z => False.elim z)
      cases f with
      | next =>
        obtain ⟨σ6, H6, S6, q6⟩ := hsp
        refine gone_ok (Inv.unsuiteP S6 ok) hN hi hln fun s7 J7 => ?_
        obtain ⟨e7, m7, _⟩ := J7.pin (a, oe4) (List.mem_append_right _ List.mem_cons_self)
        exact ⟨_, _, Inv.track (Inv.unpin J7) e7 (fun v z => by rw [hd4] at z; cases z) m7 n0 nL npp (exK_ok e7 hz4 hd4), q6⟩
      | brk =>
        obtain ⟨σ6, H6, S6, q6⟩ := hsp
        exact False.elim q6
      | cont =>
        obtain ⟨σ6, H6, S6, q6⟩ := hsp
        exact False.elim q6
      | ret u =>
        obtain ⟨v6, σ6, H6, S6, r6, q6⟩ := hsp
        exact False.elim q6
    | false =>
      show wpAny _ X.A (handleBy (.ref a) X.env []) _ _ _
      refine wpAny_handleBy_nil ?_
      obtain ⟨k1, k2, k3, oe, vs, T, oT, ts', he, hz, hd, h1, hr⟩ := id fl3
      unfold PySem.passOn
      refine wpAny_bind (wpAny_field he hd h1 ?_)
      rw [if_neg (show ¬ ((Value.ref T == Value.none) = true) from by simp)]
      have fin : wpAny (model X.prog X.w) X.A (setFlight (.ref a) X.env.frame) (fun _ s4 => wpAny (model X.prog X.w) X.A (throw (.ref a) : Sem Flow) (SP X pins D) X.xe s4) X.xe { s' with heap := h3 } := by
        rw [hf]
        refine HandSPX.setFlight_upZ fl3 fun h4 hh4 up4 => wpAny_throw (tk _ _ ?_)
        exact ⟨a, B, sI, pins, σ', H', cls, d, rfl, J, nb, (up.trans up3).trans up4, .inr (.inr (by rw [hs]; exact hh4)), na, os, ag, hno rfl⟩
      first
        | exact wpAny_bind (wpAny_pure (wpAny_bind fin))
        | exact wpAny_bind fin
  · cases f with
    | next =>
      obtain ⟨σ', H', J', q⟩ := hsp
      exact wpAny_execs_nil ⟨σ', H', J'.ofTry ok, q⟩
    | brk =>
      obtain ⟨σ', H', J', q⟩ := hsp
      exact ⟨σ', H', J'.ofTry ok, q⟩
    | cont =>
      obtain ⟨σ', H', J', q⟩ := hsp
      exact ⟨σ', H', J'.ofTry ok, q⟩
    | ret u =>
      obtain ⟨v, σ', H', J', r, q⟩ := hsp
      exact ⟨v, σ', H', J'.ofTry ok, r, q⟩
end
/-- isinstance of a kept error -/
def rIsK (K : PySem.W.Frag) : List V → Hp → VK → Prop := fun xs H Q => ∃ (a D : Addr) (c : V) (cv : Value) (b : Bool), xs = [.ref a, c] ∧ H a = some (ExK (.ref D) a) ∧ ExcC K D ∧ ClsV c cv ∧ PySem.W.kitOne K (.ref D) cv = some b ∧ Q (.bl b) H
theorem call_isKK {X : Cx} {K : PySem.W.Frag} (hK : X.K = K) : CallR X (.builtin "isinstance") (rIsK K) := by
  subst hK
  intro pins s σ H xs us Q I r h
  obtain ⟨a, D, c, cv, b, rfl, ha, C, hcv, e, q⟩ := h
  cases r with
  | cons rx rr =>
    cases rr with
    | cons rt rr =>
      cases rr
      cases rx
      have ec := hcv.eq rt
      subst ec
      obtain ⟨⟨oe, vs, hget, hz, hv⟩, _⟩ := I.hok a _ ha
      have J : PySem.W.InstAt s.heap a oe D none := by
        obtain ⟨oc, od, oda, osl⟩ := oe
        obtain ⟨h1, h2⟩ := hz
        dsimp only at h1 h2 hv
        subst h1 h2 hv
        exact ⟨hget, rfl, rfl, trivial⟩
      exact PySem.W.kia_one (PySem.W.handS_kitx_exc C.hg C.hk C.hs C.hd C.ha C.hn C.ht C.hm) I.kIn J e (fun z => nomatch z) fun tk => ⟨.bl b, H, I.kept (t' := tk) fun _ _ z => z, rfl, q⟩
/-! ### calls within a try: what is raised is wished for at the slots -/
section
variable {X : Cx} {CX : CXT} {E : St → XK} {k j : Nat} {C : Addr} {x : Str} {sp : Sp} {p pos : Pos} {e : Expr} {es : List Expr} {t : TA}
theorem pe_cS (c : Cal X.prog X.w X.K X.mg X.base CX k x sp) (hr : Room j X.A) (hk : k ≤ j) (hx : ∀ σ, PassesAt CX X σ (E σ)) (hg : Gl X x) (ha : PA X (e :: es) t)
    (hdb : (x == ("__debug__" : Str)) = false := by decide) (he : starEach (e :: es) X.env = (false, eval e X.env) :: starEach es X.env := by rfl) (hpl : (backTo pos (starEach es X.env)).any (·.1) = false := by rfl) :
    PE X (.Call (.Name x p) (e :: es) [] pos) (tCallS sp E t) := by
  obtain ⟨f, fd, ps, F, hm, kp, b⟩ := c.ex
  exact pe_callS F (hr.mono hk) hg hm kp b hx ha hdb he hpl
def tMakeS (C : Addr) (sp : Sp) (E : St → XK) (t : TA) : TE := fun σ H Q => t σ H fun vs H1 => ∀ x dx, H1 x = none → H1 dx = none → dx ≠ x →
  sp (.ref x :: vs) (upd (upd H1 dx (.own x)) x (.ins C dx [])) (fun v H2 => v = .non ∧ Q (.ref x) H2) (E σ)
theorem pe_mkS (c : Mak X.prog X.w X.K X.mg X.base CX k x C sp) (hr : Room j X.A) (hk : k + 1 ≤ j) (hx : ∀ σ, PassesAt CX X σ (E σ)) (hg : Gl X x) (ha : PA X (e :: es) t)
    (hdb : (x == ("__debug__" : Str)) = false := by decide) (he : starEach (e :: es) X.env = (false, eval e X.env) :: starEach es X.env := by rfl) (hpl : (backTo pos (starEach es X.env)).any (·.1) = false := by rfl) :
    PE X (.Call (.Name x p) (e :: es) [] pos) (tMakeS C sp E t) := by
  obtain ⟨f, fd, ps, M, F, hm, hb⟩ := c.ex
  have hr := hr.mono hk
  refine ⟨fun pins s σ H Q I h => ?_⟩
  refine wpAny_Call_Name_kw (ld_glob I hg hm ?_ hdb)
  refine PySem.W.callWith_K (h₀ := X.base) I.ok.mod.kin M.kp (thn (ha.run pos pins s σ H _ I h) fun us s1 ⟨vs, H1, I1, r, q⟩ => ⟨I1.kIn, ?_⟩) he hpl
  have I2 := Inv.made (C := C) I1
  have hq := q (s1.heap.objs.size + 1) s1.heap.objs.size (I1.hok.fresh (Nat.le_succ _)) (I1.hok.fresh (Nat.le_refl _)) (Nat.ne_of_lt (Nat.lt_succ_self _))
  have r2 : Vals (V.ref (s1.heap.objs.size + 1) :: vs) (Value.ref (s1.heap.objs.size + 1) :: us) := .cons rfl r
  have hl : (Value.ref (s1.heap.objs.size + 1) :: us ++ []).length = ps.length := by
    have e2 := F.len _ _ _ _ hq
    rw [List.append_nil, ← r2.length, e2]
  have b := hb _ (Value.ref (s1.heap.objs.size + 1) :: us) I2.kIn hl
  rw [List.append_nil] at b
  refine wpAny_call (make_map (f := f) I1.kIn M.makes M.init (beq_iff_eq.mp M.fn) (codeAny_mono (F.run _ X.stack _ _ ⟨Value.ref (s1.heap.objs.size + 1) :: us, []⟩ _ _ _ (E σ) (hr.make C us []) (I2.env0.make C us []) b r2 hq) fun r s' hq' => ?_))
  cases r with
  | error e => exact hx σ pins _ _ e s' I2 hq'
  | ok fl =>
    cases fl with
    | ret u =>
      obtain ⟨v, H', I3, rv, ev, q3⟩ := I2.after hq'
      subst ev
      exact ⟨rv, ⟨V.ref (s1.heap.objs.size + 1), H', I3, rfl, q3⟩⟩
    | next => exact False.elim hq'
    | brk => exact False.elim hq'
    | cont => exact False.elim hq'
end
/-! ### what isinstance leans on, looked at in the written part -/
def eqB (a b : Option (Option Value)) : Bool := decide (a = b)
def excB (K : PySem.W.Frag) (D : Addr) : Bool :=
  decide (PySem.W.findIn K (.ref D) "__getattribute__" = some (some (.builtin "BaseException.__getattribute__"))) && (decide (PySem.W.findIn K (.ref D) "__getattr__" = some none) && (decide (PySem.W.subIn K (.ref D) (.type "BaseException") = some true) &&
  (PySem.W.hasDictIn K D && (decide (PySem.W.findIn K (.ref D) "__class__" = some (some (.builtin "object.__class__"))) && (decide (PySem.W.specialIn K (.builtin "object.__class__") "__get__" = some (some (.builtin "getset_descriptor.__get__"))) &&
  (decide (PySem.W.takesIn K (.builtin "object.__class__") = some true) && decide (PySem.W.mroIn K D (.type "object") = some true)))))))
theorem excB_ok {K : PySem.W.Frag} {D : Addr} (h : excB K D = true) : ExcC K D := by
  simp only [excB, Bool.and_eq_true, decide_eq_true_eq] at h
  obtain ⟨h1, h2, h3, h4, h5, h6, h7, h8⟩ := h
  exact ⟨h1, h2, h3, h4, h5, h6, h7, h8⟩
def insB (K : PySem.W.Frag) (D : Addr) : Bool :=
  decide (PySem.W.findIn K (.ref D) "__class__" = some (some (.builtin "object.__class__"))) && (decide (PySem.W.specialIn K (.builtin "object.__class__") "__get__" = some (some (.builtin "getset_descriptor.__get__"))) &&
  (decide (PySem.W.takesIn K (.builtin "object.__class__") = some true) && (decide (PySem.W.mroIn K D (.type "object") = some true) && decide (PySem.W.kitOne K (.ref D) (.ref D) = some true))))
theorem insB_ok {K : PySem.W.Frag} {D : Addr} (c : Cls K D) (h : insB K D = true) : C8.InsC K D := by
  simp only [insB, Bool.and_eq_true, decide_eq_true_eq] at h
  obtain ⟨h1, h2, h3, h4, h5⟩ := h
  exact ⟨c, h1, h2, h3, h4, h5⟩
/-- the error class at D is the i-th of the four, beneath the two -/
structure AloneC (K : PySem.W.Frag) (C : Cs) (D : Addr) (i : Nat) : Prop where
  ex : ExcC K D
  k0 : PySem.W.kitOne K (.ref D) (.ref C.BadHouse) = some (decide (i = 0))
  k1 : PySem.W.kitOne K (.ref D) (.ref C.NoWalk) = some (decide (i = 1))
  k2 : PySem.W.kitOne K (.ref D) (.ref C.BadPaper) = some (decide (i = 2))
  k3 : PySem.W.kitOne K (.ref D) (.ref C.NoText) = some (decide (i = 3))
  kh : PySem.W.kitOne K (.ref D) (.ref C.HallError) = some true
  kv : PySem.W.kitOne K (.ref D) (.type "ValueError") = some true
def aloneB (K : PySem.W.Frag) (C : Cs) (D : Addr) (i : Nat) : Bool :=
  excB K D && (decide (PySem.W.kitOne K (.ref D) (.ref C.BadHouse) = some (decide (i = 0))) && (decide (PySem.W.kitOne K (.ref D) (.ref C.NoWalk) = some (decide (i = 1))) && (decide (PySem.W.kitOne K (.ref D) (.ref C.BadPaper) = some (decide (i = 2))) &&
  (decide (PySem.W.kitOne K (.ref D) (.ref C.NoText) = some (decide (i = 3))) && (decide (PySem.W.kitOne K (.ref D) (.ref C.HallError) = some true) && decide (PySem.W.kitOne K (.ref D) (.type "ValueError") = some true))))))
theorem aloneB_ok {K : PySem.W.Frag} {C : Cs} {D : Addr} {i : Nat} (h : aloneB K C D i = true) : AloneC K C D i := by
  simp only [aloneB, Bool.and_eq_true, decide_eq_true_eq] at h
  obtain ⟨h1, h2, h3, h4, h5, h6, h7⟩ := h
  exact ⟨excB_ok h1, h2, h3, h4, h5, h6, h7⟩
/-- the errors' names -/
structure ExcG (mg : Str → Option Value) (C : Cs) : Prop where
  BadHouse : mg "BadHouse" = some (.ref C.BadHouse)
  NoWalk : mg "NoWalk" = some (.ref C.NoWalk)
  BadPaper : mg "BadPaper" = some (.ref C.BadPaper)
  NoText : mg "NoText" = some (.ref C.NoText)
  HallError : mg "HallError" = some (.ref C.HallError)
abbrev rIsHQ (A : Addr) : List V → Hp → VK → Prop := fun xs H Q => ∃ a dx fs, xs = [.ref a, .ref A] ∧ H a = some (.ins A dx fs) ∧ Q (.bl true) H
theorem call_isCK {X : Cx} {K : PySem.W.Frag} {A : Addr} (hK : X.K = K) (c : C8.InsC K A) : CallR X (.builtin "isinstance") (rIsHQ A) := by subst hK; exact C8.call_isC c
section
variable {K : PySem.W.Frag} {σ : St} {H : Hp} {ta tb : TE}
theorem v_isK {a D : Addr} {c : V} {cv : Value} {b : Bool} (ha : Val ta σ H (.ref a)) (hb : Val tb σ H c) (hH : H a = some (ExK (.ref D) a)) (hC : ExcC K D) (hc : ClsV c cv) (hk : PySem.W.kitOne K (.ref D) cv = some b) : Val (tCB (rIsK K) (tCons ta (tCons tb tNil))) σ H (.bl b) :=
  fun _ q => ha _ (hb _ ⟨a, D, c, cv, b, rfl, hH, hC, hc, hk, q⟩)
theorem g_neS {x y : V} (ha : GV ta σ H x) (hb : ∀ H', Same H H' → GV tb σ H' y) (hs : scal x y = true) : GV (tOp rNe ta tb) σ H (.bl (!decide (x = y))) := fun Q q => ha _ fun H1 e1 => hb H1 e1 _ fun H2 e2 => ⟨hs, q H2 (e1.trans e2)⟩
theorem g_eqS {x y : V} (ha : GV ta σ H x) (hb : ∀ H', Same H H' → GV tb σ H' y) (hs : scal x y = true) : GV (tOp rEq ta tb) σ H (.bl (decide (x = y))) := fun Q q => ha _ fun H1 e1 => hb H1 e1 _ fun H2 e2 => ⟨hs, q H2 (e1.trans e2)⟩
theorem s_ifG {D : Ends} {ts tu : TS} {t : TT} {b : Bool} (h : AG t σ H b) (h1 : b = true → ∀ H', Same H H' → ts D σ H') (h2 : b = false → ∀ H', Same H H' → tu D σ H') : tIfS t ts tu D σ H := h _ fun H' e => by
  cases b with
  | true => exact iteT (h1 rfl H' e)
  | false => exact iteF (h2 rfl H' e)
theorem v_isH {a A dx : Addr} {fs : List (Str × V)} (ha : Val ta σ H (.ref a)) (hb : Val tb σ H (.ref A)) (hH : H a = some (.ins A dx fs)) : Val (tCB (rIsHQ A) (tCons ta (tCons tb tNil))) σ H (.bl true) := fun _ q => ha _ (hb _ ⟨a, dx, fs, rfl, hH, q⟩)
end
end EH

set_option maxHeartbeats 2000000
/-! own layer, 5: dicts with tuple keys -/
namespace EH
open PySem PySem.Spec PyProof.Rows L2
/-- is not, of two truth values -/
def rNotB : R2 := fun x y H Q => ∃ a b, x = .bl a ∧ y = .bl b ∧ Q (.bl (!decide (a = b))) H
theorem op_notB {X : Cx} : OpR X (compareOp .IsNot) rNotB := by
  intro pins s σ H x y v u Q I rx ry h
  obtain ⟨a, b, rfl, rfl, q⟩ := h
  cases rx
  cases ry
  have e : (Value.bool a == Value.bool b) = decide (a = b) := by cases a <;> cases b <;> rfl
  show wpAny _ _ ((isSame (Value.bool a) (Value.bool b)) >>= fun z => pure (Value.bool (!z))) _ _ s
  exact wpAny_bind (wpAny_isSame_plain rfl (wpAny_pure (fin_bl I q (by rw [e]))))
theorem g_notB {σ : St} {H : Hp} {ta tb : TE} {a b : Bool} (ha : GV ta σ H (.bl a)) (hb : ∀ H', Same H H' → GV tb σ H' (.bl b)) : GV (tOp rNotB ta tb) σ H (.bl (!decide (a = b))) := fun Q q => ha _ fun H1 e1 => hb H1 e1 _ fun H2 e2 => ⟨a, b, rfl, rfl, q H2 (e1.trans e2)⟩
theorem All2.snoc {α β : Type} {R : α → β → Prop} {a : α} {b : β} (r : R a b) : ∀ {as : List α} {bs : List β}, All2 R as bs → All2 R (as ++ [a]) (bs ++ [b])
  | _, _, .nil => .cons r .nil
  | _, _, .cons h t => .cons h (All2.snoc r t)
theorem mem_putK {kvs : List (List Key × V)} {k : List Key} {v : V} {p : List Key × V} (h : p ∈ putK kvs k v) : p.1 = k ∨ p ∈ kvs := by
  unfold putK at h
  split at h
  · obtain ⟨q, hq, rfl⟩ := List.mem_map.mp h
    by_cases e : q.1 = k
    · simp [e]
    · simp [e]
      exact hq
  · rcases List.mem_append.mp h with h | h
    · exact .inr h
    · rw [List.mem_singleton] at h
      rw [h]
      exact .inl rfl
theorem mem_of_valV {kvs : List (List Key × V)} {k : List Key} {v : V} (h : valV kvs k = some v) : (k, v) ∈ kvs := by
  unfold valV at h
  cases e : kvs.find? fun kv => decide (kv.1 = k) with
  | none =>
    rw [e] at h
    cases h
  | some p =>
    rw [e] at h
    have h1 := List.find?_some e
    have h1 : p.1 = k := by simpa using h1
    have h2 : p.2 = v := by simpa using h
    rw [← h1, ← h2]
    exact List.mem_of_find?_eq_some e
section
variable {K : PySem.W.Frag} {σ : St} {H : Hp} {ta td ty tx te : TE} {D : Ends} {d b : Addr} {kvs : List (List Key × V)} {k : List Key} {v z : V}
theorem v_dget2 (hd : Val td σ H (.ref d)) (h : H d = some (.dT kvs)) (hy : Val ty σ H (.ref b)) (hb : H b = some (.tup (k.map kV))) (hx : Val tx σ H z) : Val (tDGet2 td ty tx) σ H ((valV kvs k).getD z) := fun _ q =>
  hd _ ⟨d, rfl, .inr ⟨kvs, .inl h⟩, hy _ (hx _ ⟨_, DGet.t h hb, q⟩)⟩
theorem v_dgetF {o : Obj} (hd : Val td σ H (.ref d)) (h : H d = some (.frz o (.dT kvs))) (hy : Val ty σ H (.ref b)) (hb : H b = some (.tup (k.map kV))) (hv : valV kvs k = some v) : Val (tDGet td ty) σ H v := fun _ q =>
  hd _ (hy _ ⟨d, v, rfl, .inr ⟨kvs, k, b, .inr ⟨o, h⟩, rfl, hb, hv.symm⟩, q⟩)
theorem v_dget (hd : Val td σ H (.ref d)) (h : H d = some (.dT kvs)) (hy : Val ty σ H (.ref b)) (hb : H b = some (.tup (k.map kV))) (hv : valV kvs k = some v) : Val (tDGet td ty) σ H v := fun _ q =>
  hd _ (hy _ ⟨d, v, rfl, .inr ⟨kvs, k, b, .inl h, rfl, hb, hv.symm⟩, q⟩)
theorem s_dput {tv : TE} (hv : Val tv σ H v) (hd : Val td σ H (.ref d)) (h : H d = some (.dT kvs)) (hy : Val ty σ H (.ref b)) (hb : H b = some (.tup (k.map kV))) (hz : kvs.length ≤ 1000000) (kk : D.nx σ (upd H d (.dT (putK kvs k v)))) : sDPut td ty tv D σ H :=
  hv _ (hd _ (hy _ ⟨d, _, rfl, DPut.t h hb (sz_lt hz), kk⟩))
theorem same_unlock {H H' : Hp} {u : HO} {o : Obj} (h : H d = some u) (e : Same (upd H d (.frz o u)) H') : Same H (upd H' d u) := fun c x q => by
  by_cases hc : c = d
  · subst hc
    rw [h] at q
    rw [upd_same]
    exact q
  · rw [upd_ne hc]
    exact e c x (by rw [upd_ne hc]; exact q)
/-- a comprehension over a dict of tuple keys, the dict locked -/
theorem h_lcKT {tt : TT} {j : Nat} {vs : List Nat} (f : List Key × V → Bool) (R : List Key × V → V → Hp → Prop) (hR : ∀ kv x H H', R kv x H → (∀ b xs, H b = some (.tup xs) → H' b = some (.tup xs)) → R kv x H')
    (hd : H d = some (.dT kvs)) (hz : kvs.length ≤ 100000) (h : ∀ od, Val td σ (upd H d (.frz od (.dT kvs))) (.ref d)) (hw : ∀ x, wipe ((wipe σ vs).set j (some x)) vs = wipe σ vs)
    (ht : ∀ od kv q H', kv ∈ kvs → Same (upd H d (.frz od (.dT kvs))) H' → H' q = some (.tup (kv.1.map kV)) → AG tt ((wipe σ vs).set j (some (.ref q))) H' (f kv))
    (he : ∀ od kv q H', kv ∈ kvs → f kv = true → Same (upd H d (.frz od (.dT kvs))) H' → H' q = some (.tup (kv.1.map kV)) → ValH te ((wipe σ vs).set j (some (.ref q))) H' (fun v H2 => Same H' H2 ∧ R kv v H2)) :
    ValH (tLockE (tLc (iKeys td) (gName j) tt te vs)) σ H (fun v H' => ∃ E acc, v = .ref E ∧ H E = none ∧ Same H H' ∧ H' E = some (.lst acc) ∧ All2 (fun x kv => R kv x H') acc (kvs.filter f)) := by
  intro Q q
  refine ⟨d, .dT kvs, hd, trivial, fun od => ?_⟩
  refine h od _ ?_
  refine ⟨d, od, rfl, .inr ⟨kvs, upd_same, fun E hE => ?_⟩⟩
  have hEd : E ≠ d := fun z => by
    rw [z, upd_same] at hE
    cases hE
  have hE0 : H E = none := by
    rw [upd_ne hEd] at hE
    exact hE
  refine lc_it walk_keysT (fun i H' => Same (upd H d (.frz od (.dT kvs))) H' ∧ ∃ acc, H' E = some (.lst acc) ∧ All2 (fun x kv => R kv x H') acc ((kvs.take i).filter f)) ⟨same_upd hE, [], upd_same, ?_⟩ (fun i H' _ r => r.1 _ _ upd_same) ?_ ?_
  · simp only [List.take_zero, List.filter_nil]
    exact .nil
  · rintro i x H1 H2 hi ⟨e1, acc, hacc, hA⟩ ⟨rfl, k, v, p, hk, rfl, hp⟩
    have hm : (k, v) ∈ kvs := List.mem_of_getElem? hk
    have hlen : acc.length ≤ kvs.length := by
      rw [hA.len]
      exact Nat.le_trans (List.length_filter_le _ _) (List.length_take_le' _ _)
    have tk : (kvs.take (i + 1)).filter f = (kvs.take i).filter f ++ if f (k, v) then [(k, v)] else [] := by
      rw [List.take_add_one, hk]
      simp only [Option.toList, List.filter_append]
      by_cases hf : f (k, v) = true <;> simp [hf]
    refine ⟨hw _, ht od (k, v) p _ hm e1 hp _ fun H3 e3 => ?_⟩
    cases hf : f (k, v) with
    | true =>
      refine iteT ?_
      refine he od (k, v) p H3 hm hf (e1.trans e3) (e3 _ _ hp) _ fun y H4 z => ?_
      obtain ⟨e4, r⟩ := z
      have hacc4 := e4 _ _ (e3 _ _ hacc)
      refine ⟨acc, hacc4, sz_lt (by omega), same_mut (e1.trans (e3.trans e4)) hE, acc ++ [y], upd_same, ?_⟩
      have kp : ∀ b xs, H4 b = some (.tup xs) → (upd H4 E (.lst (acc ++ [y]))) b = some (.tup xs) := fun b xs hb => by
        rw [upd_ne (ne_of hb hacc4 (by intro z; cases z))]
        exact hb
      rw [tk, hf, if_pos rfl]
      have a1 : All2 (fun x kv => R kv x (upd H4 E (.lst (acc ++ [y])))) acc ((kvs.take i).filter f) := hA.imp fun x kv r => hR _ _ _ _ r fun b xs hb => kp b xs (e4 _ _ (e3 _ _ hb))
      have a2 : R (k, v) y (upd H4 E (.lst (acc ++ [y]))) := hR _ _ _ _ r kp
      clear hA hacc hacc4 kp hlen
      revert a1
      generalize (kvs.take i).filter f = fs
      generalize (upd H4 E (.lst (acc ++ [y]))) = H5 at a2 ⊢
      intro a1
      exact All2.snoc (R := fun x kv => R kv x H5) a2 a1
    | false =>
      refine iteF ⟨e1.trans e3, acc, e3 _ _ hacc, ?_⟩
      rw [tk, hf]
      simp only [Bool.false_eq_true, if_false, List.append_nil]
      exact hA.imp fun x kv r => hR _ _ _ _ r fun b xs hb => e3 _ _ hb
  · rintro H1 ⟨e1, acc, hacc, hA⟩
    have hd1 : H1 d = some (.frz od (.dT kvs)) := e1 _ _ upd_same
    refine ⟨hd1, q _ _ ⟨E, acc, rfl, hE0, same_unlock hd e1, by rw [upd_ne hEd]; exact hacc, ?_⟩⟩
    rw [List.take_length] at hA
    exact hA.imp fun x kv r => hR _ _ _ _ r fun b xs hb => by
      rw [upd_ne (ne_of hb hd1 (by intro z; cases z))]
      exact hb
end
end EH

set_option maxHeartbeats 2000000
namespace EH
open PySem PySem.Spec PyProof.Rows L2
local macro_rules | `(tactic| kbo_bools) => `(tactic| first
  | exact v_c
  | exact v_var rfl
  | assumption
  | ((with_reducible refine' v_I0 ?ka ?kb); (case ka => kbo_bools); (case kb => kbo_bools))
  | ((with_reducible refine' v_I ?ka ?kb ?kc); (case ka => kbo_bools); (case kb => kbo_bools); (case kc => first | assumption | exact (by decide) | exact ⟨by decide, by decide⟩ | exact Or.inl ⟨by decide, by decide⟩ | exact Or.inr ⟨by decide, by decide⟩ | exact Or.inl ⟨by omega, by omega⟩ | exact Or.inr ⟨by omega, by omega⟩ | exact (show (0 : Int) < _ by omega)))
  | ((with_reducible refine' v_neg ?ka); (case ka => kbo_bools))
  | ((with_reducible refine' v_eq ?ka ?kb ?kc); (case ka => kbo_bools); (case kb => kbo_bools); (case kc => rfl))
  | ((with_reducible refine' v_ne ?ka ?kb ?kc); (case ka => kbo_bools); (case kb => kbo_bools); (case kc => rfl))
  | (refine' v_isN ?ka; (case ka => kbo_bools))
  | (refine' v_notN ?ka; (case ka => kbo_bools))
  | ((with_reducible refine' v_ixT ?ka ?kb ?kc ?kd); (case ka => kbo_bools); (case kb => kbo_bools); (case kc => assumption); (case kd => rfl))
  | (refine' v_len ?ka ?kb; (case ka => kbo_bools); (case kb => kln_le))
  | ((with_reducible refine' v_and ?ka ?kb); (case ka => kbo_bools); (case kb => (intro; kbo_bools)))
  | ((with_reducible refine' v_or ?ka ?kb); (case ka => kbo_bools); (case kb => (intro; kbo_bools)))
  | ((with_reducible refine' v_not ?ka); (case ka => kbo_bools)))
local macro_rules | `(tactic| kbt_split) => `(tactic| first
  | assumption
  | ((with_reducible refine' a_not ?ka); (case ka => kbt_split))
  | ((with_reducible refine' a_and ?ka ?kb); (case ka => kbt_split); (case kb => (intro; kbt_split)))
  | ((with_reducible refine' a_or ?ka ?kb); (case ka => kbt_split); (case kb => (intro; kbt_split)))
  | (refine' a_I0 ?ka ?kb; (case ka => kbo_bools); (case kb => kbo_bools))
  | (refine' a_chain ?ka ?kb ?kc; (case ka => kbo_bools); (case kb => kbo_bools); (case kc => kbo_bools))
  | ((with_reducible refine' a_test ?ka); (case ka => kbo_bools))
  | ((with_reducible refine' a_B ?ka); (case ka => kbo_bools)))
local macro_rules | `(tactic| kxs_still) => `(tactic| first
  | exact av_nil
  | ((with_reducible refine' av_cons ?ka ?kb); (case ka => kbo_bools); (case kb => kxs_still)))
local macro_rules | `(tactic| kln_le) => `(tactic| first
  | assumption
  | exact SqL.of (by assumption))
local macro_rules | `(tactic| l_intsC) => `(tactic| first
  | ((with_reducible refine' q_when ?c ?h1 ?h2); (case c => kbt_split))
  | ((with_reducible refine' q_if ?c ?h1 ?h2); (case c => kbt_split))
  | ((with_reducible refine' s_if ?c ?h1 ?h2); (case c => kbt_split)))
local macro_rules | `(tactic| kopn_word) => `(tactic| first
  | ((with_reducible refine' q_set ?c ?h1); (case c => kbo_bools))
  | ((with_reducible refine' s_set ?c ?h1); (case c => kbo_bools))
  | ((with_reducible refine' s_ret ?c ?h1); (case c => kbo_bools)))

abbrev prg : Program := PySem.Challenge.pw_emptyhall_k07_whole_no_plan_above_a_pape
def top (i : Nat) : Stmt := PySem.Challenge.pw_emptyhall_k07_whole_no_plan_above_a_pape.main.body.getD i (.Pass ⟨0, 0, 0, 0⟩)
abbrev s_counts_at : Stmt := top 6
abbrev s_bound : Stmt := top 7
abbrev s_see_way : Stmt := top 9
abbrev s_House_init : Stmt := inClass (top 10) 0
abbrev s_House_people : Stmt := inClass (top 10) 1
abbrev s_House_ways : Stmt := inClass (top 10) 2
abbrev s_House_total : Stmt := inClass (top 10) 3
abbrev s_outside_at : Stmt := top 12
abbrev s_narrow : Stmt := top 13
abbrev s_holds : Stmt := top 14
abbrev s_law_cell_at : Stmt := top 16
abbrev s_law_draw : Stmt := top 17
abbrev s_law_whole : Stmt := top 18
abbrev s_law_people : Stmt := top 19
abbrev s_law_way : Stmt := top 20
abbrev s_law_house : Stmt := top 21
abbrev s_law_end : Stmt := top 22
abbrev s_law_holds : Stmt := top 23
abbrev s_law_drawn_walk : Stmt := top 24
abbrev s_law_bound : Stmt := top 25
abbrev s_law_paper_right : Stmt := top 26
abbrev s_law : Stmt := top 27
def d_counts_at : He.DefD := ⟨("counts_at", none), "counts_at", "counts_at", defArgs s_counts_at, defBody s_counts_at, defScope s_counts_at, [], []⟩
def d_bound : He.DefD := ⟨("bound", none), "bound", "bound", defArgs s_bound, defBody s_bound, defScope s_bound, [], []⟩
def d_see_way : He.DefD := ⟨("see_way", none), "see_way", "see_way", defArgs s_see_way, defBody s_see_way, defScope s_see_way, [], []⟩
def d_House_init : He.DefD := ⟨("House", some "__init__"), "__init__", "House.__init__", defArgs s_House_init, defBody s_House_init, defScope s_House_init, [], []⟩
def d_House_people : He.DefD := ⟨("House", some "people"), "people", "House.people", defArgs s_House_people, defBody s_House_people, defScope s_House_people, [], []⟩
def d_House_ways : He.DefD := ⟨("House", some "ways"), "ways", "House.ways", defArgs s_House_ways, defBody s_House_ways, defScope s_House_ways, [], []⟩
def d_House_total : He.DefD := ⟨("House", some "total"), "total", "House.total", defArgs s_House_total, defBody s_House_total, defScope s_House_total, [], []⟩
def d_outside_at : He.DefD := ⟨("outside_at", none), "outside_at", "outside_at", defArgs s_outside_at, defBody s_outside_at, defScope s_outside_at, [], []⟩
def d_narrow : He.DefD := ⟨("narrow", none), "narrow", "narrow", defArgs s_narrow, defBody s_narrow, defScope s_narrow, [], []⟩
def d_holds : He.DefD := ⟨("holds", none), "holds", "holds", defArgs s_holds, defBody s_holds, defScope s_holds, [], []⟩
def d_law_cell_at : He.DefD := ⟨("_law_cell_at", none), "_law_cell_at", "_law_cell_at", defArgs s_law_cell_at, defBody s_law_cell_at, defScope s_law_cell_at, [], []⟩
def d_law_draw : He.DefD := ⟨("_law_draw", none), "_law_draw", "_law_draw", defArgs s_law_draw, defBody s_law_draw, defScope s_law_draw, [], []⟩
def d_law_whole : He.DefD := ⟨("_law_whole", none), "_law_whole", "_law_whole", defArgs s_law_whole, defBody s_law_whole, defScope s_law_whole, [], []⟩
def d_law_people : He.DefD := ⟨("_law_people", none), "_law_people", "_law_people", defArgs s_law_people, defBody s_law_people, defScope s_law_people, [], []⟩
def d_law_way : He.DefD := ⟨("_law_way", none), "_law_way", "_law_way", defArgs s_law_way, defBody s_law_way, defScope s_law_way, [], []⟩
def d_law_house : He.DefD := ⟨("_law_house", none), "_law_house", "_law_house", defArgs s_law_house, defBody s_law_house, defScope s_law_house, [], []⟩
def d_law_end : He.DefD := ⟨("_law_end", none), "_law_end", "_law_end", defArgs s_law_end, defBody s_law_end, defScope s_law_end, [], []⟩
def d_law_holds : He.DefD := ⟨("_law_holds", none), "_law_holds", "_law_holds", defArgs s_law_holds, defBody s_law_holds, defScope s_law_holds, [], []⟩
def d_law_drawn_walk : He.DefD := ⟨("_law_drawn_walk", none), "_law_drawn_walk", "_law_drawn_walk", defArgs s_law_drawn_walk, defBody s_law_drawn_walk, defScope s_law_drawn_walk, [], []⟩
def d_law_bound : He.DefD := ⟨("_law_bound", none), "_law_bound", "_law_bound", defArgs s_law_bound, defBody s_law_bound, defScope s_law_bound, [], []⟩
def d_law_paper_right : He.DefD := ⟨("_law_paper_right", none), "_law_paper_right", "_law_paper_right", defArgs s_law_paper_right, defBody s_law_paper_right, defScope s_law_paper_right, [], []⟩
def d_law : He.DefD := ⟨("law", none), "law", "law", defArgs s_law, defBody s_law, defScope s_law, [], []⟩
def fn : List He.DefD := [d_counts_at, d_bound, d_see_way, d_House_init, d_House_people, d_House_ways, d_House_total, d_outside_at, d_narrow, d_holds, d_law_cell_at, d_law_draw, d_law_whole, d_law_people, d_law_way, d_law_house, d_law_end, d_law_holds, d_law_drawn_walk, d_law_bound, d_law_paper_right, d_law]
def fa : List He.Fa := [.glo "counts_at", .glo "bound", .glo "see_way", .glo "outside_at", .glo "narrow", .glo "holds", .glo "_law_cell_at", .glo "_law_draw", .glo "_law_whole", .glo "_law_people", .glo "_law_way", .glo "_law_house", .glo "_law_end", .glo "_law_holds", .glo "_law_drawn_walk", .glo "_law_bound", .glo "_law_paper_right", .glo "law", .free "len", .free "list", .free "tuple", .free "range", .free "sum", .free "min", .free "max", .free "isinstance", .free "str", .free "int", .free "bool", .free "enumerate", .free "ValueError", .glo "HallError", .exc "HallError", .glo "BadHouse", .exc "BadHouse", .glo "NoWalk", .exc "NoWalk", .glo "BadPaper", .exc "BadPaper", .glo "House", .cls "House", .mkr "House", .noat "House" "held", .noat "House" "laid", .meth "House" "people", .meth "House" "ways", .meth "House" "total", .exm "HallError" "NoWalk" false, .exm "BadHouse" "NoWalk" false, .exm "NoWalk" "NoWalk" true, .exm "BadPaper" "NoWalk" false]
def loose : List PySem.Str := ["HallError", "BadHouse", "NoWalk", "BadPaper", "counts_at", "bound", "see_way", "House", "outside_at", "narrow", "holds", "_law_cell_at", "_law_draw", "_law_whole", "_law_people", "_law_way", "_law_house", "_law_end", "_law_holds", "_law_drawn_walk", "_law_bound", "_law_paper_right"]
/-! ### the law's draws -/
def cellZ (ns : List Int) (k : Int) : Int := if k < ns.length then ns.getD k.toNat 0 else 0
def drawZ (ns : List Int) (k : Int) : Int := (cellZ ns (k % 61) + 7919 * k) * (48271 + 2 * k) % 2147483647
theorem draw_nn (ns : List Int) (k : Int) : 0 ≤ drawZ ns k := Int.emod_nonneg _ (by decide)
def sp_law_cell_at (K : PySem.W.Frag) (C : Cs) : Sp := fun vs H Q _ => ∃ (a : Addr) (ns : List Int) (k : Int), vs = [.ref a, .int k] ∧ SqL K H a (ns.map V.int) ∧ 0 ≤ k ∧ Q (.int (cellZ ns k)) H
def sp_law_draw (K : PySem.W.Frag) (C : Cs) : Sp := fun vs H Q _ => ∃ (a : Addr) (ns : List Int) (k : Int), vs = [.ref a, .int k] ∧ SqL K H a (ns.map V.int) ∧ (0 ≤ k ∧ k ≤ 1000) ∧ Q (.int (drawZ ns k)) H
theorem at_ints {ns : List Int} {k : Int} (h0 : 0 ≤ k) (h : k < ns.length) : atI (ns.map V.int) k = some (.int (ns.getD k.toNat 0)) := by
  obtain ⟨j, rfl⟩ : ∃ j : Nat, k = j := ⟨k.toNat, by omega⟩
  have hj : j < ns.length := by omega
  refine atI_nat ?_
  rw [List.getElem?_map, List.getElem?_eq_getElem hj]
  simp [List.getD_eq_getElem?_getD, List.getElem?_eq_getElem hj]
section
variable {P : Program} {w : World} {K : PySem.W.Frag} {mg : Str → Option Value} {base : Heap} {C : Cs}
abbrev N_law_cell_at : List PySem.Str := ["script", "k"]
theorem sc_law_cell_at : FnScope N_law_cell_at ["script", "k"] (defScope s_law_cell_at) := ⟨rfl, rfl, rfl, by decide +kernel, rfl, by decide +kernel, by decide +kernel⟩
theorem c_law_cell_at {f fd} (D : FnP K "_law_cell_at" "_law_cell_at" s_law_cell_at f fd) (hm : mg "_law_cell_at" = some (.ref f)) (G : Bn mg) : Cal P w K mg base CX0 1 "_law_cell_at" (sp_law_cell_at K C) := by
  refine cal_of D hm (D.ok sc_law_cell_at (fun vs H Q E h => ?_) (fun cdv A outer s H vs Q E hr h => ?_)) (fun _ _ _ _ _ _ us hl => match us, hl with | [_, _], _ => rfl)
  · obtain ⟨a, ns, k, rfl, hS, hk, q⟩ := h
    rfl
  · obtain ⟨a, ns, k, rfl, hS, hk, q⟩ := h
    have hu := hu_of hr
    refine ⟨_, PSs.nox (pss_cons (ps_if (pt_cmpR op_lt (pv 1) (pe_callB (id := "len") (call_len_seqK (K := K) rfl) (by rfl) G.len_ (by decide +kernel) (pa_cons (pv 0) pa_nil)) (nomark _))
          (pss_one (ps_ret (pe_ix (ix_listK (K := K) rfl) (pv 0) (pv 1) (fun _ _ => rfl))))
          pss_nil)
        (pss_one (ps_ret pe_int))), ?_⟩
    l_intsC
    all_goals intro hb
    · have hb : k < ns.length := by simpa using hb
      refine s_ret (v_ixL (by kbo_bools) (by kbo_bools) hS (at_ints hk hb)) ?_
      simpa [cellZ, hb] using q
    · have hb : ¬ k < ns.length := by simpa using hb
      kopn_word
      simpa [cellZ, hb] using q
abbrev N_law_draw : List PySem.Str := ["script", "k"]
theorem sc_law_draw : FnScope N_law_draw ["script", "k"] (defScope s_law_draw) := ⟨rfl, rfl, rfl, by decide +kernel, rfl, by decide +kernel, by decide +kernel⟩
theorem c_law_draw {f fd} (D : FnP K "_law_draw" "_law_draw" s_law_draw f fd) (hm : mg "_law_draw" = some (.ref f)) (G : Bn mg) (c_law_cell_at : Cal P w K mg base CX0 1 "_law_cell_at" (sp_law_cell_at K C)) : Cal P w K mg base CX0 2 "_law_draw" (sp_law_draw K C) := by
  refine cal_of D hm (D.ok sc_law_draw (fun vs H Q E h => ?_) (fun cdv A outer s H vs Q E hr h => ?_)) (fun _ _ _ _ _ _ us hl => match us, hl with | [_, _], _ => rfl)
  · obtain ⟨a, ns, k, rfl, hS, hk, q⟩ := h
    rfl
  · obtain ⟨a, ns, k, rfl, hS, hk, q⟩ := h
    have hu := hu_of hr
    refine ⟨_, PSs.nox (pss_one (ps_ret (pe_op op_mod (pe_op op_mul (pe_op op_add (pe_c c_law_cell_at hr (by decide) pass0 rfl (pa_cons (pv 0) (pa_cons (pe_op op_mod (pv 1) pe_int) pa_nil))) (pe_op op_mul pe_int (pv 1))) (pe_op op_add pe_int (pe_op op_mul pe_int (pv 1)))) pe_int))), ?_⟩
    refine s_ret (v := .int (drawZ ns k)) (v_I (i := (cellZ ns (k % 61) + 7919 * k) * (48271 + 2 * k)) (v_I (v_I0 (i := cellZ ns (k % 61)) (v_call (vs := [.ref a, .int (k % 61)]) (by kxs_still) fun Q q => ⟨a, ns, k % 61, rfl, hS, by omega, q⟩) (by kbo_bools)) (by kbo_bools) (.inr ⟨by omega, by omega⟩)) (by kbo_bools) (by decide)) q
end
/-- a draw, as a value -/
theorem v_draw {K : PySem.W.Frag} {C : Cs} {σ : St} {H : Hp} {ta tb : TE} {a : Addr} {ns : List Int} {k : Int} (hS : SqL K H a (ns.map V.int)) (ha : Val ta σ H (.ref a)) (hb : Val tb σ H (.int k)) (hk : 0 ≤ k ∧ k ≤ 1000) :
    Val (tCall (sp_law_draw K C) [] E0 (tCons ta (tCons tb tNil))) σ H (.int (drawZ ns k)) := v_call (av_cons ha (av_cons hb av_nil)) fun Q q => ⟨a, ns, k, rfl, hS, hk, q⟩
local macro_rules | `(tactic| kbo_bools) => `(tactic| (refine' v_draw ?ka ?kb ?kc ?kd; (case ka => kln_le); (case kb => kbo_bools); (case kc => kbo_bools); (case kd => omega)))
/-! ### a drawn house -/
def mostZ (ns : List Int) : Int := [3, 2, 5, 10].getD (drawZ ns 2 % 4).toNat 3
def peopleZ (ns : List Int) (n : Int) : List Int := (List.range n.toNat).map fun (k : Nat) => drawZ ns (3 + (k : Int)) % mostZ ns
theorem at4 {a b c d : Int} {x : Int} (hx : 0 ≤ x) : atI [V.int a, .int b, .int c, .int d] (x % 4) = some (.int ([a, b, c, d].getD (x % 4).toNat a)) := by
  have h : x % 4 = 0 ∨ x % 4 = 1 ∨ x % 4 = 2 ∨ x % 4 = 3 := by omega
  rcases h with e | e | e | e <;> rw [e] <;> rfl
theorem at3 {a b c : Int} {x : Int} (hx : 0 ≤ x) : atI [V.int a, .int b, .int c] (x % 3) = some (.int ([a, b, c].getD (x % 3).toNat a)) := by
  have h : x % 3 = 0 ∨ x % 3 = 1 ∨ x % 3 = 2 := by omega
  rcases h with e | e | e <;> rw [e] <;> rfl
theorem most_pos (ns : List Int) : 0 < mostZ ns ∧ mostZ ns ≤ 10 := by
  have h : drawZ ns 2 % 4 = 0 ∨ drawZ ns 2 % 4 = 1 ∨ drawZ ns 2 % 4 = 2 ∨ drawZ ns 2 % 4 = 3 := by omega
  unfold mostZ
  rcases h with e | e | e | e <;> rw [e] <;> decide
/-- a new list of these ints -/
def RetInts (ns : List Int) (H : Hp) (Q : VK) : Prop := ∀ p H', H p = none → Same H H' → H' p = some (.lst (ns.map V.int)) → Q (.ref p) H'
def sp_law_people (K : PySem.W.Frag) (C : Cs) : Sp := fun vs H Q _ => ∃ (a : Addr) (ns : List Int) (n : Int), vs = [.ref a, .int n] ∧ SqL K H a (ns.map V.int) ∧ (0 ≤ n ∧ n ≤ 10) ∧ RetInts (peopleZ ns n) H Q
section
variable {P : Program} {w : World} {K : PySem.W.Frag} {mg : Str → Option Value} {base : Heap} {C : Cs}
abbrev N_law_people : List PySem.Str := ["script", "rooms", "most", "k"]
theorem sc_law_people : FnScope N_law_people ["script", "rooms"] (defScope s_law_people) := ⟨rfl, rfl, rfl, by decide +kernel, rfl, by decide +kernel, by decide +kernel⟩
theorem c_law_people {f fd} (D : FnP K "_law_people" "_law_people" s_law_people f fd) (hm : mg "_law_people" = some (.ref f)) (G : Bn mg) (c_law_draw : Cal P w K mg base CX0 2 "_law_draw" (sp_law_draw K C)) : Cal P w K mg base CX0 3 "_law_people" (sp_law_people K C) := by
  refine cal_of D hm (D.ok sc_law_people (fun vs H Q E h => ?_) (fun cdv A outer s H vs Q E hr h => ?_)) (fun _ _ _ _ _ _ us hl => match us, hl with | [_, _], _ => rfl)
  · obtain ⟨a, ns, n, rfl, hS, hn, q⟩ := h
    rfl
  · obtain ⟨a, ns, n, rfl, hS, hn, q⟩ := h
    have hu := hu_of hr
    refine ⟨_, PSs.nox (pss_cons (ps_set (i := 2) sc_law_people.nd rfl (Or.inr rfl) (pe_ix (ix_listK (K := K) rfl) (pe_lst (pa_cons pe_int (pa_cons pe_int (pa_cons pe_int (pa_cons pe_int pa_nil))))) (pe_op op_mod (pe_c c_law_draw hr (by decide) pass0 rfl (pa_cons (pv 0) (pa_cons pe_int pa_nil))) pe_int) (fun _ _ => rfl)))
        (pss_one (ps_ret (pe_lc (own := [("k", 3)]) (g := gName 3) rfl sc_law_people.nd (pi_range1 rfl G.range_ (pa_cons (pv 1) pa_nil)) (blkOk_by (own := [("k", 3)]) (N := N_law_people) (sc := defScope s_law_people) (by decide +kernel)) (fun _ _ _ _ _ => pg_name (i := 3) sc_law_people.nd rfl (Or.inl rfl)) (fun _ _ _ _ _ => pts_nil) (fun _ _ _ _ _ => (pe_op op_mod (pe_c c_law_draw hr (by decide) pass0 rfl (pa_cons (pv 0) (pa_cons (pe_op op_add pe_int (pv 3)) pa_nil))) (pv 2))))))), ?_⟩
    have hm := most_pos ns
    refine q_setH (h_ixLst (by kxs_still) (by decide) (fun H' e => ?_) (at4 (draw_nn ns 2))) fun v H1 hv => ?_
    · have hS := Evl.ex_l e hS
      kbo_bools
    obtain ⟨rfl, e1⟩ := hv
    have hS := Evl.ex_l e1 hS
    refine s_retH (h_lcR (n := n) (by kxs_still) (by omega) (fun _ => rfl) (fun i v _ => v = .int (drawZ ns (3 + (i : Int)) % mostZ ns)) (fun _ => noList_c) fun i H' hi e => ?_) fun v H' hv => ?_
    · have hS := Evl.ex_l e hS
      refine ValH.imp (Val.h' (v := .int (drawZ ns (3 + (i : Int)) % mostZ ns)) (v_I (i := drawZ ns (3 + (i : Int))) (j := mostZ ns) (by kbo_bools) (by kbo_bools) hm.1)) ?_
      rintro v H2 ⟨rfl, rfl⟩
      exact ⟨Same.refl _, rfl⟩
    · obtain ⟨D, rfl, h1, h2, h3⟩ := made_eq hv
      refine q D H' (e1.free h1) (e1.trans h2) ?_
      rw [h3, peopleZ, List.map_map]
      rfl
end
def wideZ (ns : List Int) : Int := [2, 3, 9].getD (drawZ ns 8 % 3).toNat 2
def longZ (ns : List Int) : Int := [2, 3, 6].getD (drawZ ns 9 % 3).toNat 2
theorem wide_b (ns : List Int) : 2 ≤ wideZ ns ∧ wideZ ns ≤ 9 := by
  have h : drawZ ns 8 % 3 = 0 ∨ drawZ ns 8 % 3 = 1 ∨ drawZ ns 8 % 3 = 2 := by omega
  unfold wideZ
  rcases h with e | e | e <;> rw [e] <;> decide
theorem long_b (ns : List Int) : 2 ≤ longZ ns ∧ longZ ns ≤ 6 := by
  have h : drawZ ns 9 % 3 = 0 ∨ drawZ ns 9 % 3 = 1 ∨ drawZ ns 9 % 3 = 2 := by omega
  unfold longZ
  rcases h with e | e | e <;> rw [e] <;> decide
def wayZ (ns : List Int) (k n : Int) : Way :=
  { s := 1 + drawZ ns (10 + k) % n, e := if drawZ ns (21 + k) % (n + 1) = 1 + drawZ ns (10 + k) % n then 0 else drawZ ns (21 + k) % (n + 1), w := 1 + drawZ ns (32 + k) % wideZ ns, l := 1 + drawZ ns (43 + k) % longZ ns }
def RetWay (x : Way) (H : Hp) (Q : VK) : Prop := ∀ p H', H p = none → Same H H' → WayAt H' p x → Q (.ref p) H'
def sp_law_way (K : PySem.W.Frag) (C : Cs) : Sp := fun vs H Q _ => ∃ (a : Addr) (ns : List Int) (k n : Int), vs = [.ref a, .int k, .int n] ∧ SqL K H a (ns.map V.int) ∧ (0 ≤ k ∧ k ≤ 20) ∧ (1 ≤ n ∧ n ≤ 10) ∧ RetWay (wayZ ns k n) H Q
section
variable {P : Program} {w : World} {K : PySem.W.Frag} {mg : Str → Option Value} {base : Heap} {C : Cs}
abbrev N_law_way : List PySem.Str := ["script", "k", "rooms", "start", "end", "wide"]
theorem sc_law_way : FnScope N_law_way ["script", "k", "rooms"] (defScope s_law_way) := ⟨rfl, rfl, rfl, by decide +kernel, rfl, by decide +kernel, by decide +kernel⟩
theorem c_law_way {f fd} (D : FnP K "_law_way" "_law_way" s_law_way f fd) (hm : mg "_law_way" = some (.ref f)) (G : Bn mg) (c_law_draw : Cal P w K mg base CX0 2 "_law_draw" (sp_law_draw K C)) : Cal P w K mg base CX0 3 "_law_way" (sp_law_way K C) := by
  refine cal_of D hm (D.ok sc_law_way (fun vs H Q E h => ?_) (fun cdv A outer s H vs Q E hr h => ?_)) (fun _ _ _ _ _ _ us hl => match us, hl with | [_, _, _], _ => rfl)
  · obtain ⟨a, ns, k, n, rfl, hS, hk, hn, q⟩ := h
    rfl
  · obtain ⟨a, ns, k, n, rfl, hS, hk, hn, q⟩ := h
    have hu := hu_of hr
    refine ⟨_, PSs.nox (pss_cons (ps_set (i := 3) sc_law_way.nd rfl (Or.inl rfl) (pe_op op_add pe_int (pe_op op_mod (pe_c c_law_draw hr (by decide) pass0 rfl (pa_cons (pv 0) (pa_cons (pe_op op_add pe_int (pv 1)) pa_nil))) (pv 2))))
        (pss_cons (ps_set (i := 4) sc_law_way.nd rfl (Or.inl rfl) (pe_op op_mod (pe_c c_law_draw hr (by decide) pass0 rfl (pa_cons (pv 0) (pa_cons (pe_op op_add pe_int (pv 1)) pa_nil))) (pe_op op_add (pv 2) pe_int)))
        (pss_cons (ps_if (pt_cmpR op_eq (pv 4) (pv 3) (nomark _))
          (pss_one (ps_set (i := 4) sc_law_way.nd rfl (Or.inl rfl) pe_int))
          pss_nil)
        (pss_cons (ps_set (i := 5) sc_law_way.nd rfl (Or.inl rfl) (pe_op op_add pe_int (pe_op op_mod (pe_c c_law_draw hr (by decide) pass0 rfl (pa_cons (pv 0) (pa_cons (pe_op op_add pe_int (pv 1)) pa_nil))) (pe_ix (ix_listK (K := K) rfl) (pe_lst (pa_cons pe_int (pa_cons pe_int (pa_cons pe_int pa_nil)))) (pe_op op_mod (pe_c c_law_draw hr (by decide) pass0 rfl (pa_cons (pv 0) (pa_cons pe_int pa_nil))) pe_int) (fun _ _ => rfl)))))
        (pss_one (ps_ret (pe_tup (pa_cons (pv 3) (pa_cons (pv 4) (pa_cons (pv 5) (pa_cons (pe_op op_add pe_int (pe_op op_mod (pe_c c_law_draw hr (by decide) pass0 rfl (pa_cons (pv 0) (pa_cons (pe_op op_add pe_int (pv 1)) pa_nil))) (pe_ix (ix_listK (K := K) rfl) (pe_lst (pa_cons pe_int (pa_cons pe_int (pa_cons pe_int pa_nil)))) (pe_op op_mod (pe_c c_law_draw hr (by decide) pass0 rfl (pa_cons (pv 0) (pa_cons pe_int pa_nil))) pe_int) (fun _ _ => rfl)))) pa_nil))))))))))), ?_⟩
    have hw := wide_b ns
    have hl := long_b ns
    kopn_word
    kopn_word
    refine q_ifset (v := .int (wayZ ns k n).e) (by kbt_split) (fun hb => ?_) (fun hb => ?_) ?_
    · have hb : drawZ ns (21 + k) % (n + 1) = 1 + drawZ ns (10 + k) % n := by simpa using hb
      simp only [wayZ, if_pos hb]
      exact v_c
    · have hb : ¬ drawZ ns (21 + k) % (n + 1) = 1 + drawZ ns (10 + k) % n := by simpa using hb
      simp only [wayZ, if_neg hb]
      rfl
    refine q_setG (v := .int (wayZ ns k n).w) (g_I0 (i := 1) (j := drawZ ns (32 + k) % wideZ ns) (g_of v_c) fun H1 e1 => ?_) fun H1 e1 => ?_
    · have hS := Evl.ex_l e1 hS
      refine g_I (i := drawZ ns (32 + k)) (j := wideZ ns) (g_of (by kbo_bools)) (fun H2 e2 => ?_) (by show (0 : Int) < _; omega)
      have hS := Evl.ex_l e2 hS
      refine g_ixLst (by kxs_still) (by decide) (fun H3 e3 => ?_) (at3 (draw_nn ns 8))
      have hS := Evl.ex_l e3 hS
      kbo_bools
    have hS := Evl.ex_l e1 hS
    refine s_retH (h_tupG (xs := wayV (wayZ ns k n)) (avg_cons (g_of (by kbo_bools)) fun H2 e2 => avg_cons (g_of (by kbo_bools)) fun H3 e3 => avg_cons (g_of (by kbo_bools)) fun H4 e4 => avg_cons ?_ fun _ _ => avg_nil) (by show 4 ≤ 1000; decide)) fun v H2 hv => ?_
    · have hS := Evl.ex_l (e2.trans (e3.trans e4)) hS
      refine g_I0 (i := 1) (j := drawZ ns (43 + k) % longZ ns) (g_of v_c) fun H1 e1 => ?_
      have hS := Evl.ex_l e1 hS
      refine g_I (i := drawZ ns (43 + k)) (j := longZ ns) (g_of (by kbo_bools)) (fun H2 e2 => ?_) (by show (0 : Int) < _; omega)
      have hS := Evl.ex_l e2 hS
      refine g_ixLst (by kxs_still) (by decide) (fun H3 e3 => ?_) (at3 (draw_nn ns 9))
      have hS := Evl.ex_l e3 hS
      kbo_bools
    · obtain ⟨p, rfl, h1, h2, h3⟩ := hv
      exact q p H2 (e1.free h1) (e1.trans h2) h3
end
def roomsZ (ns : List Int) : Int := 1 + drawZ ns 1 % 4
def manyZ (ns : List Int) : Int := if drawZ ns 7 / 8 % 8 = 1 then 10 else drawZ ns 7 % 8
def ways0Z (ns : List Int) : List Way := (List.range (manyZ ns).toNat).map fun (k : Nat) => wayZ ns (k : Int) (roomsZ ns)
def waysZ (ns : List Int) : List Way := if ways0Z ns ≠ [] ∧ drawZ ns 54 % 4 = 1 then (ways0Z ns).set ((ways0Z ns).length - 1) ((ways0Z ns).headD default) else ways0Z ns
def folkZ (ns : List Int) : List Int := peopleZ ns (roomsZ ns)
/-- a new pair of people and ways -/
def PlotAt (H : Hp) (p pl wl : Addr) (as : List Addr) (ps : List Int) (ws : List Way) : Prop := H p = some (.tup [.ref pl, .ref wl]) ∧ H pl = some (.lst (ps.map V.int)) ∧ H wl = some (.lst (as.map V.ref)) ∧ WaysAt H as ws
theorem PlotAt.same {H H' : Hp} {p pl wl : Addr} {as : List Addr} {ps : List Int} {ws : List Way} (h : PlotAt H p pl wl as ps ws) (e : Same H H') : PlotAt H' p pl wl as ps ws := ⟨e _ _ h.1, e _ _ h.2.1, e _ _ h.2.2.1, h.2.2.2.same e⟩
def RetPlot (ps : List Int) (ws : List Way) (H : Hp) (Q : VK) : Prop := ∀ p pl wl as H', H p = none → Same H H' → PlotAt H' p pl wl as ps ws → Q (.ref p) H'
def sp_law_house (K : PySem.W.Frag) (C : Cs) : Sp := fun vs H Q _ => ∃ (a : Addr) (ns : List Int), vs = [.ref a] ∧ SqL K H a (ns.map V.int) ∧ RetPlot (folkZ ns) (waysZ ns) H Q
theorem ix_last {n : Nat} (h : 0 < n) : ixN n (-1) = some (n - 1) := by
  unfold ixN
  rw [if_neg (by omega), if_pos (by omega)]
  congr 1
  omega
section
variable {P : Program} {w : World} {K : PySem.W.Frag} {mg : Str → Option Value} {base : Heap} {C : Cs}
abbrev N_law_house : List PySem.Str := ["script", "rooms", "many", "ways", "k"]
theorem sc_law_house : FnScope N_law_house ["script"] (defScope s_law_house) := ⟨rfl, rfl, rfl, by decide +kernel, rfl, by decide +kernel, by decide +kernel⟩
theorem c_law_house {f fd} (D : FnP K "_law_house" "_law_house" s_law_house f fd) (hm : mg "_law_house" = some (.ref f)) (G : Bn mg) (c_law_draw : Cal P w K mg base CX0 2 "_law_draw" (sp_law_draw K C)) (c_law_way : Cal P w K mg base CX0 3 "_law_way" (sp_law_way K C)) (c_law_people : Cal P w K mg base CX0 3 "_law_people" (sp_law_people K C)) : Cal P w K mg base CX0 4 "_law_house" (sp_law_house K C) := by
  refine cal_of D hm (D.ok sc_law_house (fun vs H Q E h => ?_) (fun cdv A outer s H vs Q E hr h => ?_)) (fun _ _ _ _ _ _ us hl => match us, hl with | [_], _ => rfl)
  · obtain ⟨a, ns, rfl, hS, q⟩ := h
    rfl
  · obtain ⟨a, ns, rfl, hS, q⟩ := h
    have hu := hu_of hr
    refine ⟨_, PSs.nox (pss_cons (ps_set (i := 1) sc_law_house.nd rfl (Or.inr rfl) (pe_op op_add pe_int (pe_op op_mod (pe_c c_law_draw hr (by decide) pass0 rfl (pa_cons (pv 0) (pa_cons pe_int pa_nil))) pe_int)))
        (pss_cons (ps_set (i := 2) sc_law_house.nd rfl (Or.inl rfl) (pe_op op_mod (pe_c c_law_draw hr (by decide) pass0 rfl (pa_cons (pv 0) (pa_cons pe_int pa_nil))) pe_int))
        (pss_cons (ps_if (pt_cmpR op_eq (pe_op op_mod (pe_op op_fdiv (pe_c c_law_draw hr (by decide) pass0 rfl (pa_cons (pv 0) (pa_cons pe_int pa_nil))) pe_int) pe_int) pe_int (nomark _))
          (pss_one (ps_set (i := 2) sc_law_house.nd rfl (Or.inl rfl) pe_int))
          pss_nil)
        (pss_cons (ps_setLc (i := 3) (own := [("k", 4)]) (g := gName 4) rfl sc_law_house.nd rfl rfl (sw_true rfl rfl rfl (by decide +kernel)) (pi_range1 rfl G.range_ (pa_cons (pv 2) pa_nil)) (blkOk_by (own := [("k", 4)]) (N := N_law_house) (sc := defScope s_law_house) (by decide +kernel)) (fun _ _ _ _ _ => pg_name (i := 4) sc_law_house.nd rfl (Or.inl rfl)) (fun _ _ _ _ _ => pts_nil) (fun _ _ _ _ _ => (pe_c c_law_way hr (by decide) pass0 rfl (pa_cons (pv 0) (pa_cons (pv 4) (pa_cons (pv 1) pa_nil))))))
        (pss_cons (ps_if (PW.pt (pw_and (pt_cmpR (op_neDK (K := K) rfl hr.units) (pv 3) (pe_lst pa_nil) (nomark _)) (pw_and1 (pt_cmpR op_eq (pe_op op_mod (pe_c c_law_draw hr (by decide) pass0 rfl (pa_cons (pv 0) (pa_cons pe_int pa_nil))) pe_int) pe_int (nomark _)))))
          (pss_one (ps_asg (pe_ix (ix_listK (K := K) rfl) (pv 3) pe_int (fun _ _ => rfl)) (pg_sub (pv 3) (pe_un un_neg pe_int) set_list)))
          pss_nil)
        (pss_one (ps_ret (pe_tup (pa_cons (pe_c c_law_people hr (by decide) pass0 rfl (pa_cons (pv 0) (pa_cons (pv 1) pa_nil))) (pa_cons (pv 3) pa_nil)))))))))), ?_⟩
    have hd1 := draw_nn ns 1
    have hd7 := draw_nn ns 7
    kopn_word
    kopn_word
    refine q_ifset (v := .int (manyZ ns)) (by kbt_split) (fun hb => ?_) (fun hb => ?_) ?_
    · have hb : drawZ ns 7 / 8 % 8 = 1 := by simpa using hb
      simp only [manyZ, if_pos hb]
      exact v_c
    · have hb : ¬ drawZ ns 7 / 8 % 8 = 1 := by simpa using hb
      simp only [manyZ, if_neg hb]
      rfl
    have hm : 0 ≤ manyZ ns ∧ manyZ ns ≤ 10 := by
      unfold manyZ
      split <;> omega
    refine q_setH (h_lcR (n := manyZ ns) (by kxs_still) (by omega) (fun _ => rfl) (fun i x H2 => ∃ p, x = .ref p ∧ WayAt H2 p (wayZ ns (i : Int) (roomsZ ns))) (fun _ => noList_tup (P := fun _ => True)) fun i H' hi e => ?_) fun v H1 hv => ?_
    · have hS := Evl.ex_l e hS
      refine h_call (vs := [.ref a, .int i, .int (roomsZ ns)]) (by kxs_still) fun Q q => ⟨a, ns, i, roomsZ ns, rfl, hS, by omega, by unfold roomsZ; omega, fun p H2 h1 h2 h3 => q _ _ ⟨h2, p, rfl, h3⟩⟩
    obtain ⟨D, as, rfl, hD0, e1, hD, hW⟩ := made_ways hv
    have hS := Evl.ex_l e1 hS
    have hW : WaysAt H1 as (ways0Z ns) := hW
    have hlen := hW.len
    have fin : ∀ (H2 : Hp) (as2 : List Addr) (ws : List Way), ws = waysZ ns → Same H H2 → H2 D = some (.lst (as2.map V.ref)) → WaysAt H2 as2 ws →
        tRet (tTup (tCons (tCall (sp_law_people K C) [] (fun _ _ _ => False) (tCons (tVar 0) (tCons (tVar 1) tNil))) (tCons (tVar 3) tNil))) { nx := fun x H' => Q V.non H', rt := Q }
          [some (.ref a), some (.int (roomsZ ns)), some (.int (manyZ ns)), some (.ref D), none] H2 := by
      intro H2 as2 ws hws e2 h2 hw2
      subst hws
      have hS : SqL K H2 a (ns.map V.int) := Evl.ex_l e2 (by assumption)
      refine ⟨_, rfl, _, rfl, a, ns, roomsZ ns, rfl, hS, by unfold roomsZ; omega, fun p H3 hp e3 h3 => ?_⟩
      refine ⟨_, rfl, (by show 2 ≤ sizeLine; decide), fun r hr => ?_⟩
      have e4 : Same H3 (upd H3 r (.tup [.ref p, .ref D])) := same_upd hr
      exact q r p D as2 _ (e2.free (e3.free hr)) (e2.trans (e3.trans e4)) ⟨upd_same, e4 _ _ h3, e4 _ _ (e3 _ _ h2), (hw2.same e3).same e4⟩
    refine q_whenG (b := !(PyData.eqv (waysD (ways0Z ns)) (.list [])) && decide (drawZ ns 54 % 4 = 1)) (ag_and (ag_test (g_neD (g_of (by kbo_bools)) (fun H' e => ValH.imp h_nil fun y H2 z => ⟨z.1, dp_ways (z.1 _ _ (e _ _ hD)) ((hW.same e).same z.1), z.2⟩) (shaped_ways _) shaped_nil)) fun hb H' e => ?_) (fun hb H2 e2 => ?_) (fun hb H2 e2 => ?_)
    · have hS := Evl.ex_l e hS
      refine ag_of (Ans.to (by kbt_split) ?_)
      rw [Bool.eq_iff_iff]
      simp
    · rw [eqv_ways_nil] at hb
      have hb : ways0Z ns ≠ [] ∧ drawZ ns 54 % 4 = 1 := by simpa using hb
      obtain ⟨w0, ws0, hw0⟩ := List.exists_cons_of_ne_nil hb.1
      have hW2 := hW.same e2
      obtain ⟨a0, ha0, hwa⟩ := All2.get (i := 0) hW2 (b := w0) (by rw [hw0]; rfl)
      have hl0 : 0 < (as.map V.ref).length := by
        have := (List.getElem?_eq_some_iff.mp ha0).1
        simpa using this
      refine s_setL (e2 _ _ hD) (v := .ref a0) (v_ixL (i := 0) (by kbo_bools) (by kbo_bools) (SqL.of (e2 _ _ hD)) (atI_nat (j := 0) (by simp [ha0]))) (by kbo_bools) (by kbo_bools) (ix_last hl0) ?_
      have hne : ∀ b o, H b = some o → b ≠ D := fun b o h => ne_none h hD0
      have hW3 : ∀ o, WaysAt (upd H2 D o) as (ways0Z ns) := fun o => All2.imp hW2 fun x y hxy => by
        have hxy : H2 x = some (.tup (wayV y)) := hxy
        show (upd H2 D o) x = _
        rw [upd_ne (ne_of hxy (e2 _ _ hD) (by intro z; cases z))]
        exact hxy
      refine fin _ (as.set (as.length - 1) a0) ((ways0Z ns).set ((ways0Z ns).length - 1) w0) ?_ ?_ ?_ ?_
      · unfold waysZ
        rw [if_pos hb, hw0]
        rfl
      · exact same_mut (e1.trans e2) hD0
      · rw [upd_same, List.map_set]
        simp
      · rw [← hlen]
        refine All2.set ?_ _ (hW3 _)
        obtain ⟨b, hb1, hb2⟩ := All2.get (i := 0) (hW3 _) (b := w0) (by rw [hw0]; rfl)
        rw [ha0] at hb1
        cases hb1
        exact hb2
    · rw [eqv_ways_nil] at hb
      have hb : ¬ (ways0Z ns ≠ [] ∧ drawZ ns 54 % 4 = 1) := by
        intro h
        simp [h.1, h.2] at hb
      exact fin H2 as (ways0Z ns) (by unfold waysZ; rw [if_neg hb]) (e1.trans e2) (e2 _ _ hD) (hW.same e2)
end
/-! ### the house -/
def wayOk (n : Int) (x : Way) : Bool := decide (1 ≤ x.s ∧ x.s ≤ n ∧ 0 ≤ x.e ∧ x.e ≤ n ∧ x.s ≠ x.e ∧ 1 ≤ x.w ∧ x.w ≤ 9 ∧ 1 ≤ x.l ∧ x.l ≤ 6)
def countOk (x : Int) : Bool := decide (0 ≤ x ∧ x ≤ 9)
def houseOk (ps : List Int) (ws : List Way) : Bool := decide (1 ≤ ps.length ∧ ps.length ≤ 4 ∧ ws.length ≤ 10) && ps.all countOk && ws.all (wayOk ps.length)
def sp_see_way (K : PySem.W.Frag) (C : Cs) : Sp := fun vs H Q E => ∃ (a : Addr) (x : Way) (n : Int), vs = [.ref a, .int n] ∧ WayAt H a x ∧ (wayOk n x = true → Q .non H) ∧ (wayOk n x = false → E (.ref C.BadHouse) none H)
def hF (a b : Addr) : List (Str × V) := [("held", .ref a), ("laid", .ref b)]
theorem hl_ : ¬ (("held" : Str) = "laid") := by decide +kernel
theorem hF_eq (a b : Addr) : putF "laid" (.ref b) (putF "held" (.ref a) []) = hF a b := by
  show (if ("held" : Str) = "laid" then [(("held" : Str), V.ref b)] else (("held" : Str), V.ref a) :: putF "laid" (V.ref b) []) = _
  rw [if_neg hl_]
  rfl
theorem hF_held (a b : Addr) : (hF a b).lookup ("held" : Str) = some (.ref a) := by
  rw [← hF_eq, lookup_putF, if_neg hl_, lookup_putF, if_pos rfl]
theorem hF_laid (a b : Addr) : (hF a b).lookup ("laid" : Str) = some (.ref b) := by
  rw [← hF_eq, lookup_putF, if_pos rfl]
theorem hF_no (a b : Addr) {m : Str} (h1 : ¬ m = "laid") (h2 : ¬ m = "held") : (hF a b).lookup m = none := by
  rw [← hF_eq, lookup_putF, if_neg h1, lookup_putF, if_neg h2]
  rfl
structure HouseIn (C : Cs) (H : Hp) (h dx hl wl : Addr) (as : List Addr) (ps : List Int) (ws : List Way) : Prop where
  ob : H h = some (.ins C.House dx (hF hl wl))
  hd : H hl = some (.lst (ps.map V.int))
  ld : H wl = some (.lst (as.map V.ref))
  ws : WaysAt H as ws
theorem HouseIn.same {C : Cs} {H H' : Hp} {h dx hl wl : Addr} {as : List Addr} {ps : List Int} {ws : List Way} (x : HouseIn C H h dx hl wl as ps ws) (e : Same H H') : HouseIn C H' h dx hl wl as ps ws := ⟨e _ _ x.ob, e _ _ x.hd, e _ _ x.ld, x.ws.same e⟩
/-- a house stands at h -/
def HouseAt (C : Cs) (H : Hp) (h : Addr) (as : List Addr) (ps : List Int) (ws : List Way) : Prop := ∃ dx hl wl, HouseIn C H h dx hl wl as ps ws
theorem HouseAt.same {C : Cs} {H H' : Hp} {h : Addr} {as : List Addr} {ps : List Int} {ws : List Way} (x : HouseAt C H h as ps ws) (e : Same H H') : HouseAt C H' h as ps ws := let ⟨dx, hl, wl, y⟩ := x; ⟨dx, hl, wl, y.same e⟩
def sp_House_init (K : PySem.W.Frag) (C : Cs) : Sp := fun vs H Q E => ∃ (h dx pl wl : Addr) (as : List Addr) (ps : List Int) (ws : List Way), vs = [.ref h, .ref pl, .ref wl] ∧ H h = some (.ins C.House dx []) ∧ H pl = some (.lst (ps.map V.int)) ∧ H wl = some (.lst (as.map V.ref)) ∧ WaysAt H as ws ∧
  ps.length ≤ 1000 ∧ ws.length ≤ 1000 ∧
  (houseOk ps ws = true → ∀ H', (∃ l1 l2, H l1 = none ∧ H l2 = none ∧ HouseIn C H' h dx l1 l2 as ps ws) → (∀ b o, H b = some o → b ≠ h → H' b = some o) → Q .non H') ∧ (houseOk ps ws = false → ∀ H', Same H H' → E (.ref C.BadHouse) none H')
def sp_House_people (K : PySem.W.Frag) (C : Cs) : Sp := fun vs H Q _ => ∃ (h : Addr) (as : List Addr) (ps : List Int) (ws : List Way), vs = [.ref h] ∧ HouseAt C H h as ps ws ∧ RetInts ps H Q
def RetWays (as : List Addr) (H : Hp) (Q : VK) : Prop := ∀ p H', H p = none → Same H H' → H' p = some (.lst (as.map V.ref)) → Q (.ref p) H'
def sp_House_ways (K : PySem.W.Frag) (C : Cs) : Sp := fun vs H Q _ => ∃ (h : Addr) (as : List Addr) (ps : List Int) (ws : List Way), vs = [.ref h] ∧ HouseAt C H h as ps ws ∧ RetWays as H Q
def sp_House_total (K : PySem.W.Frag) (C : Cs) : Sp := fun vs H Q _ => ∃ (h : Addr) (as : List Addr) (ps : List Int) (ws : List Way), vs = [.ref h] ∧ HouseAt C H h as ps ws ∧ Q (.int ps.sum) H
theorem v_sum {K : PySem.W.Frag} {σ : St} {H : Hp} {ta : TE} {p : Addr} {ns : List Int} (ha : Val ta σ H (.ref p)) (h : SqL K H p (ns.map V.int)) : Val (tCB (rSum K) (tCons ta tNil)) σ H (.int ns.sum) := fun _ q => ha _ ⟨p, ns, rfl, h, q⟩
section
variable {P : Program} {w : World} {K : PySem.W.Frag} {mg : Str → Option Value} {base : Heap} {C : Cs}
abbrev N_see_way : List PySem.Str := ["way", "rooms"]
theorem sc_see_way : FnScope N_see_way ["way", "rooms"] (defScope s_see_way) := ⟨rfl, rfl, rfl, by decide +kernel, rfl, by decide +kernel, by decide +kernel⟩
theorem c_see_way {f fd} (D : FnP K "see_way" "see_way" s_see_way f fd) (hm : mg "see_way" = some (.ref f)) (G : Bn mg) (X_BadHouse : Xc K mg "BadHouse" C.BadHouse) : Cal P w K mg base (L2.CX P w) 1 "see_way" (sp_see_way K C) := by
  refine cal_of D hm (D.ok sc_see_way (fun vs H Q E h => ?_) (fun cdv A outer s H vs Q E hr h => ?_)) (fun _ _ _ _ _ _ us hl => match us, hl with | [_, _], _ => rfl)
  · obtain ⟨a, x, n, rfl, hW, q, e⟩ := h
    rfl
  · obtain ⟨a, x, n, rfl, hW, q, e⟩ := h
    have hu := hu_of hr
    refine ⟨_, (pss_cons (ps_if (PW.pt (pw_or (pt_not (pt_chain op_le op_le pe_int (pe_ix (ix_tupK (K := K) rfl) (pv 0) pe_int (fun _ _ => rfl)) (pv 1))) (pw_or (pt_not (pt_chain op_le op_le pe_int (pe_ix (ix_tupK (K := K) rfl) (pv 0) pe_int (fun _ _ => rfl)) (pv 1))) (pw_or1 (pt_cmpR op_eq (pe_ix (ix_tupK (K := K) rfl) (pv 0) pe_int (fun _ _ => rfl)) (pe_ix (ix_tupK (K := K) rfl) (pv 0) pe_int (fun _ _ => rfl)) (nomark _))))))
          (pss_one (ps_raise rfl (takes_of rfl rfl rfl rfl) (pmk_own PySem.F.excBase_ValueError X_BadHouse.xi X_BadHouse.g X_BadHouse.k (raises_own X_BadHouse.b X_BadHouse.t) rfl)))
          pss_nil)
        (pss_one (ps_if (PW.pt (pw_or (pt_not (pt_chain op_le op_le pe_int (pe_ix (ix_tupK (K := K) rfl) (pv 0) pe_int (fun _ _ => rfl)) pe_int)) (pw_or1 (pt_not (pt_chain op_le op_le pe_int (pe_ix (ix_tupK (K := K) rfl) (pv 0) pe_int (fun _ _ => rfl)) pe_int)))))
          (pss_one (ps_raise rfl (takes_of rfl rfl rfl rfl) (pmk_own PySem.F.excBase_ValueError X_BadHouse.xi X_BadHouse.g X_BadHouse.k (raises_own X_BadHouse.b X_BadHouse.t) rfl)))
          pss_nil))), ?_⟩
    have hW : H a = some (.tup [.int x.s, .int x.e, .int x.w, .int x.l]) := hW
    l_intsC
    · intro hb
      refine e ?_
      simp [wayOk] at hb ⊢
      omega
    · intro hb
      refine s_if (b := !(decide (1 ≤ x.w) && decide (x.w ≤ 9)) || !(decide (1 ≤ x.l) && decide (x.l ≤ 6))) (by kbt_split) (fun hc => ?_) (fun hc => ?_)
      · refine e ?_
        simp [wayOk] at hb hc ⊢
        omega
      · refine q ?_
        simp [wayOk] at hb hc ⊢
        omega
abbrev N_House_init : List PySem.Str := ["self", "people", "ways", "way", "count"]
theorem sc_House_init : FnScope N_House_init ["self", "people", "ways"] (defScope s_House_init) := ⟨rfl, rfl, rfl, by decide +kernel, rfl, by decide +kernel, by decide +kernel⟩
theorem c_House_init {f fd} (D : FnP K "__init__" "House.__init__" s_House_init f fd) (hm : mg "House" = some (.ref C.House)) (hk : Mk K C.House f) (G : Bn mg) (HC : HouseC K C) (X_BadHouse : Xc K mg "BadHouse" C.BadHouse) (c_see_way : Cal P w K mg base (L2.CX P w) 1 "see_way" (sp_see_way K C)) : Mak P w K mg base (L2.CX P w) 2 "House" C.House (sp_House_init K C) := by
  refine mak_of D hm hk (D.ok sc_House_init (fun vs H Q E h => ?_) (fun cdv A outer s H vs Q E hr h => ?_)) (fun _ _ _ _ _ _ us hl => match us, hl with | [_, _, _], _ => rfl)
  · obtain ⟨h, dx, pl, wl, as, ps, ws, rfl, ho, hp, hl, hW, hz1, hz2, q, e⟩ := h
    rfl
  · obtain ⟨h, dx, pl, wl, as, ps, ws, rfl, ho, hp, hl, hW, hz1, hz2, q, e⟩ := h
    have hu := hu_of hr
    refine ⟨_, (pss_cons (ps_if (PW.pt (pw_or (pt_not (pt_chain op_le op_le pe_int (pe_callB (id := "len") (call_len_seqK (K := K) rfl) (by rfl) G.len_ (by decide +kernel) (pa_cons (pv 1) pa_nil)) pe_int)) (pw_or1 (pt_cmpR op_gt (pe_callB (id := "len") (call_len_seqK (K := K) rfl) (by rfl) G.len_ (by decide +kernel) (pa_cons (pv 2) pa_nil)) pe_int (nomark _)))))
          (pss_one (ps_raise rfl (takes_of rfl rfl rfl rfl) (pmk_own PySem.F.excBase_ValueError X_BadHouse.xi X_BadHouse.g X_BadHouse.k (raises_own X_BadHouse.b X_BadHouse.t) rfl)))
          pss_nil)
        (pss_cons (ps_if (pt_cmpR (op_neDK (K := K) rfl hr.units) (pe_lc (own := [("count", 4)]) (g := gName 4) rfl sc_House_init.nd (pi_listK (K := K) rfl (pv 1)) (blkOk_by (own := [("count", 4)]) (N := N_House_init) (sc := defScope s_House_init) (by decide +kernel)) (fun _ _ _ _ _ => pg_name (i := 4) sc_House_init.nd rfl (Or.inl rfl)) (fun _ _ _ _ _ => (pts_one (pt_not (pt_chain op_le op_le pe_int (pv 4) pe_int)))) (fun _ _ _ _ _ => (pv 4))) (pe_lst pa_nil) (nomark _))
          (pss_one (ps_raise rfl (takes_of rfl rfl rfl rfl) (pmk_own PySem.F.excBase_ValueError X_BadHouse.xi X_BadHouse.g X_BadHouse.k (raises_own X_BadHouse.b X_BadHouse.t) rfl)))
          pss_nil)
        (pss_cons (ps_for (passes_of rfl) rfl (pi_listK (K := K) rfl (pv 2)) (pg_name (i := 3) sc_House_init.nd rfl (Or.inl rfl))
          (pss_one (ps_expr (pe_c c_see_way hr (by decide) (passes_call (takes_of rfl rfl rfl rfl) (fun _ _ _ _ h => h)) rfl (pa_cons (pv 3) (pa_cons (pe_callB (id := "len") (call_len_seqK (K := K) rfl) (by rfl) G.len_ (by decide +kernel) (pa_cons (pv 1) pa_nil)) pa_nil))))))
        (pss_cons (ps_fldK (K := K) rfl (pv 0) (pe_callTy (T := "list") (call_list_ofK (K := K) rfl) (by rfl) G.list_ (by decide +kernel) (pa_cons (pv 1) pa_nil)) rfl)
        (pss_one (ps_fldK (K := K) rfl (pv 0) (pe_lc (own := [("way", 3)]) (g := gName 3) rfl sc_House_init.nd (pi_listK (K := K) rfl (pv 2)) (blkOk_by (own := [("way", 3)]) (N := N_House_init) (sc := defScope s_House_init) (by decide +kernel)) (fun _ _ _ _ _ => pg_name (i := 3) sc_House_init.nd rfl (Or.inl rfl)) (fun _ _ _ _ _ => pts_nil) (fun _ _ _ _ _ => (pe_callTy (T := "tuple") (call_tupleTK (K := K) rfl) (by rfl) G.tuple_ (by decide +kernel) (pa_cons (pv 3) pa_nil)))) rfl)))))), ?_⟩
    have hlen := hW.len
    have hal : (as.map V.ref).length = ws.length := by simp [hlen]
    have hpl : (ps.map V.int).length = ps.length := by simp
    have nh : ∀ b, H b = none → b ≠ h := fun b hb z => by
      rw [z, ho] at hb
      cases hb
    refine q_when (b := !(decide (1 ≤ (((ps.map V.int).length : Nat) : Int)) && decide ((((ps.map V.int).length : Nat) : Int) ≤ 4)) || decide ((10 : Int) < (((as.map V.ref).length : Nat) : Int))) (by kbt_split) (fun hb => ?_) (fun hb => ?_)
    · refine e ?_ H (Same.refl H)
      rw [hal, hpl] at hb
      simp [houseOk] at hb ⊢
      intro h1 h2 h3
      omega
    rw [hal, hpl] at hb
    have hsz : 1 ≤ ps.length ∧ ps.length ≤ 4 ∧ ws.length ≤ 10 := by
      simp at hb
      omega
    refine q_whenG (b := !PyData.eqv (intsD ((ps.filter fun x => !countOk x).map id)) (.list [])) (ag_test (g_neDH (P := fun v H' => ∃ D, v = .ref D ∧ H D = none ∧ Same H H' ∧ H' D = some (.lst ((ps.filter fun x => !countOk x).map V.int)))
      (h_lcF ps V.int V.int (fun x => !countOk x) (by kbo_bools) (SqL.of hp) (by omega) (fun _ => rfl) (fun x H' _ _ => ag_of (Ans.to (by kbt_split) (by simp [countOk]))) (fun x H' _ _ _ => g_of (by kbo_bools))) (fun v H' hv => ?_) (shaped_ints _) shaped_nil)) (fun hb2 H1 e1 => ?_) (fun hb2 H1 e1 => ?_)
    · obtain ⟨D, rfl, h1, h2, h3⟩ := hv
      refine ⟨h2, ValH.imp h_nil fun y H2 z => ⟨z.1, ?_, z.2⟩⟩
      rw [List.map_id]
      exact dp_ints (z.1 _ _ h3)
    · refine e ?_ H1 e1
      rw [eqv_ints_nil, List.map_id] at hb2
      simp [houseOk] at hb2 ⊢
      intro h1 h2 h3 h4
      obtain ⟨x, hx, hx2⟩ := hb2
      rw [h4 x hx] at hx2
      cases hx2
    rw [eqv_ints_nil, List.map_id] at hb2
    have hps : ∀ x ∈ ps, countOk x = true := by
      intro x hx
      simp at hb2
      exact hb2 x hx
    have hl1 := e1 _ _ hl
    have hW1 := hW.same e1
    refine q_forL (xs := as.map V.ref) (by kbo_bools) (SqL.of hl1) (fun i σ' H' => ∃ v, σ' = [some (.ref h), some (.ref pl), some (.ref wl), v, none] ∧ H' = H1 ∧ ∀ k x, k < i → ws[k]? = some x → wayOk ps.length x = true) ⟨none, rfl, rfl, fun k x hk => by omega⟩
      (fun i σ' H' _ ⟨_, _, e, _⟩ => by rw [e]; exact SqL.of hl1) ?_ ?_
    · rintro i x σ' H' hi ⟨v, rfl, rfl, hk⟩
      rw [List.getElem?_map] at hi
      cases ea : as[i]? with
      | none =>
        rw [ea] at hi
        cases hi
      | some a =>
        rw [ea] at hi
        have hi : V.ref a = x := Option.some.inj hi
        subst hi
        obtain ⟨y, hy, hya⟩ := All2.get' hW1 ea
        refine ⟨_, rfl, _, rfl, pl, ps.map V.int, rfl, .inl (SqL.of (e1 _ _ hp)), a, y, ps.length, ?_, hya, fun hok => ?_, fun hno => ?_⟩
        · rw [hpl]
          rfl
        · refine ⟨_, rfl, rfl, fun k x hk2 hx => ?_⟩
          by_cases hki : k = i
          · subst hki
            rw [hy] at hx
            cases hx
            exact hok
          · exact hk k x (by omega) hx
        · refine e ?_ _ e1
          have : ws.all (wayOk ps.length) = false := by
            rw [Bool.eq_false_iff]
            intro h4
            rw [List.all_eq_true] at h4
            rw [h4 y (List.mem_of_getElem? hy)] at hno
            cases hno
          simp only [houseOk, this, Bool.and_false]
    · rintro σ' H' ⟨v, rfl, rfl, hk⟩
      have hok : houseOk ps ws = true := by
        simp only [houseOk, Bool.and_eq_true, decide_eq_true_eq, List.all_eq_true]
        refine ⟨⟨hsz, hps⟩, fun x hx => ?_⟩
        obtain ⟨i, hi⟩ := List.getElem?_of_mem hx
        refine hk i x ?_ hi
        have := (List.getElem?_eq_some_iff.mp hi).1
        rw [hal]
        exact this
      have ho1 := e1 _ _ ho
      have hp1 := e1 _ _ hp
      refine q_fldH (p := h) (h_list (by kbo_bools) (SqL.of hp1)) fun v H2 hv => ⟨by kbo_bools, ?_⟩
      obtain ⟨l1, rfl, hl1', rfl⟩ := hv
      have n1 : h ≠ l1 := ne_none ho1 hl1'
      refine ⟨C.House, dx, [], by rw [upd_ne n1]; exact ho1, HC.cl, HC.held, by show 0 < 1000; decide, ?_⟩
      have nl1 : ∀ b o, H' b = some o → b ≠ l1 := fun b o hb => ne_none hb hl1'
      have hn1 : wl ≠ h := ne_of hl1 ho1 (by intro z; cases z)
      have hl3 : (upd (upd H' l1 (.lst (ps.map V.int))) h (.ins C.House dx (putF "held" (.ref l1) []))) wl = some (.lst (as.map V.ref)) := by
        rw [upd_ne hn1, upd_ne (nl1 _ _ hl1)]
        exact hl1
      have hW3 : WaysAt (upd (upd H' l1 (.lst (ps.map V.int))) h (.ins C.House dx (putF "held" (.ref l1) []))) as ws := All2.imp hW1 fun a x hax => by
        have hax : H' a = some (.tup (wayV x)) := hax
        show (upd (upd H' l1 _) h _) a = _
        rw [upd_ne (ne_of hax ho1 (by intro z; cases z)), upd_ne (nl1 _ _ hax)]
        exact hax
      refine s_fldH (p := h) (h_lcF as V.ref V.ref (fun _ => true) (by kbo_bools) (SqL.of hl3) (by omega) (fun _ => rfl) (fun _ _ _ _ => ag_yes) (fun a H4 ha _ e4 => ?_)) fun v H4 hv => ⟨by kbo_bools, ?_⟩
      · obtain ⟨i, hi⟩ := List.getElem?_of_mem ha
        obtain ⟨x, _, hx⟩ := All2.get' hW3 hi
        exact g_of (v_tupT (by kbo_bools) (e4 _ _ hx))
      · obtain ⟨l2, rfl, hl2, e4, h4⟩ := hv
        refine ⟨C.House, dx, _, e4 _ _ upd_same, HC.cl, HC.laid, by show 1 < 1000; decide, ?_⟩
        have hl2' : H' l2 = none := by
          cases z : H' l2 with
          | none => rfl
          | some o =>
            by_cases zz : l2 = h
            · rw [zz, upd_same] at hl2
              cases hl2
            · rw [upd_ne zz] at hl2
              by_cases z2 : l2 = l1
              · rw [z2, upd_same] at hl2
                cases hl2
              · rw [upd_ne z2, z] at hl2
                cases hl2
        have n2 : l2 ≠ h := fun z => by
          rw [z, ho1] at hl2'
          cases hl2'
        rw [hF_eq]
        refine q hok _ ⟨l1, l2, e1.free hl1', e1.free hl2', upd_same, ?_, ?_, ?_⟩ fun b o hb hbh => ?_
        · rw [upd_ne n1.symm]
          refine e4 _ _ ?_
          rw [upd_ne n1.symm, upd_same]
        · rw [upd_ne n2, h4, List.filter_eq_self.mpr (fun _ _ => rfl)]
        · refine All2.imp hW3 fun a x hax => ?_
          have hax : _ = some (HO.tup (wayV x)) := hax
          have := e4 _ _ hax
          show (upd H4 h _) a = _
          rw [upd_ne (ne_of this (e4 _ _ upd_same) (by intro z; cases z))]
          exact this
        · rw [upd_ne hbh]
          refine e4 _ _ ?_
          have hb1 := e1 _ _ hb
          rw [upd_ne hbh, upd_ne (nl1 _ _ hb1)]
          exact hb1
abbrev N_House_people : List PySem.Str := ["self"]
theorem sc_House_people : FnScope N_House_people ["self"] (defScope s_House_people) := ⟨rfl, rfl, rfl, by decide +kernel, rfl, by decide +kernel, by decide +kernel⟩
theorem c_House_people {f fd} (D : FnP K "people" "House.people" s_House_people f fd) (hc : Cls K C.House) (hm : Meth K C.House "people" f) (G : Bn mg) (HC : HouseC K C) : Met P w K mg base CX0 1 C.House "people" (sp_House_people K C) := by
  refine met_of D hc hm (D.ok sc_House_people (fun vs H Q E h => ?_) (fun cdv A outer s H vs Q E hr h => ?_)) (fun _ _ _ _ _ _ us hl => match us, hl with | [_], _ => rfl)
  · obtain ⟨h, as, ps, ws, rfl, ⟨dx, hl, wl, hI⟩, q⟩ := h
    rfl
  · obtain ⟨h, as, ps, ws, rfl, ⟨dx, hl, wl, hI⟩, q⟩ := h
    have hu := hu_of hr
    refine ⟨_, PSs.nox (pss_one (ps_ret (pe_callTy (T := "list") (call_list_ofK (K := K) rfl) (by rfl) G.list_ (by decide +kernel) (pa_cons (pe_fldK (K := K) rfl (pv 0) rfl) pa_nil)))), ?_⟩
    refine s_retH (h_list (v_fld (by kbo_bools) hI.ob HC.cl HC.held (hF_held _ _)) (SqL.of hI.hd)) ?_
    rintro v H' ⟨p, rfl, hp, rfl⟩
    exact q p _ hp (same_upd hp) upd_same
abbrev N_House_ways : List PySem.Str := ["self"]
theorem sc_House_ways : FnScope N_House_ways ["self"] (defScope s_House_ways) := ⟨rfl, rfl, rfl, by decide +kernel, rfl, by decide +kernel, by decide +kernel⟩
theorem c_House_ways {f fd} (D : FnP K "ways" "House.ways" s_House_ways f fd) (hc : Cls K C.House) (hm : Meth K C.House "ways" f) (G : Bn mg) (HC : HouseC K C) : Met P w K mg base CX0 1 C.House "ways" (sp_House_ways K C) := by
  refine met_of D hc hm (D.ok sc_House_ways (fun vs H Q E h => ?_) (fun cdv A outer s H vs Q E hr h => ?_)) (fun _ _ _ _ _ _ us hl => match us, hl with | [_], _ => rfl)
  · obtain ⟨h, as, ps, ws, rfl, ⟨dx, hl, wl, hI⟩, q⟩ := h
    rfl
  · obtain ⟨h, as, ps, ws, rfl, ⟨dx, hl, wl, hI⟩, q⟩ := h
    have hu := hu_of hr
    refine ⟨_, PSs.nox (pss_one (ps_ret (pe_callTy (T := "list") (call_list_ofK (K := K) rfl) (by rfl) G.list_ (by decide +kernel) (pa_cons (pe_fldK (K := K) rfl (pv 0) rfl) pa_nil)))), ?_⟩
    refine s_retH (h_list (v_fld (by kbo_bools) hI.ob HC.cl HC.laid (hF_laid _ _)) (SqL.of hI.ld)) ?_
    rintro v H' ⟨p, rfl, hp, rfl⟩
    exact q p _ hp (same_upd hp) upd_same
abbrev N_House_total : List PySem.Str := ["self"]
theorem sc_House_total : FnScope N_House_total ["self"] (defScope s_House_total) := ⟨rfl, rfl, rfl, by decide +kernel, rfl, by decide +kernel, by decide +kernel⟩
theorem c_House_total {f fd} (D : FnP K "total" "House.total" s_House_total f fd) (hc : Cls K C.House) (hm : Meth K C.House "total" f) (G : Bn mg) (HC : HouseC K C) : Met P w K mg base CX0 1 C.House "total" (sp_House_total K C) := by
  refine met_of D hc hm (D.ok sc_House_total (fun vs H Q E h => ?_) (fun cdv A outer s H vs Q E hr h => ?_)) (fun _ _ _ _ _ _ us hl => match us, hl with | [_], _ => rfl)
  · obtain ⟨h, as, ps, ws, rfl, ⟨dx, hl, wl, hI⟩, q⟩ := h
    rfl
  · obtain ⟨h, as, ps, ws, rfl, ⟨dx, hl, wl, hI⟩, q⟩ := h
    have hu := hu_of hr
    refine ⟨_, PSs.nox (pss_one (ps_ret (pe_callB (id := "sum") (cr_sumK (K := K) rfl rfl) (by rfl) G.sum_ (by decide +kernel) (pa_cons (pe_fldK (K := K) rfl (pv 0) rfl) pa_nil)))), ?_⟩
    exact s_ret (v_sum (v_fld (by kbo_bools) hI.ob HC.cl HC.held (hF_held _ _)) (SqL.of hI.hd)) q
end
/-! ### a drawn house is one -/
theorem folk_len (ns : List Int) : (folkZ ns).length = (roomsZ ns).toNat := by simp [folkZ, peopleZ]
theorem rooms_b (ns : List Int) : 1 ≤ roomsZ ns ∧ roomsZ ns ≤ 4 := by
  unfold roomsZ
  have := draw_nn ns 1
  omega
theorem many_b (ns : List Int) : 0 ≤ manyZ ns ∧ manyZ ns ≤ 10 := by
  have := draw_nn ns 7
  unfold manyZ
  split <;> omega
theorem folk_ok (ns : List Int) : ∀ x ∈ folkZ ns, countOk x = true := by
  intro x hx
  simp only [folkZ, peopleZ, List.mem_map] at hx
  obtain ⟨k, _, rfl⟩ := hx
  have h := most_pos ns
  have h1 := Int.emod_nonneg (drawZ ns (3 + (k : Int))) (b := mostZ ns) (by omega)
  have h2 := Int.emod_lt_of_pos (drawZ ns (3 + (k : Int))) h.1
  simp only [countOk, decide_eq_true_eq]
  omega
theorem way_ok (ns : List Int) (k n : Int) (hn : 1 ≤ n) : wayOk n (wayZ ns k n) = true := by
  have hw := wide_b ns
  have hl := long_b ns
  have a1 := Int.emod_nonneg (drawZ ns (10 + k)) (b := n) (by omega)
  have a2 := Int.emod_lt_of_pos (drawZ ns (10 + k)) (b := n) (by omega)
  have b1 := Int.emod_nonneg (drawZ ns (21 + k)) (b := n + 1) (by omega)
  have b2 := Int.emod_lt_of_pos (drawZ ns (21 + k)) (b := n + 1) (by omega)
  have c1 := Int.emod_nonneg (drawZ ns (32 + k)) (b := wideZ ns) (by omega)
  have c2 := Int.emod_lt_of_pos (drawZ ns (32 + k)) (b := wideZ ns) (by omega)
  have d1 := Int.emod_nonneg (drawZ ns (43 + k)) (b := longZ ns) (by omega)
  have d2 := Int.emod_lt_of_pos (drawZ ns (43 + k)) (b := longZ ns) (by omega)
  unfold wayOk wayZ
  refine decide_eq_true ?_
  dsimp only
  generalize drawZ ns (10 + k) % n = xa at *
  generalize drawZ ns (21 + k) % (n + 1) = xb at *
  generalize drawZ ns (32 + k) % wideZ ns = xc at *
  generalize drawZ ns (43 + k) % longZ ns = xd at *
  by_cases he : xb = 1 + xa
  · simp only [if_pos he]
    omega
  · simp only [if_neg he]
    omega
theorem ways0_ok (ns : List Int) : ∀ x ∈ ways0Z ns, wayOk (roomsZ ns) x = true := by
  intro x hx
  simp only [ways0Z, List.mem_map] at hx
  obtain ⟨k, _, rfl⟩ := hx
  exact way_ok ns k _ (rooms_b ns).1
theorem ways_ok (ns : List Int) : ∀ x ∈ waysZ ns, wayOk (roomsZ ns) x = true := by
  intro x hx
  unfold waysZ at hx
  split at hx
  · rename_i h
    rcases List.mem_or_eq_of_mem_set hx with h1 | h1
    · exact ways0_ok ns x h1
    · obtain ⟨w0, ws0, hw0⟩ := List.exists_cons_of_ne_nil h.1
      rw [h1, hw0]
      exact ways0_ok ns w0 (by rw [hw0]; exact List.mem_cons_self ..)
  · exact ways0_ok ns x hx
theorem ways_len (ns : List Int) : (waysZ ns).length = (manyZ ns).toNat := by
  unfold waysZ
  split <;> simp [ways0Z]
theorem house_ok (ns : List Int) : houseOk (folkZ ns) (waysZ ns) = true := by
  have h1 := rooms_b ns
  have h2 := many_b ns
  have e : ((folkZ ns).length : Int) = roomsZ ns := by rw [folk_len]; omega
  simp only [houseOk, Bool.and_eq_true, decide_eq_true_eq, List.all_eq_true, e]
  rw [ways_len]
  exact ⟨⟨⟨by omega, by omega, by omega⟩, folk_ok ns⟩, ways_ok ns⟩
theorem wayOk_of {n : Int} {x : Way} (h : wayOk n x = true) : 1 ≤ x.s ∧ x.s ≤ n ∧ 0 ≤ x.e ∧ x.e ≤ n ∧ x.s ≠ x.e ∧ 1 ≤ x.w ∧ x.w ≤ 9 ∧ 1 ≤ x.l ∧ x.l ≤ 6 := by simpa [wayOk] using h
theorem houseOk_iff {ps : List Int} {ws : List Way} : houseOk ps ws = true ↔ (1 ≤ ps.length ∧ ps.length ≤ 4 ∧ ws.length ≤ 10) ∧ (∀ x ∈ ps, countOk x = true) ∧ ∀ x ∈ ws, wayOk ps.length x = true := by
  simp only [houseOk, Bool.and_eq_true, decide_eq_true_eq, List.all_eq_true]
  exact ⟨fun h => ⟨h.1.1, h.1.2, h.2⟩, fun h => ⟨⟨h.1, h.2.1⟩, h.2.2⟩⟩
theorem eraseIdx_map' {α β : Type} (f : α → β) : ∀ (xs : List α) (i : Nat), (xs.map f).eraseIdx i = (xs.eraseIdx i).map f
  | [], _ => rfl
  | _ :: _, 0 => rfl
  | x :: xs, i + 1 => by
    show f x :: (xs.map f).eraseIdx i = f x :: (xs.eraseIdx i).map f
    rw [eraseIdx_map' f xs i]
theorem s_drop_ {D : Ends} {σ : St} {H : Hp} {tq : TE} (h : tq σ H fun _ H' => D.nx σ H') : tDrop tq D σ H := h
def optV : Option Int → V
  | some t => .int t
  | none => .non
section
variable {K : PySem.W.Frag} {σ : St} {H : Hp} {ta tb tc te : TE} {i j k : Int}
theorem ag_chain {p q : Int → Int → Bool} (ha : Val ta σ H (.int i)) (hb : Val tb σ H (.int j)) (hc : GV tc σ H (.int k)) : AG (tTest (tChain (rI0 fun i j => .bl (p i j)) (rI0 fun i j => .bl (q i j)) ta tb tc)) σ H (p i j && q j k) := fun Q h => ha _ (hb _ ⟨i, j, rfl, rfl, _, rfl, by
  cases e : p i j with
  | true =>
    rw [e] at h
    exact iteT (hc _ fun H1 e1 => ⟨j, k, rfl, rfl, _, rfl, h H1 e1⟩)
  | false =>
    rw [e] at h
    exact iteF ⟨_, rfl, h H (Same.refl H)⟩⟩)
theorem g_lenH {xs : List V} (ha : ValH ta σ H (fun v H' => ∃ p, v = .ref p ∧ Same H H' ∧ H' p = some (.lst xs))) : GV (tCB (rLenQ K) (tCons ta tNil)) σ H (.int xs.length) := fun Q q => ha _ fun v H1 z => by
  obtain ⟨p, rfl, e1, h⟩ := z
  exact ⟨p, xs, rfl, .inl (SqL.of h), q H1 e1⟩
end
/-- the ways of a house, told anew -/
theorem h_hways {K : PySem.W.Frag} {C : Cs} {σ : St} {H : Hp} {ta : TE} {h : Addr} {as : List Addr} {ps : List Int} {ws : List Way} (ha : Val ta σ H (.ref h)) (hh : HouseAt C H h as ps ws) :
    ValH (tMeth C.House "ways" (sp_House_ways K C) [] E0 ta tNil) σ H (fun v H' => ∃ p, v = .ref p ∧ H p = none ∧ Same H H' ∧ H' p = some (.lst (as.map V.ref))) := by
  obtain ⟨dx, l1, l2, hI⟩ := hh
  exact h_meth (vs := []) (p := h) ha hI.ob (hF_no _ _ (by decide +kernel) (by decide +kernel)) (by kxs_still) fun Q q => ⟨h, as, ps, ws, rfl, ⟨dx, l1, l2, hI⟩, fun r H8 h1 h2 h3 => q _ _ ⟨r, rfl, h1, h2, h3⟩⟩
theorem h_hpeople {K : PySem.W.Frag} {C : Cs} {σ : St} {H : Hp} {ta : TE} {h : Addr} {as : List Addr} {ps : List Int} {ws : List Way} (ha : Val ta σ H (.ref h)) (hh : HouseAt C H h as ps ws) :
    ValH (tMeth C.House "people" (sp_House_people K C) [] E0 ta tNil) σ H (fun v H' => ∃ p, v = .ref p ∧ H p = none ∧ Same H H' ∧ H' p = some (.lst (ps.map V.int))) := by
  obtain ⟨dx, l1, l2, hI⟩ := hh
  exact h_meth (vs := []) (p := h) ha hI.ob (hF_no _ _ (by decide +kernel) (by decide +kernel)) (by kxs_still) fun Q q => ⟨h, as, ps, ws, rfl, ⟨dx, l1, l2, hI⟩, fun r H8 h1 h2 h3 => q _ _ ⟨r, rfl, h1, h2, h3⟩⟩
/-! ### walks -/
theorem All2.append {α β : Type} {R : α → β → Prop} : ∀ {as : List α} {bs : List β} {cs : List α} {ds : List β}, All2 R as bs → All2 R cs ds → All2 R (as ++ cs) (bs ++ ds)
  | _, _, _, _, .nil, h => h
  | _, _, _, _, .cons r t, h => .cons r (All2.append t h)
abbrev Step := Int × Int
def stepV (s : Step) : List V := [.int s.1, .int s.2]
def StepAt (H : Hp) (a : Addr) (s : Step) : Prop := H a = some (.tup [.int s.1, .int s.2])
def StepsAt (H : Hp) (as : List Addr) (ss : List Step) : Prop := All2 (StepAt H) as ss
theorem StepsAt.same {H H' : Hp} {as : List Addr} {ss : List Step} (h : StepsAt H as ss) (e : Same H H') : StepsAt H' as ss := All2.imp h fun a w q => e a _ q
theorem StepAt.updL {H : Hp} {a : Addr} {s : Step} {l : Addr} {xs : List V} {o : HO} (q : StepAt H a s) (hl : H l = some (.lst xs)) : StepAt (upd H l o) a s := by
  have q : H a = some (.tup [.int s.1, .int s.2]) := q
  show (upd H l o) a = _
  rw [upd_ne (ne_of q hl (by intro z; cases z))]
  exact q
theorem StepsAt.updL {H : Hp} {as : List Addr} {ss : List Step} {l : Addr} {xs : List V} {o : HO} (h : StepsAt H as ss) (hl : H l = some (.lst xs)) : StepsAt (upd H l o) as ss := All2.imp h fun _ _ q => q.updL hl
def WalkAt (H : Hp) (w sl : Addr) (bs : List Addr) (r : Int) (ss : List Step) : Prop := H w = some (.tup [.int r, .ref sl]) ∧ H sl = some (.lst (bs.map V.ref)) ∧ StepsAt H bs ss
theorem WalkAt.same {H H' : Hp} {w sl : Addr} {bs : List Addr} {r : Int} {ss : List Step} (h : WalkAt H w sl bs r ss) (e : Same H H') : WalkAt H' w sl bs r ss := ⟨e _ _ h.1, e _ _ h.2.1, h.2.2.same e⟩
def wayAtZ (ws : List Way) (k : Int) : Way := ws.getD k.toNat default
/-- where one is, and when, behind some steps -/
def goZ (ws : List Way) : Int → Int → List Step → Option (Int × Int)
  | h, t, [] => some (h, t)
  | h, t, s :: ss => if (0 ≤ s.2 ∧ s.2 < ws.length) ∧ t ≤ s.1 ∧ (wayAtZ ws s.2).s = h then goZ ws (wayAtZ ws s.2).e (s.1 + (wayAtZ ws s.2).l) ss else none
def outZ : Option (Int × Int) → Option Int
  | some (h, t) => if h = 0 then some t else none
  | none => none
/-- the minute at which a walk is outside -/
def endZ (n : Int) (ws : List Way) (r : Int) (ss : List Step) : Option Int := if 1 ≤ r ∧ r ≤ n then outZ (goZ ws r 0 ss) else none
theorem ways_get {H : Hp} {as : List Addr} {ws : List Way} {k : Int} (h : WaysAt H as ws) (h0 : 0 ≤ k) (h1 : k < ws.length) : ∃ a, atI (as.map V.ref) k = some (.ref a) ∧ WayAt H a (wayAtZ ws k) := by
  obtain ⟨j, rfl⟩ : ∃ j : Nat, k = j := ⟨k.toNat, by omega⟩
  have hj : j < ws.length := by omega
  obtain ⟨a, h2, h3⟩ := All2.get (i := j) h (List.getElem?_eq_getElem hj)
  refine ⟨a, atI_nat (by rw [List.getElem?_map, h2]; rfl), ?_⟩
  have : wayAtZ ws (j : Int) = ws[j] := by simp [wayAtZ, List.getD_eq_getElem?_getD, List.getElem?_eq_getElem hj]
  rw [this]
  exact h3
theorem drop_cons {α : Type} {xs : List α} {i : Nat} {x : α} (h : xs[i]? = some x) : xs.drop i = x :: xs.drop (i + 1) := by
  have hi := (List.getElem?_eq_some_iff.mp h).1
  rw [List.drop_eq_getElem_cons hi]
  congr 1
  exact (List.getElem?_eq_some_iff.mp h).2
def sp_outside_at (K : PySem.W.Frag) (C : Cs) : Sp := fun vs H Q E => ∃ (h w sl : Addr) (as bs : List Addr) (ps : List Int) (ws : List Way) (r : Int) (ss : List Step), vs = [.ref h, .ref w] ∧ HouseAt C H h as ps ws ∧ WalkAt H w sl bs r ss ∧
  (∀ t, endZ ps.length ws r ss = some t → ∀ H', Same H H' → Q (.int t) H') ∧ (endZ ps.length ws r ss = none → ∀ H', Same H H' → E (.ref C.NoWalk) none H')
def sp_law_end (K : PySem.W.Frag) (C : Cs) : Sp := fun vs H Q _ => ∃ (p pl wl w sl : Addr) (as bs : List Addr) (ps : List Int) (ws : List Way) (r : Int) (ss : List Step), vs = [.ref p, .ref w] ∧ PlotAt H p pl wl as ps ws ∧ WalkAt H w sl bs r ss ∧ Q (optV (endZ ps.length ws r ss)) H
section
variable {P : Program} {w : World} {K : PySem.W.Frag} {mg : Str → Option Value} {base : Heap} {C : Cs}
abbrev N_outside_at : List PySem.Str := ["house", "walk", "ways", "here", "now", "step", "way"]
theorem sc_outside_at : FnScope N_outside_at ["house", "walk"] (defScope s_outside_at) := ⟨rfl, rfl, rfl, by decide +kernel, rfl, by decide +kernel, by decide +kernel⟩
theorem c_outside_at {f fd} (D : FnP K "outside_at" "outside_at" s_outside_at f fd) (hm : mg "outside_at" = some (.ref f)) (G : Bn mg) (X_NoWalk : Xc K mg "NoWalk" C.NoWalk) (c_House_ways : Met P w K mg base CX0 1 C.House "ways" (sp_House_ways K C)) (c_House_people : Met P w K mg base CX0 1 C.House "people" (sp_House_people K C)) : Cal P w K mg base (L2.CX P w) 2 "outside_at" (sp_outside_at K C) := by
  refine cal_of D hm (D.ok sc_outside_at (fun vs H Q E h => ?_) (fun cdv A outer s H vs Q E hr h => ?_)) (fun _ _ _ _ _ _ us hl => match us, hl with | [_, _], _ => rfl)
  · obtain ⟨h, wk, sl, as, bs, ps, ws, r, ss, rfl, hH, hw, q, e⟩ := h
    rfl
  · obtain ⟨h, wk, sl, as, bs, ps, ws, r, ss, rfl, hH, hw, q, e⟩ := h
    have hu := hu_of hr
    refine ⟨_, (pss_cons (ps_set (i := 2) sc_outside_at.nd rfl (Or.inl rfl) (pe_mt0 c_House_ways hr (by decide) pass0 (pv 0)))
        (pss_cons (ps_if (pt_not (pt_chain op_le op_le pe_int (pe_ix (ix_tupK (K := K) rfl) (pv 1) pe_int (fun _ _ => rfl)) (pe_callB (id := "len") (call_len_seqK (K := K) rfl) (by rfl) G.len_ (by decide +kernel) (pa_cons (pe_mt0 c_House_people hr (by decide) pass0 (pv 0)) pa_nil))))
          (pss_one (ps_raise rfl (takes_of rfl rfl rfl rfl) (pmk_own PySem.F.excBase_ValueError X_NoWalk.xi X_NoWalk.g X_NoWalk.k (raises_own X_NoWalk.b X_NoWalk.t) rfl)))
          pss_nil)
        (pss_cons (ps_set (i := 3) sc_outside_at.nd rfl (Or.inl rfl) (pe_ix (ix_tupK (K := K) rfl) (pv 1) pe_int (fun _ _ => rfl)))
        (pss_cons (ps_set (i := 4) sc_outside_at.nd rfl (Or.inl rfl) pe_int)
        (pss_cons (ps_for (passes_of rfl) rfl (pi_listK (K := K) rfl (pe_ix (ix_tupK (K := K) rfl) (pv 1) pe_int (fun _ _ => rfl))) (pg_name (i := 5) sc_outside_at.nd rfl (Or.inl rfl))
          (pss_cons (ps_if (PW.pt (pw_or (pt_not (pt_chain op_le op_lt pe_int (pe_ix (ix_tupK (K := K) rfl) (pv 5) pe_int (fun _ _ => rfl)) (pe_callB (id := "len") (call_len_seqK (K := K) rfl) (by rfl) G.len_ (by decide +kernel) (pa_cons (pv 2) pa_nil)))) (pw_or1 (pt_cmpR op_lt (pe_ix (ix_tupK (K := K) rfl) (pv 5) pe_int (fun _ _ => rfl)) (pv 4) (nomark _)))))
              (pss_one (ps_raise rfl (takes_of rfl rfl rfl rfl) (pmk_own PySem.F.excBase_ValueError X_NoWalk.xi X_NoWalk.g X_NoWalk.k (raises_own X_NoWalk.b X_NoWalk.t) rfl)))
              pss_nil)
            (pss_cons (ps_set (i := 6) sc_outside_at.nd rfl (Or.inl rfl) (pe_ix (ix_listK (K := K) rfl) (pv 2) (pe_ix (ix_tupK (K := K) rfl) (pv 5) pe_int (fun _ _ => rfl)) (fun _ _ => rfl)))
            (pss_cons (ps_if (pt_cmpR op_ne (pe_ix (ix_tupK (K := K) rfl) (pv 6) pe_int (fun _ _ => rfl)) (pv 3) (nomark _))
              (pss_one (ps_raise rfl (takes_of rfl rfl rfl rfl) (pmk_own PySem.F.excBase_ValueError X_NoWalk.xi X_NoWalk.g X_NoWalk.k (raises_own X_NoWalk.b X_NoWalk.t) rfl)))
              pss_nil)
            (pss_cons (ps_set (i := 3) sc_outside_at.nd rfl (Or.inl rfl) (pe_ix (ix_tupK (K := K) rfl) (pv 6) pe_int (fun _ _ => rfl)))
            (pss_one (ps_set (i := 4) sc_outside_at.nd rfl (Or.inl rfl) (pe_op op_add (pe_ix (ix_tupK (K := K) rfl) (pv 5) pe_int (fun _ _ => rfl)) (pe_ix (ix_tupK (K := K) rfl) (pv 6) pe_int (fun _ _ => rfl))))))))))
        (pss_cons (ps_if (pt_cmpR op_ne (pv 3) pe_int (nomark _))
          (pss_one (ps_raise rfl (takes_of rfl rfl rfl rfl) (pmk_own PySem.F.excBase_ValueError X_NoWalk.xi X_NoWalk.g X_NoWalk.k (raises_own X_NoWalk.b X_NoWalk.t) rfl)))
          pss_nil)
        (pss_one (ps_ret (pv 4))))))))), ?_⟩
    refine q_setH (h_hways (by kbo_bools) hH) ?_
    rintro v H1 ⟨x, rfl, nx, e1, hx⟩
    refine q_whenG (b := !(decide (1 ≤ r) && decide (r ≤ (((ps.map V.int).length : Nat) : Int)))) (ag_not (ag_chain v_c (v_ixT (by kbo_bools) v_c (e1 _ _ hw.1) rfl) (g_lenH (ValH.imp (h_hpeople (by kbo_bools) (hH.same e1)) fun v H' ⟨p, h1, h2, h3, h4⟩ => ⟨p, h1, h3, h4⟩)))) (fun hb H2 e2 => ?_) (fun hb H2 e2 => ?_)
    · refine e ?_ _ (e1.trans e2)
      rw [List.length_map] at hb
      rw [endZ, if_neg (by simp at hb; omega)]
    rw [List.length_map] at hb
    have hb : 1 ≤ r ∧ r ≤ (ps.length : Int) := by
      simp at hb
      omega
    have hw2 := hw.same (e1.trans e2)
    have hx2 := e2 _ _ hx
    have hW2 : WaysAt H2 as ws := by
      obtain ⟨_, _, _, hI⟩ := hH
      exact hI.ws.same (e1.trans e2)
    have hlen := hW2.len
    have hend : endZ ps.length ws r ss = outZ (goZ ws r 0 ss) := by rw [endZ, if_pos hb]
    rw [hend] at q e
    refine q_set (v := .int r) (v_ixT (by kbo_bools) v_c hw2.1 rfl) ?_
    kopn_word
    refine q_forL (p := sl) (xs := bs.map V.ref) (v_ixT (by kbo_bools) v_c hw2.1 rfl) (SqL.of hw2.2.1) (fun i σ' H' => ∃ hh t u1 u2, σ' = [some (.ref h), some (.ref wk), some (.ref x), some (.int hh), some (.int t), u1, u2] ∧ H' = H2 ∧ goZ ws r 0 ss = goZ ws hh t (ss.drop i))
      ⟨r, 0, none, none, rfl, rfl, rfl⟩ (fun i σ' H' _ ⟨_, _, _, _, _, eH, _⟩ => by rw [eH]; exact SqL.of hw2.2.1) ?_ ?_
    · rintro i y σ' H' hi ⟨hh, t, u1, u2, rfl, rfl, hg⟩
      rw [List.getElem?_map] at hi
      cases ea : bs[i]? with
      | none =>
        rw [ea] at hi
        cases hi
      | some a =>
        rw [ea] at hi
        have hi : V.ref a = y := Option.some.inj hi
        subst hi
        obtain ⟨s, hs, ha⟩ := All2.get' hw2.2.2 ea
        have ha : H' a = some (.tup [.int s.1, .int s.2]) := ha
        rw [drop_cons hs, goZ] at hg
        refine q_when (b := !(decide (0 ≤ s.2) && decide (s.2 < (((as.map V.ref).length : Nat) : Int))) || decide (s.1 < t)) (by kbt_split) (fun hb => ?_) (fun hb => ?_)
        · refine e ?_ _ (e1.trans e2)
          rw [List.length_map, hlen] at hb
          rw [hg, if_neg (by simp at hb; omega)]
          rfl
        rw [List.length_map, hlen] at hb
        have hb : (0 ≤ s.2 ∧ s.2 < (ws.length : Int)) ∧ t ≤ s.1 := by
          simp at hb
          omega
        obtain ⟨b, hb1, hb2⟩ := ways_get hW2 hb.1.1 hb.1.2
        have hb2 : H' b = some (.tup [.int (wayAtZ ws s.2).s, .int (wayAtZ ws s.2).e, .int (wayAtZ ws s.2).w, .int (wayAtZ ws s.2).l]) := hb2
        refine q_set (v := .ref b) (v_ixL (i := s.2) (by kbo_bools) (by kbo_bools) (SqL.of hx2) hb1) ?_
        refine q_when (b := !decide (V.int (wayAtZ ws s.2).s = V.int hh)) (by kbt_split) (fun hc => ?_) (fun hc => ?_)
        · refine e ?_ _ (e1.trans e2)
          rw [hg, if_neg (by simp at hc; omega)]
          rfl
        · rw [if_pos ⟨hb.1, hb.2, by simpa using hc⟩] at hg
          kopn_word
          kopn_word
          exact ⟨_, _, _, _, rfl, rfl, hg⟩
    · rintro σ' H' ⟨hh, t, u1, u2, rfl, rfl, hg⟩
      have hd : ss.drop (bs.map V.ref).length = [] := by
        rw [List.length_map, hw2.2.2.len]
        exact List.drop_length
      rw [hd, goZ] at hg
      refine q_when (b := !decide (V.int hh = V.int 0)) (by kbt_split) (fun hc => ?_) (fun hc => ?_)
      · refine e ?_ _ (e1.trans e2)
        have hc : ¬ hh = 0 := by simpa using hc
        rw [hg, outZ, if_neg hc]
      · have hc : hh = 0 := by simpa using hc
        refine s_ret (v := .int t) (by kbo_bools) (q t ?_ _ (e1.trans e2))
        rw [hg, outZ, if_pos hc]
abbrev N_law_end : List PySem.Str := ["plot", "walk", "here", "now", "step"]
theorem sc_law_end : FnScope N_law_end ["plot", "walk"] (defScope s_law_end) := ⟨rfl, rfl, rfl, by decide +kernel, rfl, by decide +kernel, by decide +kernel⟩
theorem c_law_end {f fd} (D : FnP K "_law_end" "_law_end" s_law_end f fd) (hm : mg "_law_end" = some (.ref f)) (G : Bn mg) : Cal P w K mg base CX0 1 "_law_end" (sp_law_end K C) := by
  refine cal_of D hm (D.ok sc_law_end (fun vs H Q E h => ?_) (fun cdv A outer s H vs Q E hr h => ?_)) (fun _ _ _ _ _ _ us hl => match us, hl with | [_, _], _ => rfl)
  · obtain ⟨p, pl, wl, wk, sl, as, bs, ps, ws, r, ss, rfl, hP, hw, q⟩ := h
    rfl
  · obtain ⟨p, pl, wl, wk, sl, as, bs, ps, ws, r, ss, rfl, hP, hw, q⟩ := h
    have hu := hu_of hr
    refine ⟨_, PSs.nox (pss_cons (ps_set (i := 2) sc_law_end.nd rfl (Or.inl rfl) (pe_ix (ix_tupK (K := K) rfl) (pv 1) pe_int (fun _ _ => rfl)))
        (pss_cons (ps_set (i := 3) sc_law_end.nd rfl (Or.inl rfl) pe_int)
        (pss_cons (ps_if (pt_not (pt_chain op_le op_le pe_int (pv 2) (pe_callB (id := "len") (call_len_seqK (K := K) rfl) (by rfl) G.len_ (by decide +kernel) (pa_cons (pe_ix (ix_tupK (K := K) rfl) (pv 0) pe_int (fun _ _ => rfl)) pa_nil))))
          (pss_one (ps_ret pe_non))
          pss_nil)
        (pss_cons (ps_for PassesOwn.never rfl (pi_listK (K := K) rfl (pe_ix (ix_tupK (K := K) rfl) (pv 1) pe_int (fun _ _ => rfl))) (pg_name (i := 4) sc_law_end.nd rfl (Or.inl rfl))
          (pss_cons (ps_if (PW.pt (pw_or (pt_not (pt_chain op_le op_lt pe_int (pe_ix (ix_tupK (K := K) rfl) (pv 4) pe_int (fun _ _ => rfl)) (pe_callB (id := "len") (call_len_seqK (K := K) rfl) (by rfl) G.len_ (by decide +kernel) (pa_cons (pe_ix (ix_tupK (K := K) rfl) (pv 0) pe_int (fun _ _ => rfl)) pa_nil)))) (pw_or (pt_cmpR op_lt (pe_ix (ix_tupK (K := K) rfl) (pv 4) pe_int (fun _ _ => rfl)) (pv 3) (nomark _)) (pw_or1 (pt_cmpR op_ne (pe_ix (ix_tupK (K := K) rfl) (pe_ix (ix_listK (K := K) rfl) (pe_ix (ix_tupK (K := K) rfl) (pv 0) pe_int (fun _ _ => rfl)) (pe_ix (ix_tupK (K := K) rfl) (pv 4) pe_int (fun _ _ => rfl)) (fun _ _ => rfl)) pe_int (fun _ _ => rfl)) (pv 2) (nomark _))))))
              (pss_one (ps_ret pe_non))
              pss_nil)
            (pss_cons (ps_set (i := 2) sc_law_end.nd rfl (Or.inl rfl) (pe_ix (ix_tupK (K := K) rfl) (pe_ix (ix_listK (K := K) rfl) (pe_ix (ix_tupK (K := K) rfl) (pv 0) pe_int (fun _ _ => rfl)) (pe_ix (ix_tupK (K := K) rfl) (pv 4) pe_int (fun _ _ => rfl)) (fun _ _ => rfl)) pe_int (fun _ _ => rfl)))
            (pss_one (ps_set (i := 3) sc_law_end.nd rfl (Or.inl rfl) (pe_op op_add (pe_ix (ix_tupK (K := K) rfl) (pv 4) pe_int (fun _ _ => rfl)) (pe_ix (ix_tupK (K := K) rfl) (pe_ix (ix_listK (K := K) rfl) (pe_ix (ix_tupK (K := K) rfl) (pv 0) pe_int (fun _ _ => rfl)) (pe_ix (ix_tupK (K := K) rfl) (pv 4) pe_int (fun _ _ => rfl)) (fun _ _ => rfl)) pe_int (fun _ _ => rfl))))))))
        (pss_cons (ps_if (pt_cmpR op_ne (pv 2) pe_int (nomark _))
          (pss_one (ps_ret pe_non))
          pss_nil)
        (pss_one (ps_ret (pv 3)))))))), ?_⟩
    have ⟨hp, hpl, hwl, hW⟩ := hP
    have hlen := hW.len
    refine q_set (v := .int r) (v_ixT (by kbo_bools) v_c hw.1 rfl) ?_
    kopn_word
    refine q_when (b := !(decide (1 ≤ r) && decide (r ≤ (((ps.map V.int).length : Nat) : Int)))) (a_not (a_chain (by kbo_bools) (by kbo_bools) (v_len (v_ixT (by kbo_bools) v_c hp rfl) (SqL.of hpl)))) (fun hb => ?_) (fun hb => ?_)
    · refine s_ret v_c ?_
      rw [List.length_map] at hb
      rw [endZ, if_neg (by simp at hb; omega)] at q
      exact q
    rw [List.length_map] at hb
    have hb : 1 ≤ r ∧ r ≤ (ps.length : Int) := by
      simp at hb
      omega
    have hend : endZ ps.length ws r ss = outZ (goZ ws r 0 ss) := by rw [endZ, if_pos hb]
    rw [hend] at q
    refine q_forL (p := sl) (xs := bs.map V.ref) (v_ixT (by kbo_bools) v_c hw.1 rfl) (SqL.of hw.2.1) (fun i σ' H' => ∃ hh t u1, σ' = [some (.ref p), some (.ref wk), some (.int hh), some (.int t), u1] ∧ H' = H ∧ goZ ws r 0 ss = goZ ws hh t (ss.drop i))
      ⟨r, 0, none, rfl, rfl, rfl⟩ (fun i σ' H' _ ⟨_, _, _, _, eH, _⟩ => by rw [eH]; exact SqL.of hw.2.1) ?_ ?_
    · rintro i y σ' H' hi ⟨hh, t, u1, rfl, rfl, hg⟩
      rw [List.getElem?_map] at hi
      cases ea : bs[i]? with
      | none =>
        rw [ea] at hi
        cases hi
      | some a =>
        rw [ea] at hi
        have hi : V.ref a = y := Option.some.inj hi
        subst hi
        obtain ⟨s, hs, ha⟩ := All2.get' hw.2.2 ea
        have ha : H' a = some (.tup [.int s.1, .int s.2]) := ha
        rw [drop_cons hs, goZ] at hg
        have way : ∀ {j : Int} {z : V}, 0 ≤ s.2 → s.2 < (ws.length : Int) → atI (wayV (wayAtZ ws s.2)) j = some z → Val (tOp (rIxT K) (tOp (rIxL K) (tOp (rIxT K) (tVar 0) (tC (.int 1))) (tOp (rIxT K) (tVar 4) (tC (.int 1)))) (tC (.int j))) [some (.ref p), some (.ref wk), some (.int hh), some (.int t), some (.ref a)] H' z := by
          intro j z h0 h1 hz
          obtain ⟨b, hb1, hb2⟩ := ways_get hW h0 h1
          exact v_ixT (p := b) (v_ixL (i := s.2) (v_ixT (by kbo_bools) v_c hp rfl) (by kbo_bools) (SqL.of hwl) hb1) v_c hb2 hz
        refine q_when (b := !(decide (0 ≤ s.2) && decide (s.2 < (((as.map V.ref).length : Nat) : Int))) || (decide (s.1 < t) || !decide (V.int (wayAtZ ws s.2).s = V.int hh))) (a_or (a_not (a_chain (by kbo_bools) (by kbo_bools) (v_len (v_ixT (by kbo_bools) v_c hp rfl) (SqL.of hwl)))) fun h1 => a_or (by kbt_split) fun _ => a_test (v_ne (way ?_ ?_ rfl) (by kbo_bools) rfl)) (fun hb => ?_) (fun hb => ?_)
        · simp at h1
          omega
        · rw [List.length_map, hlen] at h1
          simp at h1
          omega
        · refine s_ret v_c ?_
          rw [List.length_map, hlen] at hb
          rw [hg, if_neg (by simp at hb; omega)] at q
          exact q
        rw [List.length_map, hlen] at hb
        have hb : (0 ≤ s.2 ∧ s.2 < (ws.length : Int)) ∧ t ≤ s.1 ∧ (wayAtZ ws s.2).s = hh := by
          simp at hb
          omega
        rw [if_pos hb] at hg
        refine q_set (v := .int (wayAtZ ws s.2).e) (way hb.1.1 hb.1.2 rfl) ?_
        refine s_set (v := .int (s.1 + (wayAtZ ws s.2).l)) (v_I0 (i := s.1) (j := (wayAtZ ws s.2).l) (by kbo_bools) ?_) ⟨_, _, _, rfl, rfl, hg⟩
        obtain ⟨b, hb1, hb2⟩ := ways_get hW hb.1.1 hb.1.2
        exact v_ixT (p := b) (v_ixL (i := s.2) (v_ixT (by kbo_bools) v_c hp rfl) (by kbo_bools) (SqL.of hwl) hb1) v_c hb2 rfl
    · rintro σ' H' ⟨hh, t, u1, rfl, rfl, hg⟩
      have hd : ss.drop (bs.map V.ref).length = [] := by
        rw [List.length_map, hw.2.2.len]
        exact List.drop_length
      rw [hd, goZ] at hg
      rw [hg, outZ] at q
      refine q_when (b := !decide (V.int hh = V.int 0)) (by kbt_split) (fun hc => ?_) (fun hc => ?_)
      · have hc : ¬ hh = 0 := by simpa using hc
        rw [if_neg hc] at q
        exact s_ret v_c q
      · have hc : hh = 0 := by simpa using hc
        rw [if_pos hc] at q
        exact s_ret (v := .int t) (by kbo_bools) q
end
/-! ### a drawn walk: some walk -/
def RetWalk (n : Nat) (H : Hp) (Q : VK) : Prop := ∀ w sl bs r ss H', H w = none → H sl = none → Same H H' → WalkAt H' w sl bs r ss → ss.length ≤ n → Q (.ref w) H'
def sp_law_drawn_walk (K : PySem.W.Frag) (C : Cs) : Sp := fun vs H Q _ => ∃ (a p pl wl : Addr) (ns : List Int) (as : List Addr) (ps : List Int) (ws : List Way) (k spare : Int), vs = [.ref a, .int k, .ref p, .int spare] ∧ SqL K H a (ns.map V.int) ∧ PlotAt H p pl wl as ps ws ∧
  1 ≤ ps.length ∧ ws.length ≤ 1000 ∧ (0 ≤ k ∧ k ≤ 600) ∧ 0 ≤ spare ∧ RetWalk 6 H Q
section
variable {P : Program} {w : World} {K : PySem.W.Frag} {mg : Str → Option Value} {base : Heap} {C : Cs}
abbrev N_law_drawn_walk : List PySem.Str := ["script", "k", "plot", "spare", "here", "walk", "now", "j", "some", "number"]
theorem sc_law_drawn_walk : FnScope N_law_drawn_walk ["script", "k", "plot", "spare"] (defScope s_law_drawn_walk) := ⟨rfl, rfl, rfl, by decide +kernel, rfl, by decide +kernel, by decide +kernel⟩
theorem c_law_drawn_walk {f fd} (D : FnP K "_law_drawn_walk" "_law_drawn_walk" s_law_drawn_walk f fd) (hm : mg "_law_drawn_walk" = some (.ref f)) (G : Bn mg) (c_law_draw : Cal P w K mg base CX0 2 "_law_draw" (sp_law_draw K C)) : Cal P w K mg base CX0 3 "_law_drawn_walk" (sp_law_drawn_walk K C) := by
  refine cal_of D hm (D.ok sc_law_drawn_walk (fun vs H Q E h => ?_) (fun cdv A outer s H vs Q E hr h => ?_)) (fun _ _ _ _ _ _ us hl => match us, hl with | [_, _, _, _], _ => rfl)
  · obtain ⟨a, p, pl, wl, ns, as, ps, ws, k, spare, rfl, hS, hP, hz1, hz2, hk, hsp, q⟩ := h
    rfl
  · obtain ⟨a, p, pl, wl, ns, as, ps, ws, k, spare, rfl, hS, hP, hz1, hz2, hk, hsp, q⟩ := h
    have hu := hu_of hr
    refine ⟨_, PSs.nox (pss_cons (ps_set (i := 4) sc_law_drawn_walk.nd rfl (Or.inr rfl) (pe_op op_add pe_int (pe_op op_mod (pe_c c_law_draw hr (by decide) pass0 rfl (pa_cons (pv 0) (pa_cons (pv 1) pa_nil))) (pe_callB (id := "len") (call_len_seqK (K := K) rfl) (by rfl) G.len_ (by decide +kernel) (pa_cons (pe_ix (ix_tupK (K := K) rfl) (pv 2) pe_int (fun _ _ => rfl)) pa_nil)))))
        (pss_cons (ps_set (i := 5) sc_law_drawn_walk.nd rfl (Or.inl rfl) (pe_tup (pa_cons (pv 4) (pa_cons (pe_lst pa_nil) pa_nil))))
        (pss_cons (ps_set (i := 6) sc_law_drawn_walk.nd rfl (Or.inl rfl) pe_int)
        (pss_cons (ps_for PassesOwn.never rfl (pi_range1 rfl G.range_ (pa_cons pe_int pa_nil)) (pg_name (i := 7) sc_law_drawn_walk.nd rfl (Or.inl rfl))
          (pss_cons (ps_setLc (i := 8) (own := [("number", 9)]) (g := gName 9) rfl sc_law_drawn_walk.nd rfl rfl (sw_true rfl rfl rfl (by decide +kernel)) (pi_range1 rfl G.range_ (pa_cons (pe_callB (id := "len") (call_len_seqK (K := K) rfl) (by rfl) G.len_ (by decide +kernel) (pa_cons (pe_ix (ix_tupK (K := K) rfl) (pv 2) pe_int (fun _ _ => rfl)) pa_nil)) pa_nil)) (blkOk_by (own := [("number", 9)]) (N := N_law_drawn_walk) (sc := defScope s_law_drawn_walk) (by decide +kernel)) (fun _ _ _ _ _ => pg_name (i := 9) sc_law_drawn_walk.nd rfl (Or.inl rfl)) (fun _ _ _ _ _ => (pts_one (pt_cmpR op_eq (pe_ix (ix_tupK (K := K) rfl) (pe_ix (ix_listK (K := K) rfl) (pe_ix (ix_tupK (K := K) rfl) (pv 2) pe_int (fun _ _ => rfl)) (pv 9) (fun _ _ => rfl)) pe_int (fun _ _ => rfl)) (pv 4) (nomark _)))) (fun _ _ _ _ _ => (pv 9)))
            (pss_one (ps_if (PW.pt (pw_and (pt_cmpR op_ne (pv 4) pe_int (nomark _)) (pw_and1 (pt_cmpR (op_neDK (K := K) rfl hr.units) (pv 8) (pe_lst pa_nil) (nomark _)))))
              (pss_cons (ps_set (i := 9) sc_law_drawn_walk.nd rfl (Or.inl rfl) (pe_ix (ix_listK (K := K) rfl) (pv 8) (pe_op op_mod (pe_c c_law_draw hr (by decide) pass0 rfl (pa_cons (pv 0) (pa_cons (pe_op op_add (pe_op op_add (pv 1) pe_int) (pe_op op_mul pe_int (pv 7))) pa_nil))) (pe_callB (id := "len") (call_len_seqK (K := K) rfl) (by rfl) G.len_ (by decide +kernel) (pa_cons (pv 8) pa_nil))) (fun _ _ => rfl)))
                (pss_cons (ps_set (i := 6) sc_law_drawn_walk.nd rfl (Or.inl rfl) (pe_op op_add (pv 6) (pe_op op_mod (pe_c c_law_draw hr (by decide) pass0 rfl (pa_cons (pv 0) (pa_cons (pe_op op_add (pe_op op_add (pv 1) pe_int) (pe_op op_mul pe_int (pv 7))) pa_nil))) (pe_op op_add (pv 3) pe_int))))
                (pss_cons (ps_expr (pe_bmK (K := K) rfl PySem.F.plainAttrs_list PySem.F.slot_list_append PySem.F.type_list_append mt_append (pe_ix (ix_tupK (K := K) rfl) (pv 5) pe_int (fun _ _ => rfl)) (pa_cons (pe_tup (pa_cons (pv 6) (pa_cons (pv 9) pa_nil))) pa_nil)))
                (pss_cons (ps_set (i := 4) sc_law_drawn_walk.nd rfl (Or.inr rfl) (pe_ix (ix_tupK (K := K) rfl) (pe_ix (ix_listK (K := K) rfl) (pe_ix (ix_tupK (K := K) rfl) (pv 2) pe_int (fun _ _ => rfl)) (pv 9) (fun _ _ => rfl)) pe_int (fun _ _ => rfl)))
                (pss_one (ps_set (i := 6) sc_law_drawn_walk.nd rfl (Or.inl rfl) (pe_op op_add (pv 6) (pe_ix (ix_tupK (K := K) rfl) (pe_ix (ix_listK (K := K) rfl) (pe_ix (ix_tupK (K := K) rfl) (pv 2) pe_int (fun _ _ => rfl)) (pv 9) (fun _ _ => rfl)) pe_int (fun _ _ => rfl)))))))))
              pss_nil))))
        (pss_one (ps_ret (pv 5))))))), ?_⟩
    have ⟨hp, hpl, hwl, hW⟩ := hP
    have hlen := hW.len
    have hpz : (0 : Int) < (((ps.map V.int).length : Nat) : Int) := by rw [List.length_map]; omega
    refine q_set (v := .int (1 + drawZ ns k % (((ps.map V.int).length : Nat) : Int))) (v_I0 (i := 1) (by kbo_bools) (v_I (i := drawZ ns k) (by kbo_bools) (v_len (v_ixT (by kbo_bools) v_c hp rfl) (SqL.of hpl)) hpz)) ?_
    generalize 1 + drawZ ns k % (((ps.map V.int).length : Nat) : Int) = r
    refine q_setH (P := fun v H' => ∃ w sl, v = .ref w ∧ H w = none ∧ H sl = none ∧ Same H H' ∧ H' w = some (.tup [.int r, .ref sl]) ∧ H' sl = some (.lst [])) ?_ ?_
    · intro Q q
      refine ⟨_, rfl, (by show 0 ≤ sizeLine; decide), fun sl hsl => ⟨by show 2 ≤ sizeLine; decide, fun w hw => q _ _ ⟨w, sl, rfl, (same_upd hsl).free hw, hsl, (same_upd hsl).trans (same_upd hw), upd_same, same_upd hw _ _ upd_same⟩⟩⟩
    rintro v H1 ⟨w, sl, rfl, nw, nsl, e1, hw1, hsl1⟩
    kopn_word
    refine q_forR1 (n := 6) (by kxs_still) (by omega) (fun i σ' H' => ∃ here now u8 u9 u11 bs ss, σ' = [some (.ref a), some (.int k), some (.ref p), some (.int spare), some (.int here), some (.ref w), some (.int now), u8, u9, u11] ∧ Same H H' ∧ WalkAt H' w sl bs r ss ∧ ss.length ≤ i)
      ⟨r, 0, none, none, none, [], [], rfl, e1, ⟨hw1, hsl1, .nil⟩, by simp⟩ ?_ ?_
    · rintro i σ' H2 hi ⟨here, now, u8, u9, u11, bs, ss, rfl, e2, hWk, hss⟩
      have way : ∀ {σ : St} {H' : Hp} {j x : Int} {z : V}, σ[2]? = some (some (.ref p)) → σ[9]? = some (some (.int x)) → Same H H' → 0 ≤ x → x < (ws.length : Int) → atI (wayV (wayAtZ ws x)) j = some z → Val (tOp (rIxT K) (tOp (rIxL K) (tOp (rIxT K) (tVar 2) (tC (.int 1))) (tVar 9)) (tC (.int j))) σ H' z := by
        intro σ H' j x z h2 h11 e h0 h1 hz
        obtain ⟨b, hb1, hb2⟩ := ways_get (hW.same e) h0 h1
        exact v_ixT (p := b) (v_ixL (i := x) (v_ixT (v_var h2) v_c (e _ _ hp) rfl) (v_var h11) (SqL.of (e _ _ hwl)) hb1) v_c hb2 hz
      refine q_setH (h_lcF1 (hi := (((as.map V.ref).length : Nat) : Int)) V.int (fun x => decide (V.int (wayAtZ ws x).s = V.int here)) (av_cons (v_len (v_ixT (by kbo_bools) v_c (e2 _ _ hp) rfl) (SqL.of (e2 _ _ hwl))) av_nil) (by rw [List.length_map]; omega) (fun _ => rfl)
        (fun x H' h0 h1 e => ag_test (g_of (v_eq (way rfl rfl (e2.trans e) h0 (by rw [List.length_map] at h1; omega) rfl) (by kbo_bools) rfl))) (fun x H' h0 h1 _ e => g_of (by kbo_bools))) ?_
      rintro v H3 ⟨D1, rfl, nD1, e3, hD1⟩
      have hb1 : ∀ x ∈ (((List.range (((as.map V.ref).length : Nat) : Int).toNat).map fun (k : Nat) => (k : Int)).filter (fun x => decide (V.int (wayAtZ ws x).s = V.int here))), 0 ≤ x ∧ x < (ws.length : Int) := by
        intro x hx
        obtain ⟨hx, _⟩ := List.mem_filter.mp hx
        obtain ⟨j, hj, rfl⟩ := List.mem_map.mp hx
        rw [List.mem_range, List.length_map] at hj
        omega
      have hl1 : (((List.range (((as.map V.ref).length : Nat) : Int).toNat).map fun (k : Nat) => (k : Int)).filter (fun x => decide (V.int (wayAtZ ws x).s = V.int here))).length ≤ 1000 := by
        refine Nat.le_trans (List.length_filter_le _ _) ?_
        rw [List.length_map, List.length_range, List.length_map]
        omega
      generalize (((List.range (((as.map V.ref).length : Nat) : Int).toNat).map fun (k : Nat) => (k : Int)).filter (fun x => decide (V.int (wayAtZ ws x).s = V.int here))) = S1 at *
      have e25 := e2.trans e3
      have hWk5 := hWk.same e3
      refine s_ifG (b := !decide (V.int here = V.int 0) && !PyData.eqv (intsD S1) (.list [])) (ag_and (ag_of (by kbt_split)) fun _ H' e => ag_test (g_neD (g_of (v := .ref D1) (by kbo_bools)) (fun H2 e2 => ValH.imp h_nil fun y H3 z => ⟨z.1, dp_ints (z.1 _ _ (e2 _ _ (e _ _ hD1))), z.2⟩) (shaped_ints _) shaped_nil)) (fun hb H6 e6 => ?_) (fun hb H6 e6 => ?_)
      · rw [eqv_ints_nil] at hb
        have hne : S1 ≠ [] := by
          intro z
          simp [z] at hb
        have hpos : 0 < S1.length := List.length_pos_iff.mpr hne
        have hS6 := Evl.ex_l (e25.trans e6) hS
        have hD6 := e6 _ _ hD1
        have hDz : (0 : Int) < (((S1.map V.int).length : Nat) : Int) := by rw [List.length_map]; omega
        have m1 := Int.emod_nonneg (drawZ ns (k + 1 + 2 * (i : Int))) (b := (((S1.map V.int).length : Nat) : Int)) (by omega)
        have m2 := Int.emod_lt_of_pos (drawZ ns (k + 1 + 2 * (i : Int))) hDz
        obtain ⟨x, hx1, hx2⟩ : ∃ x, atI (S1.map V.int) (drawZ ns (k + 1 + 2 * (i : Int)) % (((S1.map V.int).length : Nat) : Int)) = some (.int x) ∧ x ∈ S1 := by
          rw [List.length_map] at m2
          refine ⟨_, at_ints m1 ?_, ?_⟩
          · rw [List.length_map]
            exact m2
          · rw [List.length_map]
            rw [List.length_map] at m1
            rw [List.getD_eq_getElem?_getD, List.getElem?_eq_getElem (by omega)]
            exact List.getElem_mem _
        have hbx := hb1 x hx2
        refine q_set (v := .int x) (v_ixL (by kbo_bools) (v_I (i := drawZ ns (k + 1 + 2 * (i : Int))) (by kbo_bools) (by kbo_bools) hDz) (SqL.of hD6) hx1) ?_
        have hsp2 : (0 : Int) < spare + 1 := by omega
        refine q_set (v := .int (now + drawZ ns (k + 2 + 2 * (i : Int)) % (spare + 1))) (v_I0 (by kbo_bools) (v_I (i := drawZ ns (k + 2 + 2 * (i : Int))) (by kbo_bools) (by kbo_bools) hsp2)) ?_
        generalize now + drawZ ns (k + 2 + 2 * (i : Int)) % (spare + 1) = now2
        have hWk6 := hWk5.same e6
        have hbl := hWk6.2.2.len
        refine q_appH (l := sl) hWk6.2.1 (v_ixT (by kbo_bools) v_c hWk6.1 rfl) (h_tup (xs := [.int now2, .int x]) (by kxs_still) (by show 2 ≤ sizeLine; decide)) (by rw [List.length_map]; omega) (fun v H' ⟨r, _, hr, e⟩ => by rw [e]; exact same_upd hr) ?_
        rintro v H7 ⟨t, rfl, ht, rfl⟩
        have e67 := same_upd (o := .tup [.int now2, .int x]) ht
        have hWk7 := hWk6.same e67
        have e7 : Same H (upd (upd H6 t (.tup [.int now2, .int x])) sl (.lst (bs.map V.ref ++ [.ref t]))) := same_mut ((e25.trans e6).trans e67) nsl
        have fin : WalkAt (upd (upd H6 t (.tup [.int now2, .int x])) sl (.lst (bs.map V.ref ++ [.ref t]))) w sl (bs ++ [t]) r (ss ++ [(now2, x)]) := by
          refine ⟨?_, ?_, ?_⟩
          · rw [upd_ne (ne_of hWk7.1 hWk7.2.1 (by intro z; cases z))]
            exact hWk7.1
          · rw [upd_same, List.map_append]
            rfl
          · exact All2.append (hWk7.2.2.updL hWk7.2.1) (.cons (StepAt.updL (s := (now2, x)) upd_same hWk7.2.1) .nil)
        refine q_set (v := .int (wayAtZ ws x).e) (way rfl rfl e7 hbx.1 hbx.2 rfl) ?_
        refine s_set (v := .int (now2 + (wayAtZ ws x).l)) (v_I0 (by kbo_bools) (way rfl rfl e7 hbx.1 hbx.2 rfl)) ⟨_, _, _, _, _, _, _, rfl, e7, fin, by simp; omega⟩
      · exact ⟨_, _, _, _, _, bs, ss, rfl, e25.trans e6, hWk5.same e6, by omega⟩
    · rintro σ' H2 ⟨here, now, u8, u9, u11, bs, ss, rfl, e2, hWk, hss⟩
      exact s_ret (v := .ref w) (by kbo_bools) (q w sl bs r ss _ nw nsl e2 hWk (by omega))
end
/-! ### walks as data -/
def stepD (s : Step) : PyData := .tuple [.int s.1, .int s.2]
def stepsD (ss : List Step) : PyData := .list (ss.map stepD)
theorem dp_all_steps {K : PySem.W.Frag} {H : Hp} : ∀ {as : List Addr} {ss : List Step}, StepsAt H as ss → DpAll K H (as.map V.ref) (ss.map stepD)
  | _, _, .nil => .nil
  | _, _, .cons h t => .cons (.tup (SqT.of h) (.cons (.int _) (.cons (.int _) .nil))) (dp_all_steps t)
theorem dp_steps {K : PySem.W.Frag} {H : Hp} {p : Addr} {as : List Addr} {ss : List Step} (h : H p = some (.lst (as.map V.ref))) (hw : StepsAt H as ss) : Dp K H (.ref p) (stepsD ss) := .lst (SqL.of h) (dp_all_steps hw)
theorem lay_steps : ∀ ss : List Step, PyData.canLayAll0 (ss.map stepD) = true
  | [] => rfl
  | w :: ws => by simp [PyData.canLayAll0, PyData.canLay0, stepD, lay_steps ws]
theorem dep_steps : ∀ ss : List Step, PyData.depthAll (ss.map stepD) ≤ 1
  | [] => by simp [PyData.depthAll]
  | w :: ws => by
    have := dep_steps ws
    simp [PyData.depthAll, PyData.depth, stepD, this]
theorem shaped_steps (ss : List Step) : SeqAt.shaped (stepsD ss) = true := by
  have := dep_steps ss
  simp [SeqAt.shaped, stepsD, PyData.canLay0, lay_steps, PyData.depth]
  omega
theorem eqv_steps_nil (a : List Step) : PyData.eqv (stepsD a) (.list []) = decide (a = []) := by
  cases a <;> simp [stepsD, PyData.eqv, PyData.eqvAll]
def walkD (r : Int) (ss : List Step) : PyData := .tuple [.int r, stepsD ss]
theorem dp_walk {K : PySem.W.Frag} {H : Hp} {w sl : Addr} {bs : List Addr} {r : Int} {ss : List Step} (h : WalkAt H w sl bs r ss) : Dp K H (.ref w) (walkD r ss) := .tup (SqT.of h.1) (.cons (.int _) (.cons (dp_steps h.2.1 h.2.2) .nil))
theorem shaped_walk (r : Int) (ss : List Step) : SeqAt.shaped (walkD r ss) = true := by
  have := dep_steps ss
  simp [SeqAt.shaped, walkD, stepsD, PyData.canLay0, PyData.canLayAll0, lay_steps, PyData.depth, PyData.depthAll]
  omega
theorem at4v {a b c d : V} {x : Int} (hx : 0 ≤ x) : ∃ z, z ∈ [a, b, c, d] ∧ atI [a, b, c, d] (x % 4) = some z := by
  have h : x % 4 = 0 ∨ x % 4 = 1 ∨ x % 4 = 2 ∨ x % 4 = 3 := by omega
  rcases h with e | e | e | e <;> rw [e]
  · exact ⟨a, by simp, rfl⟩
  · exact ⟨b, by simp, rfl⟩
  · exact ⟨c, by simp, rfl⟩
  · exact ⟨d, by simp, rfl⟩
theorem ag_nonempty {K : PySem.W.Frag} {σ : St} {H : Hp} {ta : TE} {l : Addr} {bs : List Addr} {ss : List Step} (ha : Val ta σ H (.ref l)) (hl : H l = some (.lst (bs.map V.ref))) (hs : StepsAt H bs ss) : AG (tTest (tOp (rNeD K) ta (tLst tNil))) σ H (!decide (ss = [])) := by
  rw [← eqv_steps_nil]
  exact ag_test (g_neD (g_of ha) (fun H2 e2 => ValH.imp h_nil fun y H3 z => ⟨z.1, dp_steps (z.1 _ _ (e2 _ _ hl)) ((hs.same e2).same z.1), z.2⟩) (shaped_steps _) shaped_nil)
theorem steps_get {H : Hp} {bs : List Addr} {ss : List Step} {pos : Int} (h : StepsAt H bs ss) (h0 : 0 ≤ pos) (h1 : pos < ss.length) : ∃ a s, atI (bs.map V.ref) pos = some (.ref a) ∧ bs[pos.toNat]? = some a ∧ ss[pos.toNat]? = some s ∧ StepAt H a s := by
  obtain ⟨j, rfl⟩ : ∃ j : Nat, pos = j := ⟨pos.toNat, by omega⟩
  have hj : j < ss.length := by omega
  obtain ⟨a, h2, h3⟩ := All2.get (i := j) h (List.getElem?_eq_getElem hj)
  exact ⟨a, _, atI_nat (by rw [List.getElem?_map, h2]; rfl), h2, List.getElem?_eq_getElem hj, h3⟩
theorem avh_cons {σ : St} {H : Hp} {ta : TE} {tr : TA} {P : V → Hp → Prop} {Q : List V → Hp → Prop} (h : ValH ta σ H P) (k : ∀ v H', P v H' → tr σ H' fun vs H2 => Q (v :: vs) H2) : tCons ta tr σ H Q := h _ k
theorem q_lst {σ : St} {H : Hp} {tr : TA} {Q : VK} (h : tr σ H fun xs H' => xs.length ≤ sizeLine ∧ ∀ p, H' p = none → Q (.ref p) (upd H' p (.lst xs))) : tLst tr σ H Q := h
theorem q_tup {σ : St} {H : Hp} {tr : TA} {Q : VK} (h : tr σ H fun xs H' => xs.length ≤ sizeLine ∧ ∀ p, H' p = none → Q (.ref p) (upd H' p (.tup xs))) : tTup tr σ H Q := h
/-! ### a law's start: the plot, the house -/
section
variable {K : PySem.W.Frag} {C : Cs} {σ : St} {H : Hp} {ta tb : TE} {E : XK}
theorem h_house {as : List Addr} {ps : List Int} {ws : List Way} (hok : houseOk ps ws = true) (hW : WaysAt H as ws) (ha : ValH ta σ H (NewL H (ps.map V.int))) (hb : ∀ H', Same H H' → ValH tb σ H' (NewL H' (as.map V.ref))) :
    ValH (tMake C.House (sp_House_init K C) [] E (tCons ta (tCons tb tNil))) σ H (fun v H' => ∃ h, v = .ref h ∧ H h = none ∧ Same H H' ∧ HouseAt C H' h as ps ws) := by
  intro Q q
  refine ha _ fun v H1 z => ?_
  obtain ⟨d0, rfl, n0, rfl⟩ := z
  have e0 := same_upd (o := .lst (ps.map V.int)) n0
  refine hb _ e0 _ fun v H2 z => ?_
  obtain ⟨d1, rfl, n1, rfl⟩ := z
  have e1 := same_upd (o := .lst (as.map V.ref)) n1
  intro h dx nh ndx ne
  have s1 := same_mut (o := .ins C.House dx []) (same_upd (o := .own h) ndx) nh
  have hl : 1 ≤ ps.length ∧ ps.length ≤ 4 ∧ ws.length ≤ 10 := by
    simp only [houseOk, Bool.and_eq_true, decide_eq_true_eq] at hok
    exact hok.1.1
  refine ⟨h, dx, d0, d1, as, ps, ws, rfl, upd_same, s1 _ _ (e1 _ _ upd_same), s1 _ _ upd_same, ((hW.same e0).same e1).same s1, by omega, by omega, fun _ H' hh hk => ⟨rfl, ?_⟩, fun hno => by rw [hok] at hno; cases hno⟩
  obtain ⟨l1, l2, n1, n2, hI⟩ := hh
  exact q _ _ ⟨h, rfl, e0.free (e1.free nh), fun b o hb => hk b o (s1 _ _ (e1 _ _ (e0 _ _ hb))) (ne_none (e1 _ _ (e0 _ _ hb)) nh), dx, l1, l2, hI⟩
theorem h_plot {a : Addr} {ns : List Int} (ha : Val ta σ H (.ref a)) (hS : SqL K H a (ns.map V.int)) : ValH (tCall (sp_law_house K C) [] E (tCons ta tNil)) σ H (fun v H1 => ∃ p pl wl as, v = .ref p ∧ Same H H1 ∧ PlotAt H1 p pl wl as (folkZ ns) (waysZ ns)) :=
  h_call (vs := [.ref a]) (av_cons ha av_nil) fun Q q => ⟨a, ns, rfl, hS, fun p pl wl as H' _ e h => q _ _ ⟨p, pl, wl, as, rfl, e, h⟩⟩
end
/-- a list of a tuple's item -/
theorem h_listT0 {K : PySem.W.Frag} {σ : St} {H : Hp} {p q : Addr} {j : Int} {us xs : List V} {ta : TE} (ha : Val ta σ H (.ref p)) (hp : H p = some (.tup us)) (hi : atI us j = some (.ref q)) (hx : H q = some (.lst xs)) : ValH (tCB (rListQ K) (tCons (tOp (rIxT K) ta (tC (.int j))) tNil)) σ H (NewL H xs) := h_list (v_ixT ha v_c hp hi) (SqL.of hx)
theorem folk_b (ns : List Int) : 1 ≤ (folkZ ns).length ∧ (folkZ ns).length ≤ 4 := by
  have := rooms_b ns
  rw [folk_len]
  omega
theorem ways_b (ns : List Int) : (waysZ ns).length ≤ 10 := by
  have := many_b ns
  rw [ways_len]
  omega
theorem g_name {n : Nat} {x : V} {σ : St} {H : Hp} {k : St → Hp → Prop} (h : k (σ.set n (some x)) H) : gName n x σ H k := h
section
variable {K : PySem.W.Frag} {σ : St} {H : Hp} {te ta tb : TE} {D : Ends} {ts tz : TS} {P : V → Hp → Prop}
theorem q_forLH {g : TG} (h : ValH te σ H P) (k : ∀ v H1, P v H1 → tSeq (tFor (iList K (tC v)) g ts) tz D σ H1) : tSeq (tFor (iList K te) g ts) tz D σ H := h _ fun v H1 p => k v H1 p
theorem s_forR1 {tr : TA} {n : Int} {g : TG} (h : AV tr σ H [.int n]) (hn : -1000000 ≤ n ∧ n ≤ 1000000) (Pv : Nat → St → Hp → Prop) (h0 : Pv 0 σ H)
    (hs : ∀ (i : Nat) σ' H', (i : Int) < n → Pv i σ' H' → g (.int (i : Int)) σ' H' fun σ2 H2 => ts { D with nx := Pv (i + 1), ct := Pv (i + 1), bk := D.nx } σ2 H2) (hd : ∀ σ' H', Pv n.toNat σ' H' → D.nx σ' H') : tFor (iRng1 tr) g ts D σ H :=
  h _ ⟨n, rfl, by omega, by omega, for_range (lo := 0) (n := n.toNat) (D := D) Pv h0 (fun i σ' H' hi p => by
    rw [Int.zero_add]
    exact hs i σ' H' (by omega) p) hd⟩
theorem s_forL {p : Addr} {xs : List V} {g : TG} (h : Val te σ H (.ref p)) (hx : SqL K H p xs) (Pv : Nat → St → Hp → Prop) (h0 : Pv 0 σ H) (hl : ∀ i σ' H', i ≤ xs.length → Pv i σ' H' → SqL K H' p xs)
    (hs : ∀ i x σ' H', xs[i]? = some x → Pv i σ' H' → g x σ' H' fun σ2 H2 => ts { D with nx := Pv (i + 1), ct := Pv (i + 1), bk := D.nx } σ2 H2) (hd : ∀ σ' H', Pv xs.length σ' H' → D.nx σ' H') : tFor (iList K te) g ts D σ H :=
  h _ ⟨p, rfl, ⟨xs, hx⟩, for_list (K := K) (a := p) (xs := xs) (D := D) Pv h0 hl hs hd⟩
end
/-! ### plans -/
abbrev Wk := Int × List Step
def WkAt (H : Hp) (a : Addr) (w : Wk) : Prop := ∃ sl bs, WalkAt H a sl bs w.1 w.2
def WksAt (H : Hp) (as : List Addr) (ws : List Wk) : Prop := All2 (WkAt H) as ws
theorem WkAt.same {H H' : Hp} {a : Addr} {w : Wk} (h : WkAt H a w) (e : Same H H') : WkAt H' a w := let ⟨sl, bs, x⟩ := h; ⟨sl, bs, x.same e⟩
theorem WksAt.same {H H' : Hp} {as : List Addr} {ws : List Wk} (h : WksAt H as ws) (e : Same H H') : WksAt H' as ws := All2.imp h fun _ _ q => q.same e
def allS (wks : List Wk) : List Step := (wks.map (·.2)).flatten
def roomsOk (ps : List Int) (wks : List Wk) : Bool := (List.range ps.length).all fun k => decide (((wks.map (·.1)).count ((k : Int) + 1) : Int) ≤ ps.getD k 0)
def widthOk (ws : List Way) (ss : List Step) : Bool := ss.all fun s => decide ((ss.count s : Int) ≤ (wayAtZ ws s.2).w)
def endOk (n : Int) (ws : List Way) (T : Int) (w : Wk) : Bool := match endZ n ws w.1 w.2 with
  | some t => decide (t ≤ T)
  | none => false
def holdsZ (ps : List Int) (ws : List Way) (T : Int) (wks : List Wk) : Bool := wks.all (endOk ps.length ws T) && (roomsOk ps wks && widthOk ws (allS wks))
theorem go_ok {ws : List Way} : ∀ {ss : List Step} {h t : Int} {x : Int × Int}, goZ ws h t ss = some x → ∀ s ∈ ss, 0 ≤ s.2 ∧ s.2 < ws.length
  | [], _, _, _, _, s, hs => by simp at hs
  | s0 :: ss, h, t, x, e, s, hs => by
    rw [goZ] at e
    split at e
    · rename_i c
      rcases List.mem_cons.mp hs with h1 | h1
      · rw [h1]
        exact c.1
      · exact go_ok e s h1
    · cases e
theorem end_ok {n : Int} {ws : List Way} {r : Int} {ss : List Step} {t : Int} (h : endZ n ws r ss = some t) : (1 ≤ r ∧ r ≤ n) ∧ ∀ s ∈ ss, 0 ≤ s.2 ∧ s.2 < ws.length := by
  unfold endZ at h
  split at h
  · rename_i c
    refine ⟨c, ?_⟩
    cases e : goZ ws r 0 ss with
    | none =>
      rw [e] at h
      cases h
    | some x => exact go_ok e
  · cases h
/-! how often each step is in a table -/
def kS (s : Step) : List Key := [.inl s.1, .inl s.2]
theorem kS_inj {s t : Step} (h : kS s = kS t) : s = t := by
  simp only [kS, List.cons.injEq, Sum.inl.injEq, and_true] at h
  exact Prod.ext h.1 h.2
structure Tally (kvs : List (List Key × V)) (ss : List Step) : Prop where
  get : ∀ s, s ∈ ss → valV kvs (kS s) = some (.int (ss.count s))
  non : ∀ s, s ∉ ss → valV kvs (kS s) = none
  key : ∀ kv ∈ kvs, ∃ s ∈ ss, kv.1 = kS s
  len : kvs.length ≤ ss.length
theorem Tally.nil : Tally [] [] := ⟨fun s h => by simp at h, fun s _ => rfl, fun kv h => by simp at h, by simp⟩
theorem Tally.getD {kvs : List (List Key × V)} {ss : List Step} (h : Tally kvs ss) (s : Step) : (valV kvs (kS s)).getD (.int 0) = .int (ss.count s) := by
  by_cases hs : s ∈ ss
  · rw [h.get s hs]
    rfl
  · rw [h.non s hs, List.count_eq_zero_of_not_mem hs]
    rfl
theorem Tally.put {kvs : List (List Key × V)} {ss : List Step} (h : Tally kvs ss) (s : Step) : Tally (putK kvs (kS s) (.int ((ss.count s : Int) + 1))) (ss ++ [s]) := by
  refine ⟨fun t ht => ?_, fun t ht => ?_, fun kv hk => ?_, ?_⟩
  · rw [valV_put, List.count_append, List.count_singleton]
    by_cases e : t = s
    · subst e
      simp
    · rw [if_neg (fun z => e (kS_inj z)), h.get t (by simpa [e] using ht)]
      have : ¬ s = t := fun z => e z.symm
      simp [this]
  · have ht : t ∉ ss ∧ t ≠ s := by simpa using ht
    rw [valV_put, if_neg (fun z => ht.2 (kS_inj z)), h.non t ht.1]
  · rcases mem_putK hk with e | e
    · exact ⟨s, by simp, e⟩
    · obtain ⟨t, h1, h2⟩ := h.key kv e
      exact ⟨t, by simp [h1], h2⟩
  · have := length_putK kvs (kS s) (V.int ((ss.count s : Int) + 1))
    have := h.len
    simp only [List.length_append, List.length_cons, List.length_nil]
    omega
def stepOf : List Key → Step
  | [.inl a, .inl b] => (a, b)
  | _ => (0, 0)
def wideOf (ws : List Way) (ss : List Step) (kv : List Key × V) : Bool := decide ((wayAtZ ws (stepOf kv.1).2).w < (ss.count (stepOf kv.1) : Int))
theorem wide_eq {ws : List Way} {kvs : List (List Key × V)} {ss : List Step} (h : Tally kvs ss) : decide (((kvs.filter (wideOf ws ss)).map fun kv => stepOf kv.1) = []) = widthOk ws ss := by
  rw [Bool.eq_iff_iff, decide_eq_true_eq, List.map_eq_nil_iff, List.filter_eq_nil_iff, widthOk, List.all_eq_true]
  constructor
  · intro a s hs
    have hm := mem_of_valV (h.get s hs)
    have := a _ hm
    obtain ⟨s1, s2⟩ := s
    have t2 : ¬ ((wayAtZ ws s2).w < (ss.count (s1, s2) : Int)) := fun z => this (decide_eq_true z)
    refine decide_eq_true ?_
    show (ss.count (s1, s2) : Int) ≤ (wayAtZ ws s2).w
    omega
  · intro a kv hk
    obtain ⟨s, hs, e⟩ := h.key kv hk
    have := a s hs
    rw [wideOf, e]
    obtain ⟨s1, s2⟩ := s
    have t2 : (ss.count (s1, s2) : Int) ≤ (wayAtZ ws s2).w := of_decide_eq_true this
    intro z
    have z : (wayAtZ ws s2).w < (ss.count (s1, s2) : Int) := of_decide_eq_true z
    omega
def leftZ (ps : List Int) (wks : List Wk) : List Int := (List.range ps.length).map fun k => ps.getD k 0 - ((wks.map (·.1)).count ((k : Int) + 1) : Int)
theorem left_len (ps : List Int) (wks : List Wk) : (leftZ ps wks).length = ps.length := by simp [leftZ]
theorem left_nil (ps : List Int) : leftZ ps [] = ps := by
  apply List.ext_getElem?
  intro i
  by_cases hi : i < ps.length
  · simp [leftZ, hi, List.getD_eq_getElem?_getD]
  · rw [List.getElem?_eq_none (by rw [left_len]; omega), List.getElem?_eq_none (by omega)]
theorem left_get (ps : List Int) (wks : List Wk) {k : Nat} (hk : k < ps.length) : (leftZ ps wks).getD k 0 = ps.getD k 0 - ((wks.map (·.1)).count ((k : Int) + 1) : Int) := by
  simp [leftZ, hk, List.getD_eq_getElem?_getD]
theorem left_put (ps : List Int) (wks : List Wk) (w : Wk) {k : Nat} (hk : k < ps.length) (hw : w.1 = (k : Int) + 1) : (leftZ ps wks).set k ((leftZ ps wks).getD k 0 - 1) = leftZ ps (wks ++ [w]) := by
  apply List.ext_getElem?
  intro i
  by_cases hi : i < ps.length
  · by_cases hik : k = i
    · subst hik
      rw [List.getElem?_set_self (by rw [left_len]; exact hk), left_get ps wks hk]
      simp only [leftZ, List.getElem?_map, List.getElem?_range hk, Option.map_some, List.map_append, List.map_cons, List.map_nil, List.count_append, hw, List.count_singleton]
      congr 1
      simp
      omega
    · rw [List.getElem?_set_ne hik]
      simp only [leftZ, List.getElem?_map, List.getElem?_range hi, Option.map_some, List.map_append, List.map_cons, List.map_nil, List.count_append, hw, List.count_singleton]
      have : ¬ ((k : Int) + 1 = (i : Int) + 1) := by omega
      simp [this]
  · rw [List.getElem?_eq_none (by rw [List.length_set, left_len]; omega), List.getElem?_eq_none (by rw [left_len]; omega)]
theorem left_neg (ps : List Int) (wks : List Wk) : ((leftZ ps wks).any fun x => decide (x < 0)) = !roomsOk ps wks := by
  rw [Bool.eq_iff_iff, List.any_eq_true, Bool.not_eq_true', roomsOk, List.all_eq_false]
  constructor
  · rintro ⟨x, hx, hx2⟩
    simp only [leftZ, List.mem_map] at hx
    obtain ⟨k, hk, rfl⟩ := hx
    refine ⟨k, hk, ?_⟩
    simp at hx2 ⊢
    omega
  · rintro ⟨k, hk, hk2⟩
    refine ⟨_, List.mem_map.mpr ⟨k, hk, rfl⟩, ?_⟩
    simp at hk2 ⊢
    omega
section
variable {K : PySem.W.Frag} {σ : St} {H : Hp} {ta : TE}
theorem a_minNeg {y : Addr} {ns : List Int} (ha : Val ta σ H (.ref y)) (h : SqL K H y (ns.map V.int)) (h0 : 0 < ns.length) : Ans (tTest (tOp (rI0 fun i j => .bl (decide (i < j))) (tCB (rMin K) (tCons ta tNil)) (tC (.int 0)))) σ H (ns.any fun x => decide (x < 0)) := fun Q q => ha _ ⟨y, ns, rfl, h, h0, fun m hm hmin => ⟨m, 0, rfl, rfl, _, rfl, by
  have e : decide (m < 0) = ns.any fun x => decide (x < 0) := by
    rw [Bool.eq_iff_iff, decide_eq_true_eq, List.any_eq_true]
    refine ⟨fun h => ⟨m, hm, decide_eq_true h⟩, fun ⟨x, hx, hx2⟩ => ?_⟩
    have := hmin x hx
    have hx2 : x < 0 := by simpa using hx2
    omega
  rw [e]
  exact q⟩⟩
theorem h_dnewT : ValH tDNewT σ H (fun v H' => ∃ p, v = .ref p ∧ H p = none ∧ H' = upd H p (.dT [])) := fun Q q p hp => q _ _ ⟨p, rfl, hp, rfl⟩
end
theorem steps_item {H : Hp} {bs : List Addr} {ss : List Step} {i : Nat} {v : V} (hW : StepsAt H bs ss) (hi : (bs.map V.ref)[i]? = some v) : ∃ a s, v = .ref a ∧ ss[i]? = some s ∧ s ∈ ss ∧ H a = some (.tup [.int s.1, .int s.2]) := by
  rw [List.getElem?_map] at hi
  cases ea : bs[i]? with
  | none =>
    rw [ea] at hi
    cases hi
  | some a =>
    rw [ea] at hi
    obtain ⟨x, hx, ha⟩ := All2.get' hW ea
    exact ⟨a, x, (Option.some.inj hi).symm, hx, List.mem_of_getElem? hx, ha⟩
theorem wks_item {H : Hp} {as : List Addr} {ws : List Wk} {i : Nat} {v : V} (hW : WksAt H as ws) (hi : (as.map V.ref)[i]? = some v) : ∃ a sl bs w, v = .ref a ∧ as[i]? = some a ∧ ws[i]? = some w ∧ w ∈ ws ∧ WalkAt H a sl bs w.1 w.2 := by
  rw [List.getElem?_map] at hi
  cases ea : as[i]? with
  | none =>
    rw [ea] at hi
    cases hi
  | some a =>
    rw [ea] at hi
    obtain ⟨x, hx, sl, bs, ha⟩ := All2.get' hW ea
    exact ⟨a, sl, bs, x, (Option.some.inj hi).symm, rfl, hx, List.mem_of_getElem? hx, ha⟩
theorem map_ref_inj : ∀ {as bs : List Addr}, as.map V.ref = bs.map V.ref → as = bs
  | [], [], _ => rfl
  | [], b :: bs, h => by cases h
  | a :: as, [], h => by cases h
  | a :: as, b :: bs, h => by
    injection h with h1 h2
    injection h1 with h1
    rw [h1, map_ref_inj h2]
theorem take_snoc {α : Type} {xs : List α} {i : Nat} {x : α} (h : xs[i]? = some x) : xs.take (i + 1) = xs.take i ++ [x] := by
  rw [List.take_add_one, h]
  rfl
theorem allS_snoc (wks : List Wk) (w : Wk) : allS (wks ++ [w]) = allS wks ++ w.2 := by simp [allS]
theorem allS_take_len {wks : List Wk} {n : Nat} (i : Nat) (h : (allS wks).length ≤ n) : (allS (wks.take i)).length ≤ n := by
  have e : allS wks = allS (wks.take i) ++ allS (wks.drop i) := by
    unfold allS
    rw [← List.flatten_append, ← List.map_append, List.take_append_drop]
  rw [e, List.length_append] at h
  omega
/-- the over-wide steps of a table -/
theorem acc_steps {H : Hp} {kvs : List (List Key × V)} : ∀ {acc : List V} {kvs : List (List Key × V)}, All2 (fun x kv => ∃ q, x = V.ref q ∧ StepAt H q (stepOf kv.1)) acc kvs → ∃ bs, acc = bs.map V.ref ∧ StepsAt H bs (kvs.map fun kv => stepOf kv.1)
  | _, _, .nil => ⟨[], rfl, .nil⟩
  | _, _, .cons ⟨q, e, h⟩ t => by
    obtain ⟨bs, h1, h2⟩ := acc_steps (kvs := kvs) t
    exact ⟨q :: bs, by rw [e, h1]; rfl, .cons h h2⟩
def PlanIn (H : Hp) (L : Addr) (was : List Addr) (wks : List Wk) : Prop := H L = some (.lst (was.map V.ref)) ∧ WksAt H was wks
theorem PlanIn.same {H H' : Hp} {L : Addr} {was : List Addr} {wks : List Wk} (h : PlanIn H L was wks) (e : Same H H') : PlanIn H' L was wks := ⟨e _ _ h.1, h.2.same e⟩
def sp_narrow (K : PySem.W.Frag) (C : Cs) : Sp := fun vs H Q _ => ∃ (h L : Addr) (as was : List Addr) (ps : List Int) (ws : List Way) (wks : List Wk), vs = [.ref h, .ref L] ∧ HouseAt C H h as ps ws ∧ 1 ≤ ps.length ∧ PlanIn H L was wks ∧
  (∀ w ∈ wks, (1 ≤ w.1 ∧ w.1 ≤ ps.length) ∧ ∀ s ∈ w.2, 0 ≤ s.2 ∧ s.2 < ws.length) ∧ (allS wks).length ≤ 100000 ∧ ∀ H', Same H H' → Q (.bl (!(roomsOk ps wks && widthOk ws (allS wks)))) H'
def sp_holds (K : PySem.W.Frag) (C : Cs) : Sp := fun vs H Q _ => ∃ (h L : Addr) (as was : List Addr) (ps : List Int) (ws : List Way) (T : Int) (wks : List Wk), vs = [.ref h, .ref L, .int T] ∧ HouseAt C H h as ps ws ∧ 1 ≤ ps.length ∧ PlanIn H L was wks ∧
  (allS wks).length ≤ 100000 ∧ ∀ H', Same H H' → Q (.bl (holdsZ ps ws T wks)) H'
def sp_law_holds (K : PySem.W.Frag) (C : Cs) : Sp := fun vs H Q _ => ∃ (p pl wl L : Addr) (as was : List Addr) (ps : List Int) (ws : List Way) (T : Int) (wks : List Wk), vs = [.ref p, .ref L, .int T] ∧ PlotAt H p pl wl as ps ws ∧ houseOk ps ws = true ∧ PlanIn H L was wks ∧ wks.length ≤ 10000 ∧
  (allS wks).length ≤ 100000 ∧ ∀ H', Same H H' → Q (.bl (holdsZ ps ws T wks)) H'
section
variable {P : Program} {w : World} {K : PySem.W.Frag} {mg : Str → Option Value} {base : Heap} {C : Cs}
abbrev N_narrow : List PySem.Str := ["house", "walks", "ways", "people", "entered", "walk", "step"]
theorem sc_narrow : FnScope N_narrow ["house", "walks"] (defScope s_narrow) := ⟨rfl, rfl, rfl, by decide +kernel, rfl, by decide +kernel, by decide +kernel⟩
theorem c_narrow {f fd} (D : FnP K "narrow" "narrow" s_narrow f fd) (hm : mg "narrow" = some (.ref f)) (G : Bn mg) (c_House_ways : Met P w K mg base CX0 1 C.House "ways" (sp_House_ways K C)) (c_House_people : Met P w K mg base CX0 1 C.House "people" (sp_House_people K C)) : Cal P w K mg base CX0 2 "narrow" (sp_narrow K C) := by
  refine cal_of D hm (D.ok sc_narrow (fun vs H Q E h => ?_) (fun cdv A outer s H vs Q E hr h => ?_)) (fun _ _ _ _ _ _ us hl => match us, hl with | [_, _], _ => rfl)
  · obtain ⟨h, L, as, was, ps, ws, wks, rfl, hH, hp1, hL, hok, hsz, q⟩ := h
    rfl
  · obtain ⟨h, L, as, was, ps, ws, wks, rfl, hH, hp1, hL, hok, hsz, q⟩ := h
    have hu := hu_of hr
    refine ⟨_, PSs.nox (pss_cons (ps_set (i := 2) sc_narrow.nd rfl (Or.inr rfl) (pe_mt0 c_House_ways hr (by decide) pass0 (pv 0)))
        (pss_cons (ps_set (i := 3) sc_narrow.nd rfl (Or.inl rfl) (pe_mt0 c_House_people hr (by decide) pass0 (pv 0)))
        (pss_cons (ps_set (i := 4) sc_narrow.nd rfl (Or.inr rfl) pe_dnewT)
        (pss_cons (ps_for PassesOwn.never rfl (pi_listK (K := K) rfl (pv 1)) (pg_name (i := 5) sc_narrow.nd rfl (Or.inl rfl))
          (pss_cons (ps_asg (pe_op op_sub (pe_ix (ix_listK (K := K) rfl) (pv 3) (pe_op op_sub (pe_ix (ix_tupK (K := K) rfl) (pv 5) pe_int (fun _ _ => rfl)) pe_int) (fun _ _ => rfl)) pe_int) (pg_sub (pv 3) (pe_op op_sub (pe_ix (ix_tupK (K := K) rfl) (pv 5) pe_int (fun _ _ => rfl)) pe_int) set_list))
            (pss_one (ps_for PassesOwn.never rfl (pi_listK (K := K) rfl (pe_ix (ix_tupK (K := K) rfl) (pv 5) pe_int (fun _ _ => rfl))) (pg_name (i := 6) sc_narrow.nd rfl (Or.inl rfl))
              (pss_one (ps_dput hu (pv 4) (pv 6) (pe_op op_add (pe_dget2 hu (pv 4) (pv 6) pe_int ⟨rfl, rfl, rfl, rfl⟩) pe_int) rfl))))))
        (pss_cons (ps_if (pt_cmpR op_lt (pe_callB (id := "min") (cr_minK' (K := K) rfl rfl) (by rfl) G.min_ (by decide +kernel) (pa_cons (pv 3) pa_nil)) pe_int (nomark _))
          (pss_one (ps_ret pe_bl))
          pss_nil)
        (pss_one (ps_ret (pe_cmpR (op_neDK (K := K) rfl hr.units) (pe_lock (pe_lc (own := [("step", 6)]) (g := gName 6) rfl sc_narrow.nd (pi_keys (pv 4)) (blkOk_by (own := [("step", 6)]) (N := N_narrow) (sc := defScope s_narrow) (by decide +kernel)) (fun _ _ _ _ _ => pg_name (i := 6) sc_narrow.nd rfl (Or.inl rfl)) (fun _ _ _ _ _ => (pts_one (pt_cmpR op_gt (pe_dget hu (pv 4) (pv 6) (fun _ _ => rfl)) (pe_ix (ix_tupK (K := K) rfl) (pe_ix (ix_listK (K := K) rfl) (pv 2) (pe_ix (ix_tupK (K := K) rfl) (pv 6) pe_int (fun _ _ => rfl)) (fun _ _ => rfl)) pe_int (fun _ _ => rfl)) (nomark _)))) (fun _ _ _ _ _ => (pv 6)))) (pe_lst pa_nil) (nomark _))))))))), ?_⟩
    refine q_setH (h_hways (by kbo_bools) hH) ?_
    rintro v H1 ⟨x, rfl, nx, e1, hx⟩
    refine q_setH (h_hpeople (by kbo_bools) (hH.same e1)) ?_
    rintro v H2 ⟨y, rfl, ny, e2, hy⟩
    refine q_setH h_dnewT ?_
    rintro v H3 ⟨d, rfl, nd, rfl⟩
    have e3 := same_upd (o := .dT []) nd
    have hx3 := e3 _ _ (e2 _ _ hx)
    have hy3 := e3 _ _ hy
    have hxy : x ≠ y := ne_none hx ny
    have ny0 : H y = none := e1.free ny
    have nd0 : H d = none := e1.free (e2.free nd)
    have s03 := (e1.trans e2).trans e3
    have hd3 : (upd H2 d (.dT [])) d = some (.dT []) := upd_same
    generalize (upd H2 d (.dT [])) = H3 at *
    have hlw := hL.2.len
    -- what stands after some steps
    have W : ∃ W : List Wk → List Step → St → Hp → Prop, W = fun (done : List Wk) (ss : List Step) (σ' : St) (H' : Hp) => ∃ u5 u6 kvs, σ' = [some (.ref h), some (.ref L), some (.ref x), some (.ref y), some (.ref d), u5, u6] ∧ Same H H' ∧ H' x = some (.lst (as.map V.ref)) ∧ H' y = some (.lst ((leftZ ps done).map V.int)) ∧ H' d = some (.dT kvs) ∧ Tally kvs ss := ⟨_, rfl⟩
    refine q_forL (p := L) (xs := was.map V.ref) (by kbo_bools) (SqL.of (s03 _ _ hL.1)) (fun i σ' H' => ∃ u5 u6 kvs, σ' = [some (.ref h), some (.ref L), some (.ref x), some (.ref y), some (.ref d), u5, u6] ∧ Same H H' ∧ H' x = some (.lst (as.map V.ref)) ∧ H' y = some (.lst ((leftZ ps (wks.take i)).map V.int)) ∧ H' d = some (.dT kvs) ∧ Tally kvs (allS (wks.take i)))
      ⟨none, none, [], rfl, s03, hx3, by rw [List.take_zero, left_nil]; exact hy3, hd3, Tally.nil⟩ (fun i σ' H' _ ⟨_, _, _, _, e, _⟩ => SqL.of (e _ _ hL.1)) ?_ ?_
    · rintro i v σ' H' hi ⟨u5, u6, kvs, rfl, e4, hx4, hy4, hd4, hT⟩
      obtain ⟨a, sl, bs, w, rfl, _, hw, hwm, hwk⟩ := wks_item (hL.2.same e4) hi
      obtain ⟨⟨hr1, hr2⟩, hss⟩ := hok w hwm
      have hll := left_len ps (wks.take i)
      have hr0 : w.1 - 1 < (leftZ ps (wks.take i)).length := by omega
      refine g_name ?_
      refine q_setL (l := y) hy4 (v := .int ((leftZ ps (wks.take i)).getD (w.1 - 1).toNat 0 - 1)) (v_I0 (v_ixL (v_var rfl) (v_I0 (v_ixT (p := a) (v_var rfl) v_c hwk.1 rfl) v_c) (SqL.of hy4) (at_ints (by omega) hr0)) v_c) (v_var rfl) (v_I0 (v_ixT (p := a) (v_var rfl) v_c hwk.1 rfl) v_c) (ix_nn (by omega) (by rw [List.length_map]; omega)) ?_
      have hwt : wks.take (i + 1) = wks.take i ++ [w] := take_snoc hw
      have hy5 : (leftZ ps (wks.take i)).set (w.1 - 1).toNat ((leftZ ps (wks.take i)).getD (w.1 - 1).toNat 0 - 1) = leftZ ps (wks.take (i + 1)) := by
        rw [hwt]
        exact left_put ps _ w (by omega) (by omega)
      have e5 : Same H (upd H' y (.lst (((leftZ ps (wks.take i)).map V.int).set (w.1 - 1).toNat (.int ((leftZ ps (wks.take i)).getD (w.1 - 1).toNat 0 - 1))))) := same_mut e4 ny0
      have hx5 : (upd H' y (.lst (((leftZ ps (wks.take i)).map V.int).set (w.1 - 1).toNat (.int ((leftZ ps (wks.take i)).getD (w.1 - 1).toNat 0 - 1))))) x = some (.lst (as.map V.ref)) := by
        rw [upd_ne hxy]
        exact hx4
      have hd5 : (upd H' y (.lst (((leftZ ps (wks.take i)).map V.int).set (w.1 - 1).toNat (.int ((leftZ ps (wks.take i)).getD (w.1 - 1).toNat 0 - 1))))) d = some (.dT kvs) := by
        rw [upd_ne (ne_of hd4 hy4 (by intro z; cases z))]
        exact hd4
      have hy6 : (upd H' y (.lst (((leftZ ps (wks.take i)).map V.int).set (w.1 - 1).toNat (.int ((leftZ ps (wks.take i)).getD (w.1 - 1).toNat 0 - 1))))) y = some (.lst ((leftZ ps (wks.take (i + 1))).map V.int)) := by
        rw [upd_same, ← hy5, List.map_set]
      generalize (upd H' y (.lst (((leftZ ps (wks.take i)).map V.int).set (w.1 - 1).toNat (.int ((leftZ ps (wks.take i)).getD (w.1 - 1).toNat 0 - 1))))) = H5 at *
      have hwk5 : WalkAt H5 a sl bs w.1 w.2 := by
        obtain ⟨a2, sl2, bs2, w2, ea2, _, hw2, _, hwk2⟩ := wks_item (hL.2.same e5) hi
        cases ea2
        rw [hw] at hw2
        cases hw2
        have h1 := hwk.1
        obtain ⟨a3, ha3, ⟨sl3, bs3, h3⟩⟩ := All2.get hL.2 hw
        have ha4 : a3 = a := by
          rw [List.getElem?_map, ha3] at hi
          simpa using hi
        subst ha4
        have := (h3.same e4).1.symm.trans hwk.1
        cases this
        have := (h3.same e4).2.1.symm.trans hwk.2.1
        have hbb : bs3 = bs := by
          have := Option.some.inj this
          injection this with this
          exact map_ref_inj this
        subst hbb
        exact h3.same e5
      refine s_forL (p := sl) (xs := bs.map V.ref) (v_ixT (p := a) (v_var rfl) v_c hwk5.1 rfl) (SqL.of hwk5.2.1) (fun j σ' H' => ∃ u6 kvs, σ' = [some (.ref h), some (.ref L), some (.ref x), some (.ref y), some (.ref d), some (.ref a), u6] ∧ Same H H' ∧ WalkAt H' a sl bs w.1 w.2 ∧ H' x = some (.lst (as.map V.ref)) ∧ H' y = some (.lst ((leftZ ps (wks.take (i + 1))).map V.int)) ∧ H' d = some (.dT kvs) ∧ Tally kvs (allS (wks.take i) ++ w.2.take j))
        ⟨u6, kvs, rfl, e5, hwk5, hx5, hy6, hd5, by rw [List.take_zero, List.append_nil]; exact hT⟩ (fun j σ' H' _ ⟨_, _, _, _, z, _⟩ => SqL.of z.2.1) ?_ ?_
      · rintro j v σ' H6 hj ⟨u6, kvs, rfl, e6, hwk6, hx6, hy6, hd6, hT6⟩
        obtain ⟨b, s, rfl, hs, hsm, hb⟩ := steps_item hwk6.2.2 hj
        have hkl : kvs.length ≤ 1000000 := by
          have h1 := hT6.len
          have h2 := allS_take_len (i + 1) hsz
          rw [hwt, allS_snoc, List.length_append] at h2
          rw [List.length_append] at h1
          have := List.length_take_le' j w.2
          omega
        refine g_name ?_
        refine s_dput (d := d) (b := b) (k := kS s) (v := .int (((allS (wks.take i) ++ w.2.take j).count s : Int) + 1)) (v_I0 ?_ v_c) (v_var rfl) hd6 (v_var rfl) hb hkl ?_
        · rw [← hT6.getD s]
          exact v_dget2 (v_var rfl) hd6 (v_var rfl) hb v_c
        · have kp : ∀ c o, H6 c = some o → c ≠ d → (upd H6 d (.dT (putK kvs (kS s) (.int (((allS (wks.take i) ++ w.2.take j).count s : Int) + 1))))) c = some o := fun c o hc hcd => by rw [upd_ne hcd]; exact hc
          refine ⟨_, _, rfl, same_mut e6 nd0, ?_, kp _ _ hx6 (ne_of hx6 hd6 (by intro z; cases z)), kp _ _ hy6 (ne_of hy6 hd6 (by intro z; cases z)), upd_same, ?_⟩
          · refine ⟨kp _ _ hwk6.1 (ne_of hwk6.1 hd6 (by intro z; cases z)), kp _ _ hwk6.2.1 (ne_of hwk6.2.1 hd6 (by intro z; cases z)), All2.imp hwk6.2.2 fun c t hc => ?_⟩
            have hc : H6 c = some (.tup [.int t.1, .int t.2]) := hc
            exact kp _ _ hc (ne_of hc hd6 (by intro z; cases z))
          · rw [take_snoc hs, ← List.append_assoc]
            exact hT6.put s
      · rintro σ' H6 ⟨u6, kvs, rfl, e6, hwk6, hx6, hy6, hd6, hT6⟩
        refine ⟨_, _, kvs, rfl, e6, hx6, hy6, hd6, ?_⟩
        rw [List.length_map, hwk6.2.2.len, List.take_length] at hT6
        rw [hwt, allS_snoc]
        exact hT6
    · rintro σ' H' ⟨u5, u6, kvs, rfl, e4, hx4, hy4, hd4, hT⟩
      rw [List.length_map, hlw, List.take_length] at hy4 hT
      refine q_when (a_minNeg (y := y) (ns := leftZ ps wks) (by kbo_bools) (SqL.of hy4) (by rw [left_len]; omega)) (fun hb => ?_) (fun hb => ?_)
      · rw [left_neg] at hb
        refine s_ret v_c ?_
        have hb : roomsOk ps wks = false := by simpa using hb
        have := q H' e4
        rw [hb] at this
        exact this
      · rw [left_neg] at hb
        have hb : roomsOk ps wks = true := by simpa using hb
        have hW4 : WaysAt H' as ws := by
          obtain ⟨_, _, _, hI⟩ := hH
          exact hI.ws.same e4
        have hvalid : ∀ s ∈ allS wks, 0 ≤ s.2 ∧ s.2 < ws.length := by
          intro s hs
          simp only [allS, List.mem_flatten, List.mem_map] at hs
          obtain ⟨ss, ⟨w, hw, rfl⟩, hs⟩ := hs
          exact (hok w hw).2 s hs
        have hlen := hT.len
        refine s_retG (v := .bl (!PyData.eqv (stepsD ((kvs.filter (wideOf ws (allS wks))).map fun kv => stepOf kv.1)) (.list []))) (g_neDH (P := fun v H2 => ∃ E bs, v = .ref E ∧ Same H' H2 ∧ H2 E = some (.lst (bs.map V.ref)) ∧ StepsAt H2 bs ((kvs.filter (wideOf ws (allS wks))).map fun kv => stepOf kv.1))
          (ValH.imp (h_lcKT (d := d) (kvs := kvs) (wideOf ws (allS wks)) (fun kv x H2 => ∃ q, x = .ref q ∧ StepAt H2 q (stepOf kv.1)) ?_ hd4 (by omega) (fun od => v_var rfl) (fun _ => rfl) ?_ ?_) ?_) (fun v H2 hv => ?_) (shaped_steps _) shaped_nil) (fun H2 e2 => ?_)
        · rintro kv v H1 H2 ⟨q, e, hq⟩ hk
          exact ⟨q, e, hk _ _ hq⟩
        · rintro od ⟨k, v⟩ b H2 hk e2 hb
          obtain ⟨s, hs, e⟩ := hT.key _ hk
          have e : k = kS s := e
          subst e
          have hb : H2 b = some (.tup [.int s.1, .int s.2]) := hb
          have hv := hvalid s hs
          have W2 : WaysAt (upd H' d (.frz od (.dT kvs))) as ws := All2.imp hW4 fun c t hc => by
            have hc : H' c = some (.tup (wayV t)) := hc
            show (upd H' d _) c = _
            rw [upd_ne (ne_of hc hd4 (by intro z; cases z))]
            exact hc
          obtain ⟨c, hc1, hc2⟩ := ways_get (W2.same e2) hv.1 hv.2
          have hx5 : H2 x = some (.lst (as.map V.ref)) := e2 _ _ (by rw [upd_ne (ne_of hx4 hd4 (by intro z; cases z))]; exact hx4)
          refine ag_of (Ans.to (a_I0 (i := ((allS wks).count s : Int)) (j := (wayAtZ ws s.2).w) (v_dgetF (d := d) (k := kS s) (v_var rfl) (e2 _ _ upd_same) (v_var rfl) hb (hT.get s hs)) (v_ixT (p := c) (v_ixL (p := x) (i := s.2) (v_var rfl) (v_ixT (p := b) (v_var rfl) v_c hb rfl) (SqL.of hx5) hc1) v_c hc2 rfl)) ?_)
          rfl
        · rintro od ⟨k, v⟩ b H2 hk _ e2 hb
          obtain ⟨s, hs, e⟩ := hT.key _ hk
          have e : k = kS s := e
          subst e
          exact ValH.imp (Val.h' (v_var rfl)) (by
            rintro v H3 ⟨rfl, rfl⟩
            exact ⟨Same.refl _, b, rfl, hb⟩)
        · rintro v H2 ⟨E, acc, rfl, hE, e2, hacc, hA⟩
          obtain ⟨bs, rfl, hbs⟩ := acc_steps (kvs := kvs) hA
          exact ⟨E, bs, rfl, e2, hacc, hbs⟩
        · obtain ⟨E, bs, rfl, e2, h1, h2⟩ := hv
          exact ⟨e2, ValH.imp h_nil fun y H3 z => ⟨z.1, dp_steps (z.1 _ _ h1) (h2.same z.1), z.2⟩⟩
        · rw [eqv_steps_nil, wide_eq hT]
          have := q H2 (e4.trans e2)
          rw [hb, Bool.true_and] at this
          exact this
end
theorem All2.zip_map {α β γ : Type} {R : α → β → Prop} (f : α → γ) : ∀ {as : List α} {bs : List β}, All2 R as bs → (as.zip bs).map (fun x => f x.1) = as.map f
  | _, _, .nil => rfl
  | _, _, .cons _ t => by
    rw [List.zip_cons_cons, List.map_cons, List.map_cons, All2.zip_map f t]
theorem All2.zip_snd {α β γ : Type} {R : α → β → Prop} (f : β → γ) : ∀ {as : List α} {bs : List β}, All2 R as bs → (as.zip bs).map (fun x => f x.2) = bs.map f
  | _, _, .nil => rfl
  | _, _, .cons _ t => by
    rw [List.zip_cons_cons, List.map_cons, List.map_cons, All2.zip_snd f t]
theorem All2.zip_mem {α β : Type} {R : α → β → Prop} {x : α × β} : ∀ {as : List α} {bs : List β}, All2 R as bs → x ∈ as.zip bs → R x.1 x.2
  | _, _, .nil, h => by simp at h
  | _, _, .cons r t, h => by
    rw [List.zip_cons_cons] at h
    rcases List.mem_cons.mp h with h | h
    · rw [h]
      exact r
    · exact All2.zip_mem t h
theorem eqv_step (a b : Step) : PyData.eqv (stepD a) (stepD b) = decide (a = b) := by
  obtain ⟨a1, a2⟩ := a
  obtain ⟨b1, b2⟩ := b
  simp only [stepD, PyData.eqv, PyData.eqvAll]
  rw [Bool.eq_iff_iff]
  simp
theorem count_steps (ss : List Step) (s : Step) : ((ss.map stepD).countP fun z => PyData.eqv z (stepD s)) = ss.count s := by
  rw [List.countP_map, List.count]
  congr 1
  funext t
  show PyData.eqv (stepD t) (stepD s) = (t == s)
  rw [eqv_step, Bool.eq_iff_iff]
  simp
theorem shaped_step (s : Step) : SeqAt.shaped (stepD s) = true := by
  simp [SeqAt.shaped, stepD, PyData.canLay0, PyData.canLayAll0, PyData.depth, PyData.depthAll]
theorem inV_bools (rs : List Int) (f : Int → Bool) : (!inV (.bl false) (rs.map fun r => V.bl (f r))) = rs.all f := by
  unfold inV
  induction rs with
  | nil => rfl
  | cons r rs ih =>
    rw [List.map_cons, List.any_cons, List.all_cons, ← ih]
    cases h : f r
    · rfl
    · rfl
theorem rooms_eq {ps : List Int} {wks : List Wk} (hp : ∀ x ∈ ps, countOk x = true) (hw : ∀ w ∈ wks, 1 ≤ w.1 ∧ w.1 ≤ (ps.length : Int)) : ((wks.map (·.1)).all fun r => decide (((wks.map (·.1)).count r : Int) ≤ ps.getD (r - 1).toNat 0)) = roomsOk ps wks := by
  rw [Bool.eq_iff_iff, roomsOk, List.all_eq_true, List.all_eq_true]
  constructor
  · intro h k hk
    rw [List.mem_range] at hk
    by_cases hm : ((k : Int) + 1) ∈ wks.map (·.1)
    · have := h _ hm
      have e : ((k : Int) + 1 - 1).toNat = k := by omega
      rw [e] at this
      exact this
    · rw [List.count_eq_zero_of_not_mem hm]
      have := hp (ps.getD k 0) (by rw [List.getD_eq_getElem?_getD, List.getElem?_eq_getElem hk]; exact List.getElem_mem _)
      simp only [countOk, decide_eq_true_eq] at this ⊢
      omega
  · intro h r hr
    obtain ⟨w, hw1, rfl⟩ := List.mem_map.mp hr
    have hb := hw w hw1
    have := h (w.1 - 1).toNat (List.mem_range.mpr (by omega))
    have e : (((w.1 - 1).toNat : Nat) : Int) + 1 = w.1 := by omega
    rw [e] at this
    exact this
section
variable {K : PySem.W.Frag} {σ : St} {H : Hp} {ta tb te : TE} {D : Ends}
theorem g_notV {a : Bool} (h : GV te σ H (.bl a)) : GV (tNotV te) σ H (.bl (!a)) := fun Q q => h _ fun H1 e1 => ⟨a, rfl, q H1 e1⟩
theorem s_extend {l b : Addr} {xs zs : List V} (hl : H l = some (.lst xs)) (ha : Val ta σ H (.ref l)) (hb : Val tb σ H (.ref b)) (hz : H b = some (.lst zs)) (hs : xs.length + zs.length ≤ 1000000) (k : D.nx σ (upd H l (.lst (xs ++ zs)))) :
    tDrop (tBM K "list" rExtend ta (tCons tb tNil)) D σ H := ha _ ⟨.inl ⟨rfl, _, SqL.of hl⟩, hb _ ⟨l, b, xs, zs, rfl, rfl, hl, hz, sz_ok hs, k⟩⟩
theorem s_setCallS {n : Nat} {tr : TA} {vs : List V} {sp : Sp} {E : St → XK} (ht : AV tr σ H vs)
   (hs : sp vs H (fun v H2 => D.nx (σ.set n (some v)) H2) (E σ)) : tAsg (tCallS sp E tr) (gName n) D σ H := ht _ hs
end
theorem wks_get {H H' : Hp} {L : Addr} {was : List Addr} {wks : List Wk} {i : Nat} {v : V} (h : PlanIn H L was wks) (e : Same H H') (hi : (was.map V.ref)[i]? = some v) : ∃ a sl bs w, v = .ref a ∧ wks[i]? = some w ∧ w ∈ wks ∧ WalkAt H a sl bs w.1 w.2 ∧ WalkAt H' a sl bs w.1 w.2 := by
  obtain ⟨a, sl, bs, w, h1, _, h2, h3, h4⟩ := wks_item h.2 hi
  exact ⟨a, sl, bs, w, h1, h2, h3, h4, h4.same e⟩
section
variable {P : Program} {w : World} {K : PySem.W.Frag} {mg : Str → Option Value} {base : Heap} {C : Cs}
abbrev N_holds : List PySem.Str := ["house", "walks", "minutes", "walk", "now"]
theorem sc_holds : FnScope N_holds ["house", "walks", "minutes"] (defScope s_holds) := ⟨rfl, rfl, rfl, by decide +kernel, rfl, by decide +kernel, by decide +kernel⟩
theorem c_holds {f fd} (D : FnP K "holds" "holds" s_holds f fd) (hm : mg "holds" = some (.ref f)) (G : Bn mg) (g_NoWalk : mg "NoWalk" = some (.ref C.NoWalk)) (mx_NoWalk_NoWalk : PySem.W.exmOne K (.ref C.NoWalk) (.ref C.NoWalk) = some true) (c_narrow : Cal P w K mg base CX0 2 "narrow" (sp_narrow K C)) (c_outside_at : Cal P w K mg base (L2.CX P w) 2 "outside_at" (sp_outside_at K C)) : Cal P w K mg base CX0 3 "holds" (sp_holds K C) := by
  refine cal_of D hm (D.ok sc_holds (fun vs H Q E h => ?_) (fun cdv A outer s H vs Q E hr h => ?_)) (fun _ _ _ _ _ _ us hl => match us, hl with | [_, _, _], _ => rfl)
  · obtain ⟨h, L, as, was, ps, ws, T, wks, rfl, hH, hp1, hL, hsz, q⟩ := h
    rfl
  · obtain ⟨h, L, as, was, ps, ws, T, wks, rfl, hH, hp1, hL, hsz, q⟩ := h
    have hu := hu_of hr
    refine ⟨_, PSs.nox (pss_cons (ps_for PassesOwn.never rfl (pi_listK (K := K) rfl (pv 1)) (pg_name (i := 3) sc_holds.nd rfl (Or.inl rfl))
          (pss_cons (ps_try_only (Wout := fun _ _ _ _ => False) rfl rfl ⟨rfl, by decide, Or.inl g_NoWalk⟩ takes0
              (fun W pn xe tk _ => (pss_one (ps_set (i := 4) sc_holds.nd rfl (Or.inl rfl) (pe_cS c_outside_at hr (by decide) (fun σ => passAt tk σ) rfl (pa_cons (pv 0) (pa_cons (pv 3) pa_nil))))))
              (fun a oe cls d pn _ _ => (pss_one (ps_ret pe_bl))))
            (pss_one (ps_if (pt_cmpR op_gt (pv 4) (pv 2) (nomark _))
              (pss_one (ps_ret pe_bl))
              pss_nil))))
        (pss_one (ps_ret (pe_not (pe_c c_narrow hr (by decide) pass0 rfl (pa_cons (pv 0) (pa_cons (pv 1) pa_nil))))))), ?_⟩
    have hlw := hL.2.len
    refine q_forL (p := L) (xs := was.map V.ref) (by kbo_bools) (SqL.of hL.1) (fun i σ' H' => ∃ u3 u4, σ' = [some (.ref h), some (.ref L), some (.int T), u3, u4] ∧ Same H H' ∧ ∀ k w, k < i → wks[k]? = some w → endOk ps.length ws T w = true)
      ⟨none, none, rfl, Same.refl _, fun k w hk => by omega⟩ (fun i σ' H' _ ⟨_, _, _, e, _⟩ => SqL.of (e _ _ hL.1)) ?_ ?_
    · rintro i v σ' H1 hi ⟨u3, u4, rfl, e1, hk⟩
      obtain ⟨a, sl, bs, w, rfl, hw, hwm, _, hwk⟩ := wks_get hL e1 hi
      have bad : endOk ps.length ws T w = false → holdsZ ps ws T wks = false := fun hb => by
        have : wks.all (endOk ps.length ws T) = false := by
          rw [List.all_eq_false]
          exact ⟨w, hwm, by rw [hb]; exact Bool.false_ne_true⟩
        rw [holdsZ, this, Bool.false_and]
      refine g_name ?_
      refine q_seq ?_
      refine s_setCallS (vs := [.ref h, .ref a]) (av_cons (v_var rfl) (av_cons (v_var rfl) av_nil)) ?_
      refine ⟨h, a, sl, as, bs, ps, ws, w.1, w.2, rfl, hH.same e1, hwk, fun t ht H2 e2 => ?_, fun hno H2 e2 => ?_⟩
      · show tIfS (tTest (tOp (rI0 fun i j => .bl (decide (j < i))) (tVar 4) (tVar 2))) (tRet (tC (.bl false))) tNext _ _ _
        refine s_if (b := decide (T < t)) (a_I0 (v_var rfl) (v_var rfl)) (fun hb => ?_) (fun hb => ?_)
        · refine s_ret v_c ?_
          have := q H2 (e1.trans e2)
          rw [bad (by rw [endOk, ht]; simp at hb ⊢; omega)] at this
          exact this
        · refine ⟨_, _, rfl, e1.trans e2, fun k y hk2 hy => ?_⟩
          by_cases hki : k = i
          · subst hki
            rw [hw] at hy
            cases hy
            rw [endOk, ht]
            simp at hb ⊢
            omega
          · exact hk k y (by omega) hy
      · refine ⟨true, mx_NoWalk_NoWalk, fun _ b hb => ?_, fun z => nomatch z⟩
        refine s_ret v_c ?_
        have := q H2 (e1.trans e2)
        rw [bad (by rw [endOk, hno])] at this
        exact this
    · rintro σ' H1 ⟨u3, u4, rfl, e1, hk⟩
      rw [List.length_map, hlw] at hk
      have hall : ∀ w ∈ wks, endOk ps.length ws T w = true := by
        intro w hw
        obtain ⟨i, hi⟩ := List.getElem?_of_mem hw
        exact hk i w (List.getElem?_eq_some_iff.mp hi).1 hi
      have hok : ∀ w ∈ wks, (1 ≤ w.1 ∧ w.1 ≤ ps.length) ∧ ∀ s ∈ w.2, 0 ≤ s.2 ∧ s.2 < ws.length := by
        intro w hw
        have := hall w hw
        unfold endOk at this
        cases e : endZ ps.length ws w.1 w.2 with
        | none =>
          rw [e] at this
          cases this
        | some t => exact end_ok e
      refine s_retG (v := .bl (!(!(roomsOk ps wks && widthOk ws (allS wks))))) (g_notV (g_call (vs := [.ref h, .ref L]) (by kxs_still) fun Q q => ⟨h, L, as, was, ps, ws, wks, rfl, hH.same e1, hp1, hL.same e1, hok, hsz, q⟩)) fun H2 e2 => ?_
      have := q H2 (e1.trans e2)
      rw [holdsZ, List.all_eq_true.mpr hall, Bool.true_and] at this
      rw [Bool.not_not]
      exact this
abbrev N_law_holds : List PySem.Str := ["plot", "walks", "minutes", "walk", "end", "steps", "step", "rooms", "room"]
theorem sc_law_holds : FnScope N_law_holds ["plot", "walks", "minutes"] (defScope s_law_holds) := ⟨rfl, rfl, rfl, by decide +kernel, rfl, by decide +kernel, by decide +kernel⟩
theorem c_law_holds {f fd} (D : FnP K "_law_holds" "_law_holds" s_law_holds f fd) (hm : mg "_law_holds" = some (.ref f)) (G : Bn mg) (c_law_end : Cal P w K mg base CX0 1 "_law_end" (sp_law_end K C)) : Cal P w K mg base CX0 2 "_law_holds" (sp_law_holds K C) := by
  refine cal_of D hm (D.ok sc_law_holds (fun vs H Q E h => ?_) (fun cdv A outer s H vs Q E hr h => ?_)) (fun _ _ _ _ _ _ us hl => match us, hl with | [_, _, _], _ => rfl)
  · obtain ⟨p, pl, wl, L, as, was, ps, ws, T, wks, rfl, hP, hok, hL, hsz0, hsz, q⟩ := h
    rfl
  · obtain ⟨p, pl, wl, L, as, was, ps, ws, T, wks, rfl, hP, hok, hL, hsz0, hsz, q⟩ := h
    have hu := hu_of hr
    refine ⟨_, PSs.nox (pss_cons (ps_for PassesOwn.never rfl (pi_listK (K := K) rfl (pv 1)) (pg_name (i := 3) sc_law_holds.nd rfl (Or.inl rfl))
          (pss_cons (ps_set (i := 4) sc_law_holds.nd rfl (Or.inl rfl) (pe_c c_law_end hr (by decide) pass0 rfl (pa_cons (pv 0) (pa_cons (pv 3) pa_nil))))
            (pss_one (ps_if (PW.pt (pw_or (pt_cmpR op_isN (pv 4) pe_non (nomark _)) (pw_or1 (pt_cmpR op_gt (pv 4) (pv 2) (nomark _)))))
              (pss_one (ps_ret pe_bl))
              pss_nil))))
        (pss_cons (ps_set (i := 5) sc_law_holds.nd rfl (Or.inl rfl) (pe_lst pa_nil))
        (pss_cons (ps_for PassesOwn.never rfl (pi_listK (K := K) rfl (pv 1)) (pg_name (i := 3) sc_law_holds.nd rfl (Or.inl rfl))
          (pss_one (ps_expr (pe_bmK (K := K) rfl PySem.F.plainAttrs_list PySem.F.slot_list_extend PySem.F.type_list_extend mt_extend (pv 5) (pa_cons (pe_ix (ix_tupK (K := K) rfl) (pv 3) pe_int (fun _ _ => rfl)) pa_nil)))))
        (pss_cons (ps_for PassesOwn.never rfl (pi_listK (K := K) rfl (pv 5)) (pg_name (i := 6) sc_law_holds.nd rfl (Or.inl rfl))
          (pss_one (ps_if (pt_cmpR op_gt (pe_bmK (K := K) rfl PySem.F.plainAttrs_list PySem.F.slot_list_count PySem.F.type_list_count (mt_countD (K := K) rfl (room65 hr)) (pv 5) (pa_cons (pv 6) pa_nil)) (pe_ix (ix_tupK (K := K) rfl) (pe_ix (ix_listK (K := K) rfl) (pe_ix (ix_tupK (K := K) rfl) (pv 0) pe_int (fun _ _ => rfl)) (pe_ix (ix_tupK (K := K) rfl) (pv 6) pe_int (fun _ _ => rfl)) (fun _ _ => rfl)) pe_int (fun _ _ => rfl)) (nomark _))
              (pss_one (ps_ret pe_bl))
              pss_nil)))
        (pss_cons (ps_set (i := 7) sc_law_holds.nd rfl (Or.inr rfl) (pe_lc (own := [("walk", 3)]) (g := gName 3) rfl sc_law_holds.nd (pi_listK (K := K) rfl (pv 1)) (blkOk_by (own := [("walk", 3)]) (N := N_law_holds) (sc := defScope s_law_holds) (by decide +kernel)) (fun _ _ _ _ _ => pg_name (i := 3) sc_law_holds.nd rfl (Or.inl rfl)) (fun _ _ _ _ _ => pts_nil) (fun _ _ _ _ _ => (pe_ix (ix_tupK (K := K) rfl) (pv 3) pe_int (fun _ _ => rfl)))))
        (pss_one (ps_ret (pe_cmpR (op_notIn_seqK (K := K) rfl) pe_bl (pe_lc (own := [("room", 8)]) (g := gName 8) rfl sc_law_holds.nd (pi_listK (K := K) rfl (pv 7)) (blkOk_by (own := [("room", 8)]) (N := N_law_holds) (sc := defScope s_law_holds) (by decide +kernel)) (fun _ _ _ _ _ => pg_name (i := 8) sc_law_holds.nd rfl (Or.inl rfl)) (fun _ _ _ _ _ => pts_nil) (fun _ _ _ _ _ => (pe_cmpR op_le (pe_bmK (K := K) rfl PySem.F.plainAttrs_list PySem.F.slot_list_count PySem.F.type_list_count (mt_lcountK (K := K) rfl) (pv 7) (pa_cons (pv 8) pa_nil)) (pe_ix (ix_listK (K := K) rfl) (pe_ix (ix_tupK (K := K) rfl) (pv 0) pe_int (fun _ _ => rfl)) (pe_op op_sub (pv 8) pe_int) (fun _ _ => rfl)) (nomark _)))) (by rfl))))))))), ?_⟩
    have hlw := hL.2.len
    have hpk := (houseOk_iff.mp hok).2.1
    refine q_forL (p := L) (xs := was.map V.ref) (by kbo_bools) (SqL.of hL.1) (fun i σ' H' => ∃ u3 u4, σ' = [some (.ref p), some (.ref L), some (.int T), u3, u4, none, none, none, none] ∧ H' = H ∧ ∀ k w, k < i → wks[k]? = some w → endOk ps.length ws T w = true)
      ⟨none, none, rfl, rfl, fun k w hk => by omega⟩ (fun i σ' H' _ ⟨_, _, _, e, _⟩ => by rw [e]; exact SqL.of hL.1) ?_ ?_
    · rintro i v σ' H1 hi ⟨u3, u4, rfl, rfl, hk⟩
      obtain ⟨a, sl, bs, w, rfl, hw, hwm, hwk, _⟩ := wks_get hL (Same.refl _) hi
      have bad : endOk ps.length ws T w = false → holdsZ ps ws T wks = false := fun hb => by
        have : wks.all (endOk ps.length ws T) = false := by
          rw [List.all_eq_false]
          exact ⟨w, hwm, by rw [hb]; exact Bool.false_ne_true⟩
        rw [holdsZ, this, Bool.false_and]
      have nxt : endOk ps.length ws T w = true → ∀ k y, k < i + 1 → wks[k]? = some y → endOk ps.length ws T y = true := fun h k y hk2 hy => by
        by_cases hki : k = i
        · subst hki
          rw [hw] at hy
          cases hy
          exact h
        · exact hk k y (by omega) hy
      refine g_name ?_
      refine q_set (v := optV (endZ ps.length ws w.1 w.2)) (v_call (vs := [.ref p, .ref a]) (av_cons (v_var rfl) (av_cons (v_var rfl) av_nil)) fun Q q => ⟨p, pl, wl, a, sl, as, bs, ps, ws, w.1, w.2, rfl, hP, hwk, q⟩) ?_
      cases he : endZ ps.length ws w.1 w.2 with
      | none =>
        refine s_if (b := decide (V.non = V.non) || false) (a_or (a_test (v_isN (x := .non) (v_var rfl))) fun hb => by simp at hb) (fun hb => ?_) (fun hb => by simp at hb)
        refine s_ret v_c ?_
        have := q H1 (Same.refl _)
        rw [bad (by rw [endOk, he])] at this
        exact this
      | some t =>
        refine s_if (b := decide (V.int t = V.non) || decide (T < t)) (a_or (a_test (v_isN (x := .int t) (v_var rfl))) fun hb => a_I0 (i := t) (v_var rfl) (v_var rfl)) (fun hb => ?_) (fun hb => ?_)
        · refine s_ret v_c ?_
          have := q H1 (Same.refl _)
          rw [bad (by rw [endOk, he]; simp at hb ⊢; omega)] at this
          exact this
        · exact ⟨_, _, rfl, rfl, nxt (by rw [endOk, he]; simp at hb ⊢; omega)⟩
    rintro σ' H1 ⟨u3, u4, rfl, rfl, hk⟩
    rw [List.length_map, hlw] at hk
    have hall : ∀ w ∈ wks, endOk ps.length ws T w = true := by
      intro w hw
      obtain ⟨i, hi⟩ := List.getElem?_of_mem hw
      exact hk i w (List.getElem?_eq_some_iff.mp hi).1 hi
    have hval : ∀ w ∈ wks, (1 ≤ w.1 ∧ w.1 ≤ ps.length) ∧ ∀ s ∈ w.2, 0 ≤ s.2 ∧ s.2 < ws.length := by
      intro w hw
      have := hall w hw
      unfold endOk at this
      cases e : endZ ps.length ws w.1 w.2 with
      | none =>
        rw [e] at this
        cases this
      | some t => exact end_ok e
    have hq : holdsZ ps ws T wks = (roomsOk ps wks && widthOk ws (allS wks)) := by rw [holdsZ, List.all_eq_true.mpr hall, Bool.true_and]
    rw [hq] at q
    have hvalid : ∀ s ∈ allS wks, 0 ≤ s.2 ∧ s.2 < ws.length := by
      intro s hs
      simp only [allS, List.mem_flatten, List.mem_map] at hs
      obtain ⟨ss, ⟨w, hw, rfl⟩, hs⟩ := hs
      exact (hval w hw).2 s hs
    -- the steps
    refine q_setH (h_lst (xs := []) (by kxs_still) (by show 0 ≤ sizeLine; decide)) ?_
    rintro v H2 ⟨st, rfl, nst, rfl⟩
    refine q_forL (p := L) (xs := was.map V.ref) (by kbo_bools) (SqL.of (same_upd nst _ _ hL.1)) (fun i σ' H' => ∃ u3 sts, σ' = [some (.ref p), some (.ref L), some (.int T), u3, u4, some (.ref st), none, none, none] ∧ Same H1 H' ∧ H' st = some (.lst (sts.map V.ref)) ∧ StepsAt H' sts (allS (wks.take i)))
      ⟨u3, [], rfl, same_upd nst, upd_same, by rw [List.take_zero]; exact .nil⟩ (fun i σ' H' _ ⟨_, _, _, e, _⟩ => SqL.of (e _ _ hL.1)) ?_ ?_
    · rintro i v σ' H2 hi ⟨u3, sts, rfl, e2, hst, hSt⟩
      obtain ⟨a, sl, bs, w, rfl, hw, hwm, _, hwk⟩ := wks_get hL e2 hi
      refine g_name ?_
      have h1 := hSt.len
      have h2 := allS_take_len (i + 1) hsz
      rw [take_snoc hw, allS_snoc, List.length_append] at h2
      have h3 := hwk.2.2.len
      refine s_extend (l := st) (b := sl) hst (v_var rfl) (v_ixT (p := a) (v_var rfl) v_c hwk.1 rfl) hwk.2.1 (by rw [List.length_map, List.length_map]; omega) ⟨_, sts ++ bs, rfl, same_mut e2 nst, by rw [upd_same, List.map_append], ?_⟩
      rw [take_snoc hw, allS_snoc]
      exact StepsAt.updL (All2.append hSt hwk.2.2) hst
    rintro σ' H2 ⟨u3, sts, rfl, e2, hst, hSt⟩
    rw [List.length_map, hlw, List.take_length] at hSt
    have hP2 := hP.same e2
    have hW2 := hP2.2.2.2
    have hsl := hSt.len
    refine q_forL (p := st) (xs := sts.map V.ref) (by kbo_bools) (SqL.of hst) (fun i σ' H' => ∃ u6, σ' = [some (.ref p), some (.ref L), some (.int T), u3, u4, some (.ref st), u6, none, none] ∧ H' = H2 ∧ ∀ k s, k < i → (allS wks)[k]? = some s → ((allS wks).count s : Int) ≤ (wayAtZ ws s.2).w)
      ⟨none, rfl, rfl, fun k w hk => by omega⟩ (fun i σ' H' _ ⟨_, _, e, _⟩ => by rw [e]; exact SqL.of hst) ?_ ?_
    · rintro i v σ' H3 hi ⟨u6, rfl, rfl, hk3⟩
      obtain ⟨b, s, rfl, hs, hsm, hb⟩ := steps_item hSt hi
      have hv := hvalid s hsm
      obtain ⟨c, hc1, hc2⟩ := ways_get hW2 hv.1 hv.2
      refine g_name ?_
      refine s_if (b := decide ((wayAtZ ws s.2).w < ((allS wks).count s : Int))) (a_I0 (i := ((allS wks).count s : Int)) (j := (wayAtZ ws s.2).w) ?_ (v_ixT (p := c) (v_ixL (p := wl) (i := s.2) (v_ixT (p := p) (v_var rfl) v_c hP2.1 rfl) (v_ixT (p := b) (v_var rfl) v_c hb rfl) (SqL.of hP2.2.2.1) hc1) v_c hc2 rfl)) (fun hb => ?_) (fun hb => ?_)
      · intro Q q
        refine ⟨_, rfl, .inl ⟨rfl, _, SqL.of hst⟩, _, rfl, st, .ref b, stepD s, (allS wks).map stepD, rfl, rfl, dp_steps hst hSt, .tup (SqT.of hb) (.cons (.int _) (.cons (.int _) .nil)), shaped_steps _, shaped_step _, ?_⟩
        rw [count_steps]
        exact q
      · refine s_ret v_c ?_
        have hb : (wayAtZ ws s.2).w < ((allS wks).count s : Int) := by simpa using hb
        have : widthOk ws (allS wks) = false := by
          rw [widthOk, List.all_eq_false]
          exact ⟨s, hsm, by simp; omega⟩
        have := q H3 e2
        rw [‹widthOk ws (allS wks) = false›, Bool.and_false] at this
        exact this
      · have hb : ¬ (wayAtZ ws s.2).w < ((allS wks).count s : Int) := by simpa using hb
        refine ⟨_, rfl, rfl, fun k y hk2 hy => ?_⟩
        by_cases hki : k = i
        · subst hki
          rw [hs] at hy
          cases hy
          omega
        · exact hk3 k y (by omega) hy
    rintro σ' H3 ⟨u6, rfl, rfl, hk3⟩
    have hwd : widthOk ws (allS wks) = true := by
      rw [widthOk, List.all_eq_true]
      intro s hs
      obtain ⟨i, hi⟩ := List.getElem?_of_mem hs
      have := hk3 i s (by rw [List.length_map, hsl]; exact (List.getElem?_eq_some_iff.mp hi).1) hi
      exact decide_eq_true this
    rw [hwd, Bool.and_true] at q
    have hL3 := hL.same e2
    have ez : (was.zip wks).map (fun x => V.ref x.1) = was.map V.ref := All2.zip_map V.ref hL3.2
    have ez2 : (was.zip wks).map (fun x => x.2.1) = wks.map (·.1) := All2.zip_snd (fun w => w.1) hL3.2
    refine q_setH (h_lcF (was.zip wks) (fun x => V.ref x.1) (fun x => V.int x.2.1) (fun _ => true) (p := L) (by kbo_bools) (by rw [ez]; exact SqL.of hL3.1) (by rw [List.length_zip]; omega) (fun _ => rfl) (fun _ _ _ _ => ag_yes) (fun x H' hx _ e => g_of ?_)) ?_
    · obtain ⟨sl, bs, hwk⟩ := All2.zip_mem hL3.2 hx
      exact v_ixT (p := x.1) (v_var rfl) v_c (e _ _ hwk.1) rfl
    rintro v H4 ⟨rm, rfl, nrm, e4, hrm⟩
    have erm : (((was.zip wks).filter fun _ => true).map fun x => V.int x.2.1) = (wks.map (·.1)).map V.int := by
      rw [List.filter_eq_self.mpr (fun _ _ => rfl), ← ez2, List.map_map]
      rfl
    rw [erm] at hrm
    have hP4 := hP2.same e4
    refine s_retG (v := .bl (!inV (.bl false) (((wks.map (·.1)).filter fun _ => true).map fun r => V.bl (decide (((wks.map (·.1)).count r : Int) ≤ ps.getD (r - 1).toNat 0))))) (g_inN (neg := true) (g_of v_c) (fun H5 e5 => h_lcF (wks.map (·.1)) V.int (fun r => V.bl (decide (((wks.map (·.1)).count r : Int) ≤ ps.getD (r - 1).toNat 0))) (fun _ => true) (p := rm) (by kbo_bools) (SqL.of (e5 _ _ hrm)) (by rw [List.length_map]; omega) (fun _ => rfl) (fun _ _ _ _ => ag_yes) (fun r H6 hr _ e6 => g_of ?_)) rfl (by rw [List.all_map]; exact List.all_eq_true.mpr fun _ _ => rfl)) fun H5 e5 => ?_
    · obtain ⟨w, hw, rfl⟩ := List.mem_map.mp hr
      have hb := (hval w hw).1
      have e56 := e5.trans e6
      refine v_I0 (i := ((wks.map (·.1)).count w.1 : Int)) (j := ps.getD (w.1 - 1).toNat 0) (fun Q q => ⟨_, rfl, .inl ⟨rfl, _, SqL.of (e56 _ _ hrm)⟩, _, rfl, rm, wks.map (·.1), w.1, rfl, rfl, SqL.of (e56 _ _ hrm), q⟩) ?_
      exact v_ixL (p := pl) (i := w.1 - 1) (v_ixT (p := p) (v_var rfl) v_c (e56 _ _ hP4.1) rfl) (v_I0 (v_var rfl) v_c) (SqL.of (e56 _ _ hP4.2.1)) (at_ints (by omega) (by omega))
    · rw [List.filter_eq_self.mpr (fun _ _ => rfl), inV_bools, rooms_eq hpk (fun w hw => (hval w hw).1)]
      exact q H5 ((e2.trans e4).trans e5)
end
/-! ### plans made -/
def PlanV (H : Hp) (B : List Wk → Prop) : V → Hp → Prop := fun v H' => ∃ D was wks, v = .ref D ∧ H D = none ∧ Same H H' ∧ PlanIn H' D was wks ∧ B wks
def PB (n m : Nat) (wks : List Wk) : Prop := wks.length ≤ n ∧ ∀ w ∈ wks, w.2.length ≤ m
theorem PB.all {n m : Nat} : ∀ {wks : List Wk}, PB n m wks → (allS wks).length ≤ wks.length * m
  | [], _ => by simp [allS]
  | w :: wks, h => by
    have h1 : (allS (w :: wks)).length = w.2.length + (allS wks).length := by simp [allS]
    have h2 := PB.all (n := n) (m := m) (wks := wks) ⟨by have := h.1; simp at this; omega, fun x hx => h.2 x (by simp [hx])⟩
    have h3 := h.2 w (by simp)
    rw [h1, List.length_cons, Nat.add_mul]
    omega
theorem PB.size {n m : Nat} {wks : List Wk} (h : PB n m wks) (hn : n ≤ 300) (hm : m ≤ 300) : (allS wks).length ≤ 100000 := by
  have h1 := h.all
  have h2 := h.1
  have : wks.length * m ≤ 300 * 300 := Nat.mul_le_mul (by omega) hm
  omega
theorem All2.pairs {α β : Type} {R : α → β → Prop} : ∀ {l : List (α × β)}, (∀ x ∈ l, R x.1 x.2) → All2 R (l.map (·.1)) (l.map (·.2))
  | [], _ => .nil
  | x :: l, h => .cons (h x (by simp)) (All2.pairs fun y hy => h y (by simp [hy]))
theorem All2.drop {α β : Type} {R : α → β → Prop} : ∀ {as : List α} {bs : List β} (n : Nat), All2 R as bs → All2 R (as.drop n) (bs.drop n)
  | _, _, 0, h => h
  | _, _, _ + 1, .nil => .nil
  | _, _, n + 1, .cons _ t => All2.drop n t
theorem All2.take {α β : Type} {R : α → β → Prop} : ∀ {as : List α} {bs : List β} (n : Nat), All2 R as bs → All2 R (as.take n) (bs.take n)
  | _, _, 0, _ => .nil
  | _, _, _ + 1, .nil => .nil
  | _, _, n + 1, .cons h t => .cons h (All2.take n t)
def planD (wks : List Wk) : PyData := .list (wks.map fun w => walkD w.1 w.2)
theorem dp_all_wks {K : PySem.W.Frag} {H : Hp} : ∀ {as : List Addr} {ws : List Wk}, WksAt H as ws → DpAll K H (as.map V.ref) (ws.map fun w => walkD w.1 w.2)
  | _, _, .nil => .nil
  | _, _, .cons ⟨_, _, h⟩ t => .cons (dp_walk h) (dp_all_wks t)
theorem dp_plan {K : PySem.W.Frag} {H : Hp} {L : Addr} {was : List Addr} {wks : List Wk} (h : PlanIn H L was wks) : Dp K H (.ref L) (planD wks) := .lst (SqL.of h.1) (dp_all_wks h.2)
theorem lay_walk (r : Int) (ss : List Step) : PyData.canLay0 (walkD r ss) = true := by
  simp [PyData.canLay0, PyData.canLayAll0, walkD, stepsD, lay_steps]
theorem dep_walk (r : Int) (ss : List Step) : (walkD r ss).depth ≤ 3 := by
  have h2 := dep_steps ss
  simp [PyData.depthAll, PyData.depth, walkD, stepsD]
  omega
theorem lay_wks : ∀ ws : List Wk, PyData.canLayAll0 (ws.map fun w => walkD w.1 w.2) = true
  | [] => rfl
  | w :: ws => by
    have := lay_wks ws
    simp only [List.map_cons, PyData.canLayAll0, lay_walk, this, Bool.and_self]
theorem dep_wks : ∀ ws : List Wk, PyData.depthAll (ws.map fun w => walkD w.1 w.2) ≤ 3
  | [] => by simp [PyData.depthAll]
  | w :: ws => by
    have := dep_wks ws
    have h2 := dep_walk w.1 w.2
    simp only [List.map_cons, PyData.depthAll]
    omega
theorem shaped_plan (wks : List Wk) : SeqAt.shaped (planD wks) = true := by
  have := dep_wks wks
  simp [SeqAt.shaped, planD, PyData.canLay0, lay_wks, PyData.depth]
  omega
theorem eqv_plan_nil (a : List Wk) : PyData.eqv (planD a) (.list []) = decide (a = []) := by
  cases a <;> simp [planD, PyData.eqv, PyData.eqvAll]
section
variable {K : PySem.W.Frag} {σ : St} {H : Hp} {ta tb te tl' : TE} {L : Addr} {was : List Addr} {wks : List Wk} {B B1 B2 : List Wk → Prop}
theorem ag_plan (ha : Val ta σ H (.ref L)) (h : PlanIn H L was wks) : AG (tTest (tOp (rNeD K) ta (tLst tNil))) σ H (!decide (wks = [])) := by
  rw [← eqv_plan_nil]
  exact ag_test (g_neD (g_of ha) (fun H2 e2 => ValH.imp h_nil fun y H3 z => ⟨z.1, dp_plan ((h.same e2).same z.1), z.2⟩) (shaped_plan _) shaped_nil)
theorem h_slPlan {lo hi : Option Int} {tl th : TO} (ha : Val ta σ H (.ref L)) (h : PlanIn H L was wks) (h1 : ∀ Q : Option Int → Hp → Prop, Q lo H → tl σ H Q) (h2 : ∀ Q : Option Int → Hp → Prop, Q hi H → th σ H Q) :
    ValH (tSl (rSlL K) ta tl th) σ H (PlanV H fun w2 => w2.length ≤ wks.length ∧ ∀ w ∈ w2, w ∈ wks) := fun Q q => ha _ (h1 _ (h2 _ ⟨L, was.map V.ref, rfl, SqL.of h.1, fun p hp => by
  have e : cutV (was.map V.ref) lo hi = ((was.drop (HT.sIx (was.map V.ref).length 0 lo)).take (HT.sIx (was.map V.ref).length (was.map V.ref).length hi - HT.sIx (was.map V.ref).length 0 lo)).map V.ref := by rw [cutV, List.map_take, List.map_drop]
  refine q _ _ ⟨p, _, _, rfl, hp, same_upd hp, ⟨by rw [upd_same, e], All2.take _ (All2.drop _ (h.2.same (same_upd hp)))⟩, ?_, ?_⟩
  · rw [List.length_take, List.length_drop]
    omega
  · intro w hw
    exact List.mem_of_mem_drop (List.mem_of_mem_take hw)⟩))
theorem h_catPlan (ha : ValH ta σ H (PlanV H B1)) (hb : ∀ H', Same H H' → ValH tb σ H' (PlanV H' B2)) (hz1 : ∀ w, B1 w → w.length ≤ 1000) (hz2 : ∀ w, B2 w → w.length ≤ 1000) : ValH (tOp rCat ta tb) σ H (PlanV H fun w => ∃ w1 w2, w = w1 ++ w2 ∧ B1 w1 ∧ B2 w2) := fun Q q => ha _ fun v H1 z => by
  obtain ⟨D1, as1, w1, rfl, n1, e1, h1, b1⟩ := z
  refine hb _ e1 _ fun v H2 z => ?_
  obtain ⟨D2, as2, w2, rfl, n2, e2, h2, b2⟩ := z
  have h1' := h1.same e2
  have l1 := h1'.2.len
  have l2 := h2.2.len
  have z1 := hz1 _ b1
  have z2 := hz2 _ b2
  refine ⟨D1, D2, as1.map V.ref, as2.map V.ref, rfl, rfl, h1'.1, h2.1, sz_ok (by rw [List.length_map, List.length_map]; omega), fun p hp => q _ _ ⟨p, as1 ++ as2, w1 ++ w2, rfl, e1.free (e2.free hp), (e1.trans e2).trans (same_upd hp), ⟨by rw [upd_same, List.map_append], All2.append (h1'.2.same (same_upd hp)) (h2.2.same (same_upd hp))⟩, w1, w2, rfl, b1, b2⟩⟩
theorem h_onePlan {a : Addr} {x : Wk} (ha : Val ta σ H (.ref a)) (h : WkAt H a x) : ValH (tLst (tCons ta tNil)) σ H (PlanV H fun w => w = [x]) := fun Q q => ha _ ⟨by show 1 ≤ sizeLine; decide, fun p hp => q _ _ ⟨p, [a], [x], rfl, hp, same_upd hp, ⟨upd_same, .cons (h.same (same_upd hp)) .nil⟩, rfl⟩⟩
/-- each walk anew -/
theorem h_lcWks {tl : TE} {j : Nat} {vs : List Nat} (hl : Val tl σ H (.ref L)) (h : PlanIn H L was wks) (hz : wks.length ≤ 10000) (hw : ∀ x, wipe ((wipe σ vs).set j (some x)) vs = wipe σ vs)
    (he : ∀ a (w : Wk) sl bs H', Same H H' → WalkAt H' a sl bs w.1 w.2 → ValH te ((wipe σ vs).set j (some (.ref a))) H' (fun v H2 => Same H' H2 ∧ ∃ q sl2 bs2, v = .ref q ∧ H' sl2 = none ∧ WalkAt H2 q sl2 bs2 w.1 w.2)) :
    ValH (tLc (iList K tl) (gName j) tYes te vs) σ H (PlanV H fun w => w = wks) := fun Q q => by
  have hlen := h.2.len
  refine hl _ ⟨L, rfl, ⟨_, SqL.of h.1⟩, fun D hD => ?_⟩
  refine lc_list (K := K) (a := L) (xs := was.map V.ref) (fun i H' => Same H H' ∧ ∃ acc, H' D = some (.lst (acc.map V.ref)) ∧ All2 (fun a (w : Wk) => ∃ sl bs, WalkAt H' a sl bs w.1 w.2 ∧ sl ≠ D) acc (wks.take i)) ⟨same_upd hD, [], upd_same, by rw [List.take_zero]; exact .nil⟩ (fun i H' _ r => SqL.of (r.1 _ _ h.1)) ?_ ?_
  · rintro i x H1 hi ⟨e1, acc, hacc, hA⟩
    obtain ⟨a, sl, bs, w, rfl, _, hwi, hwm, hwk⟩ := wks_item (h.2.same e1) hi
    refine ⟨hw _, ?_⟩
    refine iteT (B := Same H H1 ∧ ∃ acc, H1 D = some (.lst (acc.map V.ref)) ∧ All2 (fun a (w : Wk) => ∃ sl bs, WalkAt H1 a sl bs w.1 w.2 ∧ sl ≠ D) acc (wks.take (i + 1))) ?_
    refine he a w sl bs H1 e1 hwk _ fun v H2 z => ?_
    obtain ⟨e2, p, sl2, bs2, rfl, n2, hp⟩ := z
    have hacc2 := e2 _ _ hacc
    have hal := hA.len
    have hi2 := (List.getElem?_eq_some_iff.mp hwi).1
    rw [List.length_take] at hal
    refine ⟨acc.map V.ref, hacc2, sz_lt (by rw [List.length_map]; omega), same_mut (e1.trans e2) hD, acc ++ [p], by rw [upd_same, List.map_append]; rfl, ?_⟩
    rw [take_snoc hwi]
    have st : ∀ b (y : Wk), (∃ sl bs, WalkAt H2 b sl bs y.1 y.2 ∧ sl ≠ D) → ∃ sl bs, WalkAt (upd H2 D (.lst (acc.map V.ref ++ [.ref p]))) b sl bs y.1 y.2 ∧ sl ≠ D := by
      rintro b y ⟨sl, bs, hb, hn⟩
      refine ⟨sl, bs, ⟨?_, ?_, hb.2.2.updL hacc2⟩, hn⟩
      · rw [upd_ne (ne_of hb.1 hacc2 (by intro z; cases z))]
        exact hb.1
      · rw [upd_ne hn]
        exact hb.2.1
    refine All2.append (hA.imp fun b y ⟨sl, bs, hb, hn⟩ => st b y ⟨sl, bs, hb.same e2, hn⟩) (.cons (st p w ⟨sl2, bs2, hp, ?_⟩) .nil)
    intro z
    rw [z, hacc] at n2
    cases n2
  · rintro H1 ⟨e1, acc, hacc, hA⟩
    refine q _ _ ⟨D, acc, wks, rfl, hD, e1, ⟨hacc, ?_⟩, rfl⟩
    rw [List.length_map, hlen, List.take_length] at hA
    exact hA.imp fun b y ⟨sl, bs, hb, _⟩ => ⟨sl, bs, hb⟩
end
theorem g_andV {σ : St} {H : Hp} {ta tb : TE} {a b : Bool} (h1 : GV ta σ H (.bl a)) (h2 : a = true → ∀ H', Same H H' → GV tb σ H' (.bl b)) : GV (tAndV ta tb) σ H (.bl (a && b)) := fun Q q => h1 _ fun H1 e1 => ⟨a, rfl, by
  cases a with
  | true => exact iteT (h2 rfl H1 e1 Q fun H2 e2 => q H2 (e1.trans e2))
  | false => exact iteF (q H1 e1)⟩
theorem WksAt_updL {H : Hp} {L : Addr} {xs : List V} {o : HO} {was : List Addr} {wks : List Wk} (h : All2 (fun a (w : Wk) => ∃ sl bs, WalkAt H a sl bs w.1 w.2 ∧ sl ≠ L) was wks) (hL : H L = some (.lst xs)) : All2 (fun a (w : Wk) => ∃ sl bs, WalkAt (upd H L o) a sl bs w.1 w.2 ∧ sl ≠ L) was wks :=
  h.imp fun a w ⟨sl, bs, hb, hn⟩ => ⟨sl, bs, ⟨by rw [upd_ne (ne_of hb.1 hL (by intro z; cases z))]; exact hb.1, by rw [upd_ne hn]; exact hb.2.1, hb.2.2.updL hL⟩, hn⟩
/-! ### papers -/
section
variable {K : PySem.W.Frag} {σ : St} {H : Hp} {te ta tb : TE} {D : Ends} {ts tz : TS} {P : V → Hp → Prop}
theorem h_catN {xs zs : List V} (ha : ValH ta σ H (NewL H xs)) (hb : ∀ H', Same H H' → ValH tb σ H' (fun v H2 => ∃ b, v = .ref b ∧ H' b = none ∧ Same H' H2 ∧ H2 b = some (.lst zs))) (hz : xs.length + zs.length ≤ 100000) :
    ValH (tOp rCat ta tb) σ H (fun v H' => ∃ p, v = .ref p ∧ H p = none ∧ Same H H' ∧ H' p = some (.lst (xs ++ zs))) := fun Q q => ha _ fun v H1 z => by
  obtain ⟨l, rfl, hl, rfl⟩ := z
  have e0 := same_upd (o := .lst xs) hl
  refine hb _ e0 _ fun y H2 z => ?_
  obtain ⟨b, rfl, hb0, e1, hb1⟩ := z
  exact ⟨l, b, xs, zs, rfl, rfl, e1 _ _ upd_same, hb1, sz_ok (by omega), fun p hp => q _ _ ⟨p, rfl, e0.free (e1.free hp), (e0.trans e1).trans (same_upd hp), upd_same⟩⟩
theorem g_sumH {ns : List Int} (ha : ValH ta σ H (fun v H' => ∃ p, v = .ref p ∧ Same H H' ∧ H' p = some (.lst (ns.map V.int)))) : GV (tCB (rSum K) (tCons ta tNil)) σ H (.int ns.sum) := fun Q q => ha _ fun v H1 z => by
  obtain ⟨p, rfl, e1, h⟩ := z
  exact ⟨p, ns, rfl, SqL.of h, q H1 e1⟩
end
def sumN : Nat → (Nat → Int) → Int
  | 0, _ => 0
  | n + 1, f => sumN n f + f n
theorem sumN_congr {f g : Nat → Int} : ∀ n, (∀ k, k < n → f k = g k) → sumN n f = sumN n g
  | 0, _ => rfl
  | n + 1, h => by rw [sumN, sumN, sumN_congr n (fun k hk => h k (by omega)), h n (by omega)]
theorem sumN_cut {f : Nat → Int} {a : Nat} : ∀ b, a ≤ b → (∀ k, a ≤ k → k < b → f k = 0) → sumN b f = sumN a f
  | 0, h, _ => by
    have : a = 0 := by omega
    rw [this]
  | b + 1, h, hz => by
    by_cases e : a = b + 1
    · rw [e]
    · rw [sumN, hz b (by omega) (by omega), Int.add_zero]
      exact sumN_cut b (by omega) fun k h1 h2 => hz k h1 (by omega)
theorem sum_filter_range (g : Nat → Int) (f : Int → Bool) : ∀ n, (((((List.range n).map fun (k : Nat) => (k : Int)).filter f).map fun x => g x.toNat)).sum = sumN n fun k => if f k then g k else 0
  | 0 => rfl
  | n + 1 => by
    rw [List.range_succ, List.map_append, List.filter_append, List.map_append, List.sum_append, sum_filter_range g f n, sumN]
    congr 1
    by_cases h : f (n : Int) = true
    · simp [h]
    · simp [h]
abbrev Paper := List (Option Int)
/-- whether a room counts at a minute -/
def cntZ (fs : Paper) (r m : Int) : Bool := decide (0 < r) && (match fs.getD (r - 1).toNat none with
  | some t => decide (t ≤ m)
  | none => false)
def entOk (T : Int) : Option Int → Bool
  | some t => decide (0 ≤ t) && decide (t ≤ T)
  | none => true
def paperOk (n : Nat) (T : Int) (fs : Paper) : Bool := decide (fs.length = n) && fs.all (entOk T)
def baseZ (ps : List Int) (fs : Paper) (k : Nat) : Int := if cntZ fs ((k : Int) + 1) 0 then 0 else ps.getD k 0
def stepZ (fs : Paper) (x : Way) (m : Nat) : Int := if cntZ fs x.s m && !cntZ fs x.e (m + x.l) then x.w else 0
def crossZ (T : Int) (fs : Paper) (x : Way) : Int := sumN (T - x.l + 1).toNat (stepZ fs x)
def boundZ (ps : List Int) (ws : List Way) (T : Int) (fs : Paper) : Int := sumN ps.length (baseZ ps fs) + sumN ws.length (fun k => crossZ T fs (ws.getD k default))
theorem at_opt {fs : Paper} {k : Int} (h0 : 0 ≤ k) (h : k < fs.length) : atI (fs.map optV) k = some (optV (fs.getD k.toNat none)) := by
  obtain ⟨j, rfl⟩ : ∃ j : Nat, k = j := ⟨k.toNat, by omega⟩
  have hj : j < fs.length := by omega
  refine atI_nat ?_
  rw [List.getElem?_map, List.getElem?_eq_getElem hj]
  simp [List.getD_eq_getElem?_getD, List.getElem?_eq_getElem hj]
def PaperAt (H : Hp) (f : Addr) (fs : Paper) : Prop := H f = some (.lst (fs.map optV))
def sp_counts_at (K : PySem.W.Frag) (C : Cs) : Sp := fun vs H Q _ => ∃ (f : Addr) (fs : Paper) (r m : Int), vs = [.ref f, .int r, .int m] ∧ PaperAt H f fs ∧ r ≤ fs.length ∧ Q (.bl (cntZ fs r m)) H
def sp_bound (K : PySem.W.Frag) (C : Cs) : Sp := fun vs H Q E => ∃ (h f : Addr) (as : List Addr) (ps : List Int) (ws : List Way) (T : Int) (fs : Paper), vs = [.ref h, .int T, .ref f] ∧ HouseAt C H h as ps ws ∧ houseOk ps ws = true ∧ (0 ≤ T ∧ T ≤ 10000) ∧ PaperAt H f fs ∧
  (paperOk ps.length T fs = true → ∀ H', Same H H' → Q (.int (boundZ ps ws T fs)) H') ∧ (paperOk ps.length T fs = false → ∀ H', Same H H' → E (.ref C.BadPaper) none H')
def sp_law_bound (K : PySem.W.Frag) (C : Cs) : Sp := fun vs H Q _ => ∃ (p pl wl f : Addr) (as : List Addr) (ps : List Int) (ws : List Way) (T : Int) (fs : Paper), vs = [.ref p, .int T, .ref f] ∧ PlotAt H p pl wl as ps ws ∧ houseOk ps ws = true ∧ (0 ≤ T ∧ T ≤ 10000) ∧ PaperAt H f fs ∧
  paperOk ps.length T fs = true ∧ ∀ H', Same H H' → Q (.int (boundZ ps ws T fs)) H'
def sinceZ (T : Int) (fs : Paper) (r : Int) : Int := ((T + 99) :: fs.map fun o => o.getD (T + 99)).getD r.toNat 0
theorem since_cnt {n : Nat} {T : Int} {fs : Paper} (h : paperOk n T fs = true) {r m : Int} (h0 : 0 ≤ r) (h1 : r ≤ n) (hm : 0 ≤ m) (hm2 : m ≤ T) : decide (sinceZ T fs r ≤ m) = cntZ fs r m ∧ decide (m < sinceZ T fs r) = !cntZ fs r m := by
  simp only [paperOk, Bool.and_eq_true, decide_eq_true_eq, List.all_eq_true] at h
  by_cases hr : r = 0
  · subst hr
    have e : sinceZ T fs 0 = T + 99 := rfl
    rw [e]
    have h1 : ¬ T + 99 ≤ m := by omega
    have h2 : m < T + 99 := by omega
    simp [cntZ, h1, h2]
  · obtain ⟨j, hj⟩ : ∃ j : Nat, r = (j : Int) + 1 := ⟨(r - 1).toNat, by omega⟩
    subst hj
    have hjl : j < fs.length := by omega
    have e : sinceZ T fs ((j : Int) + 1) = (fs[j]).getD (T + 99) := by
      have : ((j : Int) + 1).toNat = j + 1 := by omega
      rw [sinceZ, this]
      simp [List.getD_eq_getElem?_getD, List.getElem?_eq_getElem hjl]
    have e2 : cntZ fs ((j : Int) + 1) m = (match fs[j] with | some t => decide (t ≤ m) | none => false) := by
      have : ((j : Int) + 1 - 1).toNat = j := by omega
      rw [cntZ, this, decide_eq_true (by omega), Bool.true_and]
      simp [List.getD_eq_getElem?_getD, List.getElem?_eq_getElem hjl]
    rw [e, e2]
    cases fs[j] with
    | none =>
      simp
      omega
    | some t =>
      simp
      by_cases ht : t ≤ m
      · simp [ht] <;> omega
      · simp [ht] <;> omega
/-- the other way of reckoning -/
def stepL (T : Int) (fs : Paper) (x : Way) (m : Nat) : Int := if decide ((m : Int) + x.l ≤ T) && (decide (sinceZ T fs x.s ≤ m) && decide ((m : Int) + x.l < sinceZ T fs x.e)) then x.w else 0
theorem cross_eq {n : Nat} {T : Int} {fs : Paper} {x : Way} (h : paperOk n T fs = true) (hx : wayOk n x = true) (hT : 0 ≤ T) : sumN (T + 1).toNat (stepL T fs x) = crossZ T fs x := by
  have hx := wayOk_of hx
  rw [crossZ, sumN_cut (a := (T - x.l + 1).toNat) (T + 1).toNat (by omega) (fun k h1 h2 => by
    rw [stepL, decide_eq_false (by omega), Bool.false_and]
    rfl)]
  refine sumN_congr _ fun k hk => ?_
  rw [stepL, stepZ, decide_eq_true (by omega), Bool.true_and, (since_cnt h (by omega) (by omega) (by omega) (by omega)).1, (since_cnt h (by omega) (by omega) (by omega) (by omega)).2]
theorem ways_item {H : Hp} {as : List Addr} {ws : List Way} {i : Nat} {v : V} (hW : WaysAt H as ws) (hi : (as.map V.ref)[i]? = some v) : ∃ a x, v = .ref a ∧ ws[i]? = some x ∧ ws.getD i default = x ∧ x ∈ ws ∧ H a = some (.tup [.int x.s, .int x.e, .int x.w, .int x.l]) := by
  rw [List.getElem?_map] at hi
  cases ea : as[i]? with
  | none =>
    rw [ea] at hi
    cases hi
  | some a =>
    rw [ea] at hi
    obtain ⟨x, hx, ha⟩ := All2.get' hW ea
    exact ⟨a, x, (Option.some.inj hi).symm, hx, by rw [List.getD_eq_getElem?_getD, hx]; rfl, List.mem_of_getElem? hx, ha⟩
theorem dp_all_opt {K : PySem.W.Frag} {H : Hp} : ∀ fs : Paper, DpAll K H (fs.map optV) (fs.map fun o => match o with | some t => PyData.int t | none => PyData.none)
  | [] => .nil
  | none :: fs => .cons .non (dp_all_opt fs)
  | some t :: fs => .cons (.int t) (dp_all_opt fs)
def paperD (fs : Paper) : PyData := .list (fs.map fun o => match o with | some t => PyData.int t | none => PyData.none)
theorem dp_paper {K : PySem.W.Frag} {H : Hp} {f : Addr} {fs : Paper} (h : PaperAt H f fs) : Dp K H (.ref f) (paperD fs) := .lst (SqL.of h) (dp_all_opt fs)
theorem lay_opt : ∀ fs : Paper, PyData.canLayAll0 (fs.map fun o => match o with | some t => PyData.int t | none => PyData.none) = true
  | [] => rfl
  | none :: fs => by
    have := lay_opt fs
    simp [PyData.canLayAll0, PyData.canLay0, this]
  | some t :: fs => by
    have := lay_opt fs
    simp [PyData.canLayAll0, PyData.canLay0, this]
theorem dep_opt : ∀ fs : Paper, PyData.depthAll (fs.map fun o => match o with | some t => PyData.int t | none => PyData.none) = 0
  | [] => rfl
  | none :: fs => by
    have := dep_opt fs
    simp [PyData.depthAll, PyData.depth, this]
  | some t :: fs => by
    have := dep_opt fs
    simp [PyData.depthAll, PyData.depth, this]
theorem shaped_paper (fs : Paper) : SeqAt.shaped (paperD fs) = true := by
  have h1 := lay_opt fs
  have h2 := dep_opt fs
  simp [SeqAt.shaped, paperD, PyData.canLay0, h1, PyData.depth, h2]
section
variable {P : Program} {w : World} {K : PySem.W.Frag} {mg : Str → Option Value} {base : Heap} {C : Cs}
abbrev N_counts_at : List PySem.Str := ["firsts", "room", "minute"]
theorem sc_counts_at : FnScope N_counts_at ["firsts", "room", "minute"] (defScope s_counts_at) := ⟨rfl, rfl, rfl, by decide +kernel, rfl, by decide +kernel, by decide +kernel⟩
theorem c_counts_at {f fd} (D : FnP K "counts_at" "counts_at" s_counts_at f fd) (hm : mg "counts_at" = some (.ref f)) (G : Bn mg) : Cal P w K mg base CX0 1 "counts_at" (sp_counts_at K C) := by
  refine cal_of D hm (D.ok sc_counts_at (fun vs H Q E h => ?_) (fun cdv A outer s H vs Q E hr h => ?_)) (fun _ _ _ _ _ _ us hl => match us, hl with | [_, _, _], _ => rfl)
  · obtain ⟨f, fs, r, m, rfl, hF, hr1, q⟩ := h
    rfl
  · obtain ⟨f, fs, r, m, rfl, hF, hr1, q⟩ := h
    have hu := hu_of hr
    refine ⟨_, PSs.nox (pss_one (ps_ret (pe_and (pe_cmpR op_gt (pv 1) pe_int (nomark _)) (pe_and (pe_cmpR op_notN (pe_ix (ix_listK (K := K) rfl) (pv 0) (pe_op op_sub (pv 1) pe_int) (fun _ _ => rfl)) pe_non (nomark _)) (pe_one (pe_cmpR op_le (pe_ix (ix_listK (K := K) rfl) (pv 0) (pe_op op_sub (pv 1) pe_int) (fun _ _ => rfl)) (pv 2) (nomark _))))))), ?_⟩
    have hF : H f = some (.lst (fs.map optV)) := hF
    by_cases h0 : 0 < r
    · have hx := at_opt (fs := fs) (k := r - 1) (by omega) (by omega)
      have it : Val (tOp (rIxL K) (tVar 0) (tOp (rI0 fun i j => .int (i - j)) (tVar 1) (tC (.int 1)))) (L2.start N_counts_at [V.ref f, V.int r, V.int m]) H (optV (fs.getD (r - 1).toNat none)) := v_ixL (by kbo_bools) (by kbo_bools) (SqL.of hF) hx
      cases hg : fs.getD (r - 1).toNat none with
      | none =>
        rw [hg] at it
        refine s_ret (v := .bl (decide (0 < r) && (!decide (V.non = V.non) && false))) (v_and (by kbo_bools) fun _ => v_and (v_notN it) fun hb => by simp at hb) ?_
        have : cntZ fs r m = (decide (0 < r) && (!decide (V.non = V.non) && false)) := by simp only [cntZ, hg]; simp
        rw [← this]
        exact q
      | some t =>
        rw [hg] at it
        refine s_ret (v := .bl (decide (0 < r) && (!decide (V.int t = V.non) && decide (t ≤ m)))) (v_and (by kbo_bools) fun _ => v_and (v_notN it) fun _ => v_I0 it (by kbo_bools)) ?_
        have : cntZ fs r m = (decide (0 < r) && (!decide (V.int t = V.non) && decide (t ≤ m))) := by simp only [cntZ, hg]; simp
        rw [← this]
        exact q
    · refine s_ret (v := .bl (decide (0 < r) && false)) (v_and (by kbo_bools) fun hb => absurd (by simpa using hb) h0) ?_
      have : cntZ fs r m = (decide (0 < r) && false) := by simp [cntZ, h0]
      rw [← this]
      exact q
abbrev N_bound : List PySem.Str := ["house", "minutes", "firsts", "people", "first", "total", "room", "way", "minute"]
theorem sc_bound : FnScope N_bound ["house", "minutes", "firsts"] (defScope s_bound) := ⟨rfl, rfl, rfl, by decide +kernel, rfl, by decide +kernel, by decide +kernel⟩
theorem c_bound {f fd} (D : FnP K "bound" "bound" s_bound f fd) (hm : mg "bound" = some (.ref f)) (G : Bn mg) (X_BadPaper : Xc K mg "BadPaper" C.BadPaper) (c_House_people : Met P w K mg base CX0 1 C.House "people" (sp_House_people K C)) (c_House_ways : Met P w K mg base CX0 1 C.House "ways" (sp_House_ways K C)) (c_counts_at : Cal P w K mg base CX0 1 "counts_at" (sp_counts_at K C)) : Cal P w K mg base (L2.CX P w) 2 "bound" (sp_bound K C) := by
  refine cal_of D hm (D.ok sc_bound (fun vs H Q E h => ?_) (fun cdv A outer s H vs Q E hr h => ?_)) (fun _ _ _ _ _ _ us hl => match us, hl with | [_, _, _], _ => rfl)
  · obtain ⟨h, f, as, ps, ws, T, fs, rfl, hH, hok, hT, hF, q, e⟩ := h
    rfl
  · obtain ⟨h, f, as, ps, ws, T, fs, rfl, hH, hok, hT, hF, q, e⟩ := h
    have hu := hu_of hr
    refine ⟨_, (pss_cons (ps_set (i := 3) sc_bound.nd rfl (Or.inl rfl) (pe_mt0 c_House_people hr (by decide) pass0 (pv 0)))
        (pss_cons (ps_if (pt_cmpR op_ne (pe_callB (id := "len") (call_len_seqK (K := K) rfl) (by rfl) G.len_ (by decide +kernel) (pa_cons (pv 2) pa_nil)) (pe_callB (id := "len") (call_len_seqK (K := K) rfl) (by rfl) G.len_ (by decide +kernel) (pa_cons (pv 3) pa_nil)) (nomark _))
          (pss_one (ps_raise rfl (takes_of rfl rfl rfl rfl) (pmk_own PySem.F.excBase_ValueError X_BadPaper.xi X_BadPaper.g X_BadPaper.k (raises_own X_BadPaper.b X_BadPaper.t) rfl)))
          pss_nil)
        (pss_cons (ps_for (passes_of rfl) rfl (pi_listK (K := K) rfl (pv 2)) (pg_name (i := 4) sc_bound.nd rfl (Or.inl rfl))
          (pss_one (ps_if (PW.pt (pw_and (pt_cmpR op_notN (pv 4) pe_non (nomark _)) (pw_and1 (pt_not (pt_chain op_le op_le pe_int (pv 4) (pv 1))))))
              (pss_one (ps_raise rfl (takes_of rfl rfl rfl rfl) (pmk_own PySem.F.excBase_ValueError X_BadPaper.xi X_BadPaper.g X_BadPaper.k (raises_own X_BadPaper.b X_BadPaper.t) rfl)))
              pss_nil)))
        (pss_cons (ps_set (i := 5) sc_bound.nd rfl (Or.inl rfl) pe_int)
        (pss_cons (ps_for (passes_of rfl) rfl (pi_range2 rfl G.range_ (pa_cons pe_int (pa_cons (pe_op op_add (pe_callB (id := "len") (call_len_seqK (K := K) rfl) (by rfl) G.len_ (by decide +kernel) (pa_cons (pv 3) pa_nil)) pe_int) pa_nil))) (pg_name (i := 6) sc_bound.nd rfl (Or.inl rfl))
          (pss_one (ps_if (pt_not (pt_val (pe_c c_counts_at hr (by decide) pass0 rfl (pa_cons (pv 2) (pa_cons (pv 6) (pa_cons pe_int pa_nil))))))
              (pss_one (ps_set (i := 5) sc_bound.nd rfl (Or.inl rfl) (pe_op op_add (pv 5) (pe_ix (ix_listK (K := K) rfl) (pv 3) (pe_op op_sub (pv 6) pe_int) (fun _ _ => rfl)))))
              pss_nil)))
        (pss_cons (ps_for (passes_of rfl) rfl (pi_listK (K := K) rfl (pe_mt0 c_House_ways hr (by decide) pass0 (pv 0))) (pg_name (i := 7) sc_bound.nd rfl (Or.inl rfl))
          (pss_one (ps_for (passes_of rfl) rfl (pi_range1 rfl G.range_ (pa_cons (pe_op op_add (pe_op op_sub (pv 1) (pe_ix (ix_tupK (K := K) rfl) (pv 7) pe_int (fun _ _ => rfl))) pe_int) pa_nil)) (pg_name (i := 8) sc_bound.nd rfl (Or.inl rfl))
              (pss_one (ps_if (PW.pt (pw_and (pt_val (pe_c c_counts_at hr (by decide) pass0 rfl (pa_cons (pv 2) (pa_cons (pe_ix (ix_tupK (K := K) rfl) (pv 7) pe_int (fun _ _ => rfl)) (pa_cons (pv 8) pa_nil))))) (pw_and1 (pt_not (pt_val (pe_c c_counts_at hr (by decide) pass0 rfl (pa_cons (pv 2) (pa_cons (pe_ix (ix_tupK (K := K) rfl) (pv 7) pe_int (fun _ _ => rfl)) (pa_cons (pe_op op_add (pv 8) (pe_ix (ix_tupK (K := K) rfl) (pv 7) pe_int (fun _ _ => rfl))) pa_nil)))))))))
                  (pss_one (ps_set (i := 5) sc_bound.nd rfl (Or.inl rfl) (pe_op op_add (pv 5) (pe_ix (ix_tupK (K := K) rfl) (pv 7) pe_int (fun _ _ => rfl)))))
                  pss_nil)))))
        (pss_one (ps_ret (pv 5))))))))), ?_⟩
    have hF : H f = some (.lst (fs.map optV)) := hF
    obtain ⟨⟨hp1, hp2, hw1⟩, hpk, hwk⟩ := houseOk_iff.mp hok
    refine q_setH (h_hpeople (by kbo_bools) hH) ?_
    rintro v H1 ⟨x, rfl, nx, e1, hx⟩
    have hF1 := e1 _ _ hF
    refine q_when (b := !decide (V.int (fs.map optV).length = V.int (ps.map V.int).length)) (by kbt_split) (fun hb => ?_) (fun hb => ?_)
    · refine e ?_ _ e1
      rw [List.length_map, List.length_map] at hb
      have hb : ¬ fs.length = ps.length := by
        simp at hb
        omega
      rw [paperOk, decide_eq_false hb, Bool.false_and]
    rw [List.length_map, List.length_map] at hb
    have hlen : fs.length = ps.length := by
      simp at hb
      omega
    refine q_forL (p := f) (xs := fs.map optV) (by kbo_bools) (SqL.of hF1) (fun i σ' H' => ∃ u, σ' = [some (.ref h), some (.int T), some (.ref f), some (.ref x), u, none, none, none, none] ∧ H' = H1 ∧ ∀ k y, k < i → fs[k]? = some y → entOk T y = true)
      ⟨none, rfl, rfl, fun k y hk => by omega⟩ (fun i σ' H' _ ⟨_, _, eH, _⟩ => by rw [eH]; exact SqL.of hF1) ?_ ?_
    · rintro i v σ' H' hi ⟨u, rfl, rfl, hk⟩
      rw [List.getElem?_map] at hi
      cases ey : fs[i]? with
      | none =>
        rw [ey] at hi
        cases hi
      | some y =>
        rw [ey] at hi
        have hi : optV y = v := Option.some.inj hi
        subst hi
        have nxt : entOk T y = true → ∀ k z, k < i + 1 → fs[k]? = some z → entOk T z = true := by
          intro hy k z hk2 hz
          by_cases hki : k = i
          · subst hki
            rw [ey] at hz
            cases hz
            exact hy
          · exact hk k z (by omega) hz
        have bad : entOk T y = false → paperOk ps.length T fs = false := by
          intro hy
          rw [paperOk, Bool.and_eq_false_iff]
          right
          rw [List.all_eq_false]
          exact ⟨y, List.mem_of_getElem? ey, by rw [hy]; exact Bool.false_ne_true⟩
        cases y with
        | none =>
          refine g_name ?_
          exact s_if (b := !decide (V.non = V.non) && false) (a_and (a_test (v_notN (x := .non) (by kbo_bools))) fun hb => by simp at hb) (fun hb => by simp at hb) (fun _ => ⟨_, rfl, rfl, nxt rfl⟩)
        | some t =>
          refine g_name ?_
          refine s_if (b := !decide (V.int t = V.non) && !(decide (0 ≤ t) && decide (t ≤ T))) (a_and (a_test (v_notN (x := .int t) (by kbo_bools))) fun _ => a_not (a_chain v_c (v_var (v := .int t) rfl) (by kbo_bools))) (fun hb => e (bad ?_) _ e1) (fun hb => ⟨_, rfl, rfl, nxt ?_⟩)
          · simp [entOk] at hb ⊢
            omega
          · simp [entOk] at hb ⊢
            omega
    rintro σ' H' ⟨u, rfl, rfl, hk⟩
    have hpo : paperOk ps.length T fs = true := by
      simp only [paperOk, Bool.and_eq_true, decide_eq_true_eq, List.all_eq_true]
      refine ⟨hlen, fun y hy => ?_⟩
      obtain ⟨i, hi⟩ := List.getElem?_of_mem hy
      exact hk i y (by rw [List.length_map]; exact (List.getElem?_eq_some_iff.mp hi).1) hi
    have q := q hpo
    kopn_word
    refine q_forR2 (lo := 1) (n := (((ps.map V.int).length : Nat) : Int) + 1) (by kxs_still) (by rw [List.length_map]; omega) (fun i σ' H'' => ∃ u6, σ' = [some (.ref h), some (.int T), some (.ref f), some (.ref x), u, some (.int (sumN i (baseZ ps fs))), u6, none, none] ∧ H'' = H')
      ⟨none, rfl, rfl⟩ ?_ ?_
    · rintro i σ' H'' hi ⟨u6, rfl, rfl⟩
      rw [List.length_map] at hi
      refine g_name ?_
      refine s_if (a_not (a_B (v_call (v := .bl (cntZ fs (1 + (i : Int)) 0)) (vs := [.ref f, .int (1 + (i : Int)), .int 0]) (by kxs_still) fun Q q => ⟨f, fs, _, _, rfl, hF1, by omega, q⟩))) (fun hb => ?_) (fun hb => ?_)
      · refine s_set (v := .int (sumN i (baseZ ps fs) + ps.getD (1 + (i : Int) - 1).toNat 0)) (v_I0 (by kbo_bools) (v_ixL (by kbo_bools) (by kbo_bools) (SqL.of hx) (at_ints (by omega) (by omega)))) ⟨some (.int (1 + (i : Int))), ?_, rfl⟩
        have h1 : (1 + (i : Int) - 1).toNat = i := by omega
        have hb : cntZ fs ((i : Int) + 1) 0 = false := by
          rw [Int.add_comm]
          simpa using hb
        rw [h1, sumN, baseZ, if_neg (by rw [hb]; exact Bool.false_ne_true)]
        rfl
      · refine ⟨some (.int (1 + (i : Int))), ?_, rfl⟩
        have hb : cntZ fs ((i : Int) + 1) 0 = true := by
          rw [Int.add_comm]
          simpa using hb
        rw [sumN, baseZ, if_pos hb, Int.add_zero]
        rfl
    rintro σ' H'' ⟨u6, rfl, rfl⟩
    have hn : ((((ps.map V.int).length : Nat) : Int) + 1 - 1).toNat = ps.length := by
      rw [List.length_map]
      omega
    rw [hn]
    refine q_forLH (h_hways (by kbo_bools) (hH.same e1)) ?_
    rintro v H2 ⟨y, rfl, ny, e2, hy⟩
    have hF2 := e2 _ _ hF1
    have hW2 : WaysAt H2 as ws := by
      obtain ⟨_, _, _, hI⟩ := hH
      exact hI.ws.same (e1.trans e2)
    have hlw := hW2.len
    refine q_forL (p := y) (xs := as.map V.ref) v_c (SqL.of hy) (fun i σ' H' => ∃ u7 u8, σ' = [some (.ref h), some (.int T), some (.ref f), some (.ref x), u, some (.int (sumN ps.length (baseZ ps fs) + sumN i (fun k => crossZ T fs (ws.getD k default)))), u6, u7, u8] ∧ H' = H2)
      ⟨none, none, ?_, rfl⟩ (fun i σ' H' _ ⟨_, _, _, eH⟩ => by rw [eH]; exact SqL.of hy) ?_ ?_
    · rw [sumN, Int.add_zero]
    · rintro i v σ' H' hi ⟨u7, u8, rfl, rfl⟩
      obtain ⟨a, w, rfl, hw, hwd, hwm, ha⟩ := ways_item hW2 hi
      have hwo := wayOk_of (hwk w hwm)
      refine s_forR1 (n := T - w.l + 1) (by kxs_still) (by omega) (fun j σ' H'' => ∃ u8, σ' = [some (.ref h), some (.int T), some (.ref f), some (.ref x), u, some (.int (sumN ps.length (baseZ ps fs) + sumN i (fun k => crossZ T fs (ws.getD k default)) + sumN j (stepZ fs w))), u6, some (.ref a), u8] ∧ H'' = H')
        ⟨u8, ?_, rfl⟩ ?_ ?_
      · show _ = [some (V.ref h), _, _, _, _, some (.int (_ + 0)), _, _, _]
        rw [Int.add_zero]
        rfl
      · rintro j σ' H'' hj ⟨u8, rfl, rfl⟩
        refine g_name ?_
        refine s_if (a_and (a_B (v_call (v := .bl (cntZ fs w.s j)) (vs := [.ref f, .int w.s, .int j]) (by kxs_still) fun Q q => ⟨f, fs, _, _, rfl, hF2, by omega, q⟩)) fun _ => a_not (a_B (v_call (v := .bl (cntZ fs w.e (j + w.l))) (vs := [.ref f, .int w.e, .int (j + w.l)]) (by kxs_still) fun Q q => ⟨f, fs, _, _, rfl, hF2, by omega, q⟩))) (fun hb => ?_) (fun hb => ?_)
        · refine s_set (v := .int (sumN ps.length (baseZ ps fs) + sumN i (fun k => crossZ T fs (ws.getD k default)) + sumN j (stepZ fs w) + w.w)) (v_I0 (by kbo_bools) (by kbo_bools)) ⟨some (.int (j : Int)), ?_, rfl⟩
          rw [sumN, stepZ, if_pos hb, ← Int.add_assoc]
          rfl
        · refine ⟨some (.int (j : Int)), ?_, rfl⟩
          rw [sumN, stepZ, if_neg (by rw [hb]; exact Bool.false_ne_true), Int.add_zero]
          rfl
      · rintro σ' H'' ⟨u8, rfl, rfl⟩
        refine ⟨some (.ref a), u8, ?_, rfl⟩
        rw [sumN, hwd, ← Int.add_assoc]
        try rfl
    · rintro σ' H' ⟨u7, u8, rfl, rfl⟩
      rw [List.length_map, hlw]
      exact s_ret (v := .int (boundZ ps ws T fs)) (v_var rfl) (q _ (e1.trans e2))
abbrev N_law_bound : List PySem.Str := ["plot", "minutes", "firsts", "never", "since", "total", "way", "now", "first", "k"]
theorem sc_law_bound : FnScope N_law_bound ["plot", "minutes", "firsts"] (defScope s_law_bound) := ⟨rfl, rfl, rfl, by decide +kernel, rfl, by decide +kernel, by decide +kernel⟩
theorem c_law_bound {f fd} (D : FnP K "_law_bound" "_law_bound" s_law_bound f fd) (hm : mg "_law_bound" = some (.ref f)) (G : Bn mg) : Cal P w K mg base CX0 1 "_law_bound" (sp_law_bound K C) := by
  refine cal_of D hm (D.ok sc_law_bound (fun vs H Q E h => ?_) (fun cdv A outer s H vs Q E hr h => ?_)) (fun _ _ _ _ _ _ us hl => match us, hl with | [_, _, _], _ => rfl)
  · obtain ⟨p, pl, wl, f, as, ps, ws, T, fs, rfl, hP, hok, hT, hF, hpo, q⟩ := h
    rfl
  · obtain ⟨p, pl, wl, f, as, ps, ws, T, fs, rfl, hP, hok, hT, hF, hpo, q⟩ := h
    have hu := hu_of hr
    refine ⟨_, PSs.nox (pss_cons (ps_set (i := 3) sc_law_bound.nd rfl (Or.inr rfl) (pe_op op_add (pv 1) pe_int))
        (pss_cons (ps_set (i := 4) sc_law_bound.nd rfl (Or.inr rfl) (pe_op op_cat (pe_lst (pa_cons (pv 3) pa_nil)) (pe_lc (own := [("first", 8)]) (g := gName 8) rfl sc_law_bound.nd (pi_listK (K := K) rfl (pv 2)) (blkOk_by (own := [("first", 8)]) (N := N_law_bound) (sc := defScope s_law_bound) (by decide +kernel)) (fun _ _ _ _ _ => pg_name (i := 8) sc_law_bound.nd rfl (Or.inl rfl)) (fun _ _ _ _ _ => pts_nil) (fun _ _ _ _ _ => (pe_ifExp (pt_cmpR op_notN (pv 8) pe_non (nomark _)) (pv 8) (pv 3))))))
        (pss_cons (ps_set (i := 5) sc_law_bound.nd rfl (Or.inl rfl) (pe_callB (id := "sum") (cr_sumK (K := K) rfl rfl) (by rfl) G.sum_ (by decide +kernel) (pa_cons (pe_lc (own := [("k", 9)]) (g := gName 9) rfl sc_law_bound.nd (pi_range1 rfl G.range_ (pa_cons (pe_callB (id := "len") (call_len_seqK (K := K) rfl) (by rfl) G.len_ (by decide +kernel) (pa_cons (pe_ix (ix_tupK (K := K) rfl) (pv 0) pe_int (fun _ _ => rfl)) pa_nil)) pa_nil)) (blkOk_by (own := [("k", 9)]) (N := N_law_bound) (sc := defScope s_law_bound) (by decide +kernel)) (fun _ _ _ _ _ => pg_name (i := 9) sc_law_bound.nd rfl (Or.inl rfl)) (fun _ _ _ _ _ => (pts_one (pt_cmpR op_gt (pe_ix (ix_listK (K := K) rfl) (pv 4) (pe_op op_add (pv 9) pe_int) (fun _ _ => rfl)) pe_int (nomark _)))) (fun _ _ _ _ _ => (pe_ix (ix_listK (K := K) rfl) (pe_ix (ix_tupK (K := K) rfl) (pv 0) pe_int (fun _ _ => rfl)) (pv 9) (fun _ _ => rfl)))) pa_nil)))
        (pss_cons (ps_for PassesOwn.never rfl (pi_listK (K := K) rfl (pe_ix (ix_tupK (K := K) rfl) (pv 0) pe_int (fun _ _ => rfl))) (pg_name (i := 6) sc_law_bound.nd rfl (Or.inl rfl))
          (pss_one (ps_for PassesOwn.never rfl (pi_range1 rfl G.range_ (pa_cons (pe_op op_add (pv 1) pe_int) pa_nil)) (pg_name (i := 7) sc_law_bound.nd rfl (Or.inl rfl))
              (pss_one (ps_if (PW.pt (pw_and (pt_cmpR op_le (pe_op op_add (pv 7) (pe_ix (ix_tupK (K := K) rfl) (pv 6) pe_int (fun _ _ => rfl))) (pv 1) (nomark _)) (pw_and (pt_cmpR op_le (pe_ix (ix_listK (K := K) rfl) (pv 4) (pe_ix (ix_tupK (K := K) rfl) (pv 6) pe_int (fun _ _ => rfl)) (fun _ _ => rfl)) (pv 7) (nomark _)) (pw_and1 (pt_cmpR op_lt (pe_op op_add (pv 7) (pe_ix (ix_tupK (K := K) rfl) (pv 6) pe_int (fun _ _ => rfl))) (pe_ix (ix_listK (K := K) rfl) (pv 4) (pe_ix (ix_tupK (K := K) rfl) (pv 6) pe_int (fun _ _ => rfl)) (fun _ _ => rfl)) (nomark _))))))
                  (pss_one (ps_set (i := 5) sc_law_bound.nd rfl (Or.inl rfl) (pe_op op_add (pv 5) (pe_ix (ix_tupK (K := K) rfl) (pv 6) pe_int (fun _ _ => rfl)))))
                  pss_nil)))))
        (pss_one (ps_ret (pv 5))))))), ?_⟩
    have hF : H f = some (.lst (fs.map optV)) := hF
    have ⟨hp, hpl, hwl, hW⟩ := hP
    obtain ⟨⟨hp1, hp2, hw1⟩, hpk, hwk⟩ := houseOk_iff.mp hok
    have hlen : fs.length = ps.length := by
      simp only [paperOk, Bool.and_eq_true, decide_eq_true_eq] at hpo
      exact hpo.1
    kopn_word
    refine q_setH (h_catN (xs := [.int (T + 99)]) (zs := (fs.filter fun _ => true).map fun o => .int (o.getD (T + 99))) (h_lst (by kxs_still) (by show 1 ≤ sizeLine; decide)) (fun H' e => h_lcF fs optV (fun o => .int (o.getD (T + 99))) (fun _ => true) (by kbo_bools) (SqL.of (e _ _ hF)) (by omega) (fun _ => rfl) (fun _ _ _ _ => ag_yes) (fun o H2 _ _ e2 => g_of ?_)) (by rw [List.length_map]; have := List.length_filter_le (fun _ => true) fs; simp only [List.length_cons, List.length_nil]; omega)) ?_
    · cases o with
      | none => exact v_if (b := !decide (V.non = V.non)) (a_test (v_notN (x := .non) (v_var rfl))) (fun hb => by simp at hb) (fun _ => by kbo_bools)
      | some t => exact v_if (b := !decide (V.int t = V.non)) (a_test (v_notN (x := .int t) (v_var rfl))) (fun _ => v_var rfl) (fun hb => by simp at hb)
    rintro v H1 ⟨s, rfl, ns, e1, hs⟩
    have es : ([V.int (T + 99)] ++ (fs.filter fun _ => true).map fun o => V.int (o.getD (T + 99))) = ((T + 99) :: fs.map fun o => o.getD (T + 99)).map V.int := by
      rw [List.filter_eq_self.mpr (fun _ _ => rfl), List.map_cons, List.map_map]
      rfl
    rw [es] at hs
    have since : ∀ {r : Int}, 0 ≤ r → r ≤ ps.length → atI (((T + 99) :: fs.map fun o => o.getD (T + 99)).map V.int) r = some (.int (sinceZ T fs r)) := fun h0 h1 => at_ints h0 (by simp; omega)
    refine q_setG (v := .int (sumN ps.length (baseZ ps fs))) ?_ fun H2 e2 => ?_
    · have hp' := e1 _ _ hp
      have hpl' := e1 _ _ hpl
      have hl : (((ps.map V.int).length : Nat) : Int).toNat = ps.length := by simp
      have e : sumN ps.length (baseZ ps fs) = (((((List.range ps.length).map fun (k : Nat) => (k : Int)).filter (fun k => decide (0 < sinceZ T fs (k + 1)))).map fun x => ps.getD x.toNat 0)).sum := by
        rw [sum_filter_range (fun k => ps.getD k 0)]
        refine sumN_congr _ fun k hk => ?_
        rw [baseZ, (since_cnt hpo (by omega) (by omega) (by omega) (by omega)).2]
        cases cntZ fs ((k : Int) + 1) 0 <;> rfl
      rw [e]
      refine g_sumH (ValH.imp (h_lcF1 (hi := (((ps.map V.int).length : Nat) : Int)) (fun x => V.int (ps.getD x.toNat 0)) (fun k => decide (0 < sinceZ T fs (k + 1))) (av_cons (v_len (v_ixT (by kbo_bools) v_c hp' rfl) (SqL.of hpl')) av_nil) (by simp; omega) (fun _ => rfl) (fun x H' h0 h1 e => ag_of ?_) (fun x H' h0 h1 _ e => g_of ?_)) fun v H' ⟨D, h1, h2, h3, h4⟩ => ⟨D, h1, h3, by rw [h4, hl, List.map_map]; rfl⟩)
      · exact a_I0 (v_ixL (i := x + 1) (by kbo_bools) (by kbo_bools) (SqL.of (e _ _ hs)) (since (by omega) (by simp at h1; omega))) v_c
      · exact v_ixL (i := x) (v_ixT (by kbo_bools) v_c (e _ _ hp') rfl) (by kbo_bools) (SqL.of (e _ _ hpl')) (at_ints h0 (by simp at h1; omega))
    have e12 := e1.trans e2
    have hs2 := e2 _ _ hs
    have hW2 := hW.same e12
    have hlw := hW2.len
    refine q_forL (p := wl) (xs := as.map V.ref) (v_ixT (by kbo_bools) v_c (e12 _ _ hp) rfl) (SqL.of (e12 _ _ hwl)) (fun i σ' H' => ∃ u6 u7, σ' = [some (.ref p), some (.int T), some (.ref f), some (.int (T + 99)), some (.ref s), some (.int (sumN ps.length (baseZ ps fs) + sumN i (fun k => crossZ T fs (ws.getD k default)))), u6, u7, none, none] ∧ H' = H2)
      ⟨none, none, ?_, rfl⟩ (fun i σ' H' _ ⟨_, _, _, eH⟩ => by rw [eH]; exact SqL.of (e12 _ _ hwl)) ?_ ?_
    · rw [sumN, Int.add_zero]
      try rfl
    · rintro i v σ' H' hi ⟨u6, u7, rfl, rfl⟩
      obtain ⟨a, w, rfl, hw, hwd, hwm, ha⟩ := ways_item hW2 hi
      have hwo := wayOk_of (hwk w hwm)
      refine s_forR1 (n := T + 1) (by kxs_still) (by omega) (fun j σ' H'' => ∃ u7, σ' = [some (.ref p), some (.int T), some (.ref f), some (.int (T + 99)), some (.ref s), some (.int (sumN ps.length (baseZ ps fs) + sumN i (fun k => crossZ T fs (ws.getD k default)) + sumN j (stepL T fs w))), some (.ref a), u7, none, none] ∧ H'' = H')
        ⟨u7, ?_, rfl⟩ ?_ ?_
      · show _ = [some (V.ref p), _, _, _, _, some (.int (_ + 0)), _, _, _, _]
        rw [Int.add_zero]
        try rfl
      · rintro j σ' H'' hj ⟨u7, rfl, rfl⟩
        refine g_name ?_
        refine s_if (b := decide ((j : Int) + w.l ≤ T) && (decide (sinceZ T fs w.s ≤ j) && decide ((j : Int) + w.l < sinceZ T fs w.e))) (a_and (by kbt_split) fun _ => a_and (a_I0 (v_ixL (by kbo_bools) (by kbo_bools) (SqL.of hs2) (since (by omega) (by omega))) (by kbo_bools)) fun _ => a_I0 (by kbo_bools) (v_ixL (by kbo_bools) (by kbo_bools) (SqL.of hs2) (since (by omega) (by omega)))) (fun hb => ?_) (fun hb => ?_)
        · refine s_set (v := .int (sumN ps.length (baseZ ps fs) + sumN i (fun k => crossZ T fs (ws.getD k default)) + sumN j (stepL T fs w) + w.w)) (v_I0 (by kbo_bools) (by kbo_bools)) ⟨some (.int (j : Int)), ?_, rfl⟩
          rw [sumN, stepL, if_pos hb, ← Int.add_assoc]
          rfl
        · refine ⟨some (.int (j : Int)), ?_, rfl⟩
          rw [sumN, stepL, if_neg (by rw [hb]; exact Bool.false_ne_true), Int.add_zero]
          try rfl
      · rintro σ' H'' ⟨u7, rfl, rfl⟩
        refine ⟨some (.ref a), u7, ?_, rfl⟩
        rw [cross_eq hpo (hwk w hwm) hT.1, sumN, hwd, ← Int.add_assoc]
        try rfl
    · rintro σ' H' ⟨u6, u7, rfl, rfl⟩
      rw [List.length_map, hlw]
      exact s_ret (v := .int (boundZ ps ws T fs)) (v_var rfl) (q _ e12)
end
/-! ### no plan is above a paper -/
theorem cnt_mono {fs : Paper} {r m m' : Int} (h : cntZ fs r m = true) (hm : m ≤ m') : cntZ fs r m' = true := by
  unfold cntZ at h ⊢
  rw [Bool.and_eq_true] at h ⊢
  refine ⟨h.1, ?_⟩
  cases e : fs.getD (r - 1).toNat none with
  | none =>
    rw [e] at h
    cases h.2
  | some t =>
    rw [e] at h
    have := of_decide_eq_true h.2
    exact decide_eq_true (by omega)
theorem cnt_zero (fs : Paper) (m : Int) : cntZ fs 0 m = false := by simp [cntZ]
/-- a step that goes out of what counts -/
def crosses (ws : List Way) (T : Int) (fs : Paper) (s : Step) : Bool := decide (0 ≤ s.1 ∧ s.1 + (wayAtZ ws s.2).l ≤ T ∧ 0 ≤ s.2 ∧ s.2 < ws.length) && (cntZ fs (wayAtZ ws s.2).s s.1 && !cntZ fs (wayAtZ ws s.2).e (s.1 + (wayAtZ ws s.2).l))
theorem go_time {ws : List Way} (hl : ∀ k : Int, 0 ≤ k → k < ws.length → 0 ≤ (wayAtZ ws k).l) : ∀ {ss : List Step} {h t h' t' : Int}, goZ ws h t ss = some (h', t') → t ≤ t'
  | [], h, t, h', t', e => by
    rw [goZ] at e
    cases e
    omega
  | s :: ss, h, t, h', t', e => by
    rw [goZ] at e
    split at e
    · rename_i c
      have := go_time hl e
      have := hl s.2 c.1.1 c.1.2
      omega
    · cases e
theorem cross_of {ws : List Way} {T : Int} {fs : Paper} (hl : ∀ k : Int, 0 ≤ k → k < ws.length → 0 ≤ (wayAtZ ws k).l) : ∀ {ss : List Step} {h t tf : Int}, goZ ws h t ss = some (0, tf) → tf ≤ T → 0 ≤ t → cntZ fs h t = true → ∃ s ∈ ss, crosses ws T fs s = true
  | [], h, t, tf, e, _, _, hc => by
    rw [goZ] at e
    cases e
    rw [cnt_zero] at hc
    cases hc
  | s :: ss, h, t, tf, e, hT, h0, hc => by
    rw [goZ] at e
    split at e
    · rename_i c
      obtain ⟨c1, c2, c3⟩ := c
      have ht := go_time hl e
      have h4 := hl s.2 c1.1 c1.2
      by_cases hx : cntZ fs (wayAtZ ws s.2).e (s.1 + (wayAtZ ws s.2).l) = true
      · obtain ⟨s', h1, h2⟩ := cross_of hl e hT (by omega) hx
        exact ⟨s', List.mem_cons_of_mem _ h1, h2⟩
      · refine ⟨s, List.mem_cons_self, ?_⟩
        have hx : cntZ fs (wayAtZ ws s.2).e (s.1 + (wayAtZ ws s.2).l) = false := by simpa using hx
        rw [crosses, decide_eq_true ⟨by omega, by omega, c1.1, c1.2⟩, hx, c3, cnt_mono hc c2]
        rfl
    · cases e
theorem sumN_add (f g : Nat → Int) : ∀ n, sumN n (fun k => f k + g k) = sumN n f + sumN n g
  | 0 => rfl
  | n + 1 => by
    rw [sumN, sumN, sumN, sumN_add f g n]
    omega
theorem sumN_zero : ∀ n, sumN n (fun _ => 0) = 0
  | 0 => rfl
  | n + 1 => by rw [sumN, sumN_zero n]; rfl
theorem sumN_one {c : Int} {j : Nat} : ∀ {n}, j < n → sumN n (fun k => if k = j then c else 0) = c
  | 0, h => by omega
  | n + 1, h => by
    rw [sumN]
    by_cases e : j = n
    · subst e
      have h0 : sumN j (fun k => if k = j then c else 0) = sumN j (fun _ => 0) := sumN_congr _ fun k hk => if_neg (by omega)
      rw [if_pos rfl, h0, sumN_zero]
      omega
    · rw [sumN_one (n := n) (by omega), if_neg (by omega)]
      omega
theorem sumN_le {f g : Nat → Int} : ∀ n, (∀ k, k < n → f k ≤ g k) → sumN n f ≤ sumN n g
  | 0, _ => Int.le_refl _
  | n + 1, h => by
    have h1 := sumN_le n fun k hk => h k (by omega)
    have h2 := h n (by omega)
    rw [sumN, sumN]
    omega
theorem countP_rooms (p : Int → Bool) (n : Nat) : ∀ rs : List Int, (∀ r ∈ rs, 1 ≤ r ∧ r ≤ n) → (rs.countP p : Int) = sumN n fun k => if p ((k : Int) + 1) then (rs.count ((k : Int) + 1) : Int) else 0
  | [], _ => by
    have : sumN n (fun k => if p ((k : Int) + 1) then (([] : List Int).count ((k : Int) + 1) : Int) else 0) = sumN n (fun _ => 0) := sumN_congr _ fun k _ => by simp
    rw [this, sumN_zero]
    rfl
  | r :: rs, h => by
    have hr := h r List.mem_cons_self
    have ih := countP_rooms p n rs fun x hx => h x (List.mem_cons_of_mem _ hx)
    have e : (sumN n fun k => if p ((k : Int) + 1) then ((r :: rs).count ((k : Int) + 1) : Int) else 0) = (sumN n fun k => if p ((k : Int) + 1) then (rs.count ((k : Int) + 1) : Int) else 0) + sumN n fun k => if k = (r - 1).toNat then (if p r then 1 else 0) else 0 := by
      rw [← sumN_add]
      refine sumN_congr _ fun k hk => ?_
      rw [List.count_cons]
      by_cases hkr : k = (r - 1).toNat
      · have : (k : Int) + 1 = r := by omega
        rw [if_pos hkr, this]
        by_cases hp : p r = true
        · simp [hp]
        · simp [hp]
      · have : ¬ r = (k : Int) + 1 := by omega
        rw [if_neg hkr]
        simp [this]
    rw [e, ← ih, sumN_one (by omega), List.countP_cons]
    by_cases hp : p r = true <;> simp [hp]
def dsum (K : Nat) (M : Nat → Nat) (f : Nat → Nat → Int) : Int := sumN K fun k => sumN (M k) fun m => f k m
theorem dsum_add (K : Nat) (M : Nat → Nat) (f g : Nat → Nat → Int) : dsum K M (fun k m => f k m + g k m) = dsum K M f + dsum K M g := by
  unfold dsum
  rw [← sumN_add]
  exact sumN_congr _ fun k _ => sumN_add _ _ _
theorem dsum_one {K : Nat} {M : Nat → Nat} {c : Int} {k0 m0 : Nat} (hk : k0 < K) (hm : m0 < M k0) : dsum K M (fun k m => if k = k0 ∧ m = m0 then c else 0) = c := by
  unfold dsum
  have : (sumN K fun k => sumN (M k) fun m => if k = k0 ∧ m = m0 then c else 0) = sumN K fun k => if k = k0 then c else 0 := by
    refine sumN_congr _ fun k _ => ?_
    by_cases e : k = k0
    · subst e
      rw [if_pos rfl]
      have : (sumN (M k) fun m => if k = k ∧ m = m0 then c else 0) = sumN (M k) fun m => if m = m0 then c else 0 := sumN_congr _ fun m _ => by simp
      rw [this, sumN_one hm]
    · rw [if_neg e]
      have : (sumN (M k) fun m => if k = k0 ∧ m = m0 then c else 0) = sumN (M k) fun _ => 0 := sumN_congr _ fun m _ => by simp [e]
      rw [this, sumN_zero]
  rw [this, sumN_one hk]
theorem dsum_zero (K : Nat) (M : Nat → Nat) : dsum K M (fun _ _ => 0) = 0 := by
  unfold dsum
  have : (sumN K fun k => sumN (M k) fun _ => 0) = sumN K fun _ => 0 := sumN_congr _ fun k _ => sumN_zero _
  rw [this, sumN_zero]
theorem countP_steps (p : Step → Bool) (K : Nat) (M : Nat → Nat) (hp : ∀ s, p s = true → 0 ≤ s.1 ∧ 0 ≤ s.2 ∧ s.2.toNat < K ∧ s.1.toNat < M s.2.toNat) : ∀ ss : List Step, (ss.countP p : Int) = dsum K M fun k m => if p ((m : Int), (k : Int)) then (ss.count ((m : Int), (k : Int)) : Int) else 0
  | [] => by
    have : (fun (k m : Nat) => if p ((m : Int), (k : Int)) then (([] : List Step).count ((m : Int), (k : Int)) : Int) else 0) = fun _ _ => 0 := by
      funext k m
      simp
    rw [this, dsum_zero]
    rfl
  | s :: ss => by
    have ih := countP_steps p K M hp ss
    have e : (fun (k m : Nat) => if p ((m : Int), (k : Int)) then ((s :: ss).count ((m : Int), (k : Int)) : Int) else 0) = fun (k m : Nat) => (if p ((m : Int), (k : Int)) then (ss.count ((m : Int), (k : Int)) : Int) else 0) + (if k = s.2.toNat ∧ m = s.1.toNat then (if p s = true ∧ s = ((m : Int), (k : Int)) then 1 else 0) else 0) := by
      funext k m
      rw [List.count_cons]
      by_cases hs : s = ((m : Int), (k : Int))
      · subst hs
        by_cases hq : p ((m : Int), (k : Int)) = true
        · simp [hq]
        · simp [hq]
      · have h1 : (s == ((m : Int), (k : Int))) = false := by simpa using hs
        rw [h1]
        have h2 : ¬ (p s = true ∧ s = ((m : Int), (k : Int))) := fun z => hs z.2
        rw [if_neg h2]
        simp
    rw [e, dsum_add, ← ih, List.countP_cons]
    by_cases hq : p s = true
    · obtain ⟨h1, h2, h3, h4⟩ := hp s hq
      have hss : s = ((s.1.toNat : Int), (s.2.toNat : Int)) := Prod.ext (by show s.1 = _; omega) (by show s.2 = _; omega)
      have e2 : (fun (k m : Nat) => if k = s.2.toNat ∧ m = s.1.toNat then (if p s = true ∧ s = ((m : Int), (k : Int)) then (1 : Int) else 0) else 0) = fun (k m : Nat) => if k = s.2.toNat ∧ m = s.1.toNat then (1 : Int) else 0 := by
        funext k m
        by_cases hc : k = s.2.toNat ∧ m = s.1.toNat
        · rw [if_pos hc, if_pos hc, if_pos ⟨hq, by rw [hc.1, hc.2]; exact hss⟩]
        · rw [if_neg hc, if_neg hc]
      rw [e2, dsum_one h3 h4]
      simp [hq]
    · have e2 : (fun (k m : Nat) => if k = s.2.toNat ∧ m = s.1.toNat then (if p s = true ∧ s = ((m : Int), (k : Int)) then (1 : Int) else 0) else 0) = fun _ _ => 0 := by
        funext k m
        simp [hq]
      rw [e2, dsum_zero]
      simp [hq]
theorem weak {ps : List Int} {ws : List Way} {T : Int} {fs : Paper} {wks : List Wk} (hok : houseOk ps ws = true) (hh : holdsZ ps ws T wks = true) : (wks.length : Int) ≤ boundZ ps ws T fs := by
  obtain ⟨_, hpk, hwk⟩ := houseOk_iff.mp hok
  rw [holdsZ, Bool.and_eq_true, Bool.and_eq_true, List.all_eq_true] at hh
  obtain ⟨hend, hroom, hwide⟩ := hh
  have way : ∀ k : Nat, k < ws.length → wayAtZ ws k = ws.getD k default ∧ wayOk ps.length (wayAtZ ws k) = true := by
    intro k hk
    have e : wayAtZ ws (k : Int) = ws[k] := by simp [wayAtZ, List.getD_eq_getElem?_getD, List.getElem?_eq_getElem hk]
    refine ⟨by simp [wayAtZ], ?_⟩
    rw [e]
    exact hwk _ (List.getElem_mem hk)
  have hl : ∀ k : Int, 0 ≤ k → k < ws.length → 0 ≤ (wayAtZ ws k).l := by
    intro k h0 h1
    obtain ⟨j, rfl⟩ : ∃ j : Nat, k = j := ⟨k.toNat, by omega⟩
    have := wayOk_of (way j (by omega)).2
    omega
  -- each walk costs
  have cost : ∀ w ∈ wks, (1 ≤ w.1 ∧ w.1 ≤ ps.length) ∧ (cntZ fs w.1 0 = false ∨ ∃ s ∈ w.2, crosses ws T fs s = true) := by
    intro w hw
    have he := hend w hw
    unfold endOk at he
    cases e : endZ ps.length ws w.1 w.2 with
    | none =>
      rw [e] at he
      cases he
    | some t =>
      rw [e] at he
      have he := of_decide_eq_true he
      have hr := (end_ok e).1
      refine ⟨hr, ?_⟩
      cases hc : cntZ fs w.1 0 with
      | false => exact .inl rfl
      | true =>
        refine .inr ?_
        rw [endZ, if_pos hr] at e
        cases hg : goZ ws w.1 0 w.2 with
        | none =>
          rw [hg] at e
          cases e
        | some x =>
          obtain ⟨h', t'⟩ := x
          rw [hg, outZ] at e
          split at e
          · rename_i h0
            cases e
            subst h0
            exact cross_of hl hg he (by omega) hc
          · cases e
  have c1 : ∀ l : List Wk, (∀ w ∈ l, cntZ fs w.1 0 = false ∨ ∃ s ∈ w.2, crosses ws T fs s = true) → l.length ≤ (l.map (·.1)).countP (fun r => !cntZ fs r 0) + (allS l).countP (crosses ws T fs) := by
    intro l
    induction l with
    | nil => intro _; simp
    | cons w l ih =>
      intro h
      have ih := ih fun x hx => h x (List.mem_cons_of_mem _ hx)
      have e1 : (allS (w :: l)).countP (crosses ws T fs) = w.2.countP (crosses ws T fs) + (allS l).countP (crosses ws T fs) := by
        simp [allS, List.countP_append]
      rw [List.length_cons, List.map_cons, List.countP_cons, e1]
      rcases h w List.mem_cons_self with h1 | ⟨s, hs, h1⟩
      · rw [if_pos (by rw [h1]; rfl)]
        omega
      · have : 0 < w.2.countP (crosses ws T fs) := List.countP_pos_iff.mpr ⟨s, hs, h1⟩
        omega
  have h1 := c1 wks fun w hw => (cost w hw).2
  -- the rooms
  have h2 : ((wks.map (·.1)).countP (fun r => !cntZ fs r 0) : Int) ≤ sumN ps.length (baseZ ps fs) := by
    rw [countP_rooms _ ps.length _ (fun r hr => by
      obtain ⟨w, hw, rfl⟩ := List.mem_map.mp hr
      exact (cost w hw).1)]
    refine sumN_le _ fun k hk => ?_
    rw [roomsOk, List.all_eq_true] at hroom
    have := of_decide_eq_true (hroom k (List.mem_range.mpr hk))
    rw [baseZ]
    cases hc : cntZ fs ((k : Int) + 1) 0
    · simpa using this
    · simp
  -- the ways
  have h3 : ((allS wks).countP (crosses ws T fs) : Int) ≤ sumN ws.length (fun k => crossZ T fs (ws.getD k default)) := by
    rw [countP_steps (crosses ws T fs) ws.length (fun k => (T - (ws.getD k default).l + 1).toNat) (fun s hs => by
      rw [crosses, Bool.and_eq_true] at hs
      obtain ⟨a1, a2, a3, a4⟩ := of_decide_eq_true hs.1
      refine ⟨a1, a3, by omega, ?_⟩
      have : wayAtZ ws s.2 = ws.getD s.2.toNat default := rfl
      rw [← this]
      omega)]
    refine sumN_le _ fun k hk => sumN_le _ fun m hm => ?_
    have hw := way k hk
    have hwo := wayOk_of hw.2
    rw [widthOk, List.all_eq_true] at hwide
    rw [stepZ, ← hw.1]
    show (if crosses ws T fs ((m : Int), (k : Int)) = true then ((allS wks).count ((m : Int), (k : Int)) : Int) else 0) ≤ _
    by_cases hc : crosses ws T fs ((m : Int), (k : Int)) = true
    · rw [if_pos hc]
      rw [crosses, Bool.and_eq_true] at hc
      rw [if_pos hc.2]
      by_cases hmem : ((m : Int), (k : Int)) ∈ allS wks
      · exact of_decide_eq_true (hwide _ hmem)
      · rw [List.count_eq_zero_of_not_mem hmem]
        show (0 : Int) ≤ _
        omega
    · rw [if_neg hc]
      split <;> omega
  unfold boundZ
  omega
def sp_law (K : PySem.W.Frag) (C : Cs) : Sp := fun vs H Q _ => ∃ (a : Addr) (ns : List Int), vs = [.ref a] ∧ SqL K H a (ns.map V.int) ∧ ns.length ≤ 63 ∧ ∀ H', Q (.bl true) H'
theorem h_cat2 {σ : St} {H : Hp} {ta tb : TE} {L : Addr} {was : List Addr} {wks : List Wk} {x : Wk} {B : List Wk → Prop} (ha : Val ta σ H (.ref L)) (hL : PlanIn H L was wks) (hb : ValH tb σ H (PlanV H fun w => w = [x])) (hz : wks.length ≤ 1000) :
    ValH (tOp rCat ta tb) σ H (PlanV H fun w => w = wks ++ [x]) := fun Q q => ha _ (hb _ fun v H2 z => by
  obtain ⟨D2, as2, w2, rfl, n2, e2, h2, b2⟩ := z
  have h1' := hL.same e2
  have l1 := h1'.2.len
  have l2 := h2.2.len
  have l3 : w2.length = 1 := by rw [b2]; rfl
  refine ⟨L, D2, was.map V.ref, as2.map V.ref, rfl, rfl, h1'.1, h2.1, sz_ok (by rw [List.length_map, List.length_map]; omega), fun p hp => q _ _ ⟨p, was ++ as2, wks ++ w2, rfl, e2.free hp, e2.trans (same_upd hp), ⟨by rw [upd_same, List.map_append], All2.append (h1'.2.same (same_upd hp)) (h2.2.same (same_upd hp))⟩, by rw [b2]⟩⟩)
theorem at4n {o0 o1 o2 o3 : Option Int} {x : Int} : ∃ o, o ∈ [o0, o1, o2, o3] ∧ atI ([o0, o1, o2, o3].map optV) (x % 4) = some (optV o) := by
  have h : x % 4 = 0 ∨ x % 4 = 1 ∨ x % 4 = 2 ∨ x % 4 = 3 := by omega
  rcases h with e | e | e | e <;> rw [e]
  · exact ⟨o0, by simp, rfl⟩
  · exact ⟨o1, by simp, rfl⟩
  · exact ⟨o2, by simp, rfl⟩
  · exact ⟨o3, by simp, rfl⟩
theorem holds_nil (ps : List Int) (ws : List Way) (T : Int) (h : ∀ x ∈ ps, countOk x = true) : holdsZ ps ws T [] = true := by
  have : roomsOk ps [] = true := by
    rw [roomsOk, List.all_eq_true]
    intro k hk
    rw [List.mem_range] at hk
    have := h (ps.getD k 0) (by rw [List.getD_eq_getElem?_getD, List.getElem?_eq_getElem hk]; exact List.getElem_mem _)
    simp only [countOk, decide_eq_true_eq] at this
    simp
    simp at this
    omega
  rw [holdsZ, this]
  rfl
section
variable {P : Program} {w : World} {K : PySem.W.Frag} {mg : Str → Option Value} {base : Heap} {C : Cs}
abbrev N_law : List PySem.Str := ["script", "plot", "house", "minutes", "walks", "k", "walk", "firsts", "cell", "most"]
theorem sc_law : FnScope N_law ["script"] (defScope s_law) := ⟨rfl, rfl, rfl, by decide +kernel, rfl, by decide +kernel, by decide +kernel⟩
theorem ok_law {f fd} (D : FnP K "law" "law" s_law f fd) (G : Bn mg) (c_law_house : Cal P w K mg base CX0 4 "_law_house" (sp_law_house K C)) (c_House_init : Mak P w K mg base (L2.CX P w) 2 "House" C.House (sp_House_init K C)) (c_bound : Cal P w K mg base (L2.CX P w) 2 "bound" (sp_bound K C)) (c_law_draw : Cal P w K mg base CX0 2 "_law_draw" (sp_law_draw K C)) (c_law_drawn_walk : Cal P w K mg base CX0 3 "_law_drawn_walk" (sp_law_drawn_walk K C)) (c_law_holds : Cal P w K mg base CX0 2 "_law_holds" (sp_law_holds K C)) (c_holds : Cal P w K mg base CX0 3 "holds" (sp_holds K C)) (c_law_bound : Cal P w K mg base CX0 1 "_law_bound" (sp_law_bound K C)) : FnOk P w K mg base CX0 5 f fd ["script"] (sp_law K C) := by
  refine D.ok sc_law (fun vs H Q E h => ?_) (fun cdv A outer s H vs Q E hr h => ?_)
  · obtain ⟨a, ns, rfl, hS, hz, q⟩ := h
    rfl
  · obtain ⟨a, ns, rfl, hS, hz, q⟩ := h
    have hu := hu_of hr
    refine ⟨_, PSs.nox (pss_cons (ps_set (i := 1) sc_law.nd rfl (Or.inl rfl) (pe_c c_law_house hr (by decide) pass0 rfl (pa_cons (pv 0) pa_nil)))
        (pss_cons (ps_set (i := 2) sc_law.nd rfl (Or.inl rfl) (pe_mk c_House_init hr (by decide) passL rfl (pa_cons (pe_callTy (T := "list") (call_list_ofK (K := K) rfl) (by rfl) G.list_ (by decide +kernel) (pa_cons (pe_ix (ix_tupK (K := K) rfl) (pv 1) pe_int (fun _ _ => rfl)) pa_nil)) (pa_cons (pe_callTy (T := "list") (call_list_ofK (K := K) rfl) (by rfl) G.list_ (by decide +kernel) (pa_cons (pe_ix (ix_tupK (K := K) rfl) (pv 1) pe_int (fun _ _ => rfl)) pa_nil)) pa_nil))))
        (pss_cons (ps_set (i := 3) sc_law.nd rfl (Or.inl rfl) (pe_op op_mod (pe_c c_law_draw hr (by decide) pass0 rfl (pa_cons (pv 0) (pa_cons pe_int pa_nil))) pe_int))
        (pss_cons (ps_set (i := 4) sc_law.nd rfl (Or.inl rfl) (pe_lst pa_nil))
        (pss_cons (ps_for PassesOwn.never rfl (pi_range1 rfl G.range_ (pa_cons pe_int pa_nil)) (pg_name (i := 5) sc_law.nd rfl (Or.inl rfl))
          (pss_cons (ps_set (i := 6) sc_law.nd rfl (Or.inl rfl) (pe_c c_law_drawn_walk hr (by decide) pass0 rfl (pa_cons (pv 0) (pa_cons (pe_op op_add pe_int (pe_op op_mul pe_int (pv 5))) (pa_cons (pv 1) (pa_cons pe_int pa_nil))))))
            (pss_one (ps_if (pt_val (pe_c c_law_holds hr (by decide) pass0 rfl (pa_cons (pv 1) (pa_cons (pe_op op_cat (pv 4) (pe_lst (pa_cons (pv 6) pa_nil))) (pa_cons (pv 3) pa_nil)))))
              (pss_one (ps_expr (pe_bmK (K := K) rfl PySem.F.plainAttrs_list PySem.F.slot_list_append PySem.F.type_list_append mt_append (pv 4) (pa_cons (pv 6) pa_nil))))
              pss_nil))))
        (pss_cons (ps_set (i := 7) sc_law.nd rfl (Or.inl rfl) (pe_lst pa_nil))
        (pss_cons (ps_for PassesOwn.never rfl (pi_range1 rfl G.range_ (pa_cons (pe_callB (id := "len") (call_len_seqK (K := K) rfl) (by rfl) G.len_ (by decide +kernel) (pa_cons (pe_ix (ix_tupK (K := K) rfl) (pv 1) pe_int (fun _ _ => rfl)) pa_nil)) pa_nil)) (pg_name (i := 5) sc_law.nd rfl (Or.inl rfl))
          (pss_cons (ps_set (i := 8) sc_law.nd rfl (Or.inl rfl) (pe_c c_law_draw hr (by decide) pass0 rfl (pa_cons (pv 0) (pa_cons (pe_op op_add pe_int (pv 5)) pa_nil))))
            (pss_one (ps_expr (pe_bmK (K := K) rfl PySem.F.plainAttrs_list PySem.F.slot_list_append PySem.F.type_list_append mt_append (pv 7) (pa_cons (pe_ix (ix_listK (K := K) rfl) (pe_lst (pa_cons pe_non (pa_cons pe_int (pa_cons (pe_op op_mod (pe_op op_fdiv (pv 8) pe_int) (pe_op op_add (pv 3) pe_int)) (pa_cons pe_int pa_nil))))) (pe_op op_mod (pv 8) pe_int) (fun _ _ => rfl)) pa_nil))))))
        (pss_cons (ps_if (pt_cmpR op_notB (pe_c c_holds hr (by decide) pass0 rfl (pa_cons (pv 2) (pa_cons (pv 4) (pa_cons (pv 3) pa_nil)))) pe_bl (nomark _))
          (pss_one (ps_ret pe_bl))
          pss_nil)
        (pss_cons (ps_set (i := 9) sc_law.nd rfl (Or.inl rfl) (pe_c c_bound hr (by decide) passL rfl (pa_cons (pv 2) (pa_cons (pv 3) (pa_cons (pv 7) pa_nil)))))
        (pss_one (ps_ret (pe_and (pe_cmpR op_eq (pv 9) (pe_c c_law_bound hr (by decide) pass0 rfl (pa_cons (pv 1) (pa_cons (pv 3) (pa_cons (pv 7) pa_nil)))) (nomark _)) (pe_one (pe_cmpR op_le (pe_callB (id := "len") (call_len_seqK (K := K) rfl) (by rfl) G.len_ (by decide +kernel) (pa_cons (pv 4) pa_nil)) (pv 9) (nomark _))))))))))))))), ?_⟩
    have hok := house_ok ns
    have hfl := folk_b ns
    have hwl := ways_b ns
    refine q_setH (h_plot (by kbo_bools) hS) ?_
    rintro v H1 ⟨p, pl, wl, as, rfl, e1, hP⟩
    have hS := Evl.ex_l e1 hS
    refine q_setH (h_house hok hP.2.2.2 (h_listT0 (by kbo_bools) hP.1 rfl hP.2.1) fun H' e => h_listT0 (by kbo_bools) (e _ _ hP.1) rfl (e _ _ hP.2.2.1)) ?_
    rintro v H2 ⟨h, rfl, nh, e2, hH⟩
    have hS := Evl.ex_l e2 hS
    have hP := hP.same e2
    generalize folkZ ns = ps at *
    generalize waysZ ns = ws at *
    have hpk := (houseOk_iff.mp hok).2.1
    refine q_set (v := .int (drawZ ns 91 % 61)) (by kbo_bools) ?_
    have hT : 0 ≤ drawZ ns 91 % 61 ∧ drawZ ns 91 % 61 ≤ 60 := by omega
    generalize drawZ ns 91 % 61 = T at hT ⊢
    refine q_setH (h_lst (xs := []) (by kxs_still) (by show 0 ≤ sizeLine; decide)) ?_
    rintro v H3 ⟨L, rfl, nL, rfl⟩
    refine q_forR1 (n := 8) (by kxs_still) (by omega) (fun i σ' H' => ∃ was wks u5 u6, σ' = [some (.ref a), some (.ref p), some (.ref h), some (.int T), some (.ref L), u5, u6, none, none, none] ∧ Same H2 H' ∧ H' L = some (.lst (was.map V.ref)) ∧ All2 (fun a (w : Wk) => ∃ sl bs, WalkAt H' a sl bs w.1 w.2 ∧ sl ≠ L) was wks ∧ PB i 6 wks ∧ holdsZ ps ws T wks = true)
      ⟨[], [], none, none, rfl, same_upd nL, upd_same, .nil, by simp [PB], holds_nil ps ws T hpk⟩ ?_ ?_
    · rintro i σ' H' hi ⟨was, wks, u5, u6, rfl, e3, hL, hA, hB, hho⟩
      have hS' := Evl.ex_l e3 hS
      refine g_name ?_
      refine q_setH (P := fun v H5 => ∃ w sl bs r ss, v = .ref w ∧ H' sl = none ∧ Same H' H5 ∧ WalkAt H5 w sl bs r ss ∧ ss.length ≤ 6) (h_call (vs := [.ref a, .int (110 + 10 * (i : Int)), .ref p, .int 2]) (by kxs_still) fun Q q => ⟨a, p, pl, wl, ns, as, ps, ws, 110 + 10 * (i : Int), 2, rfl, hS', hP.same e3, by omega, by omega, by omega, by omega, fun w sl bs r ss H' h1 h2 h3 h4 h5 => q _ _ ⟨w, sl, bs, r, ss, rfl, h2, h3, h4, h5⟩⟩) ?_
      rintro v H5 ⟨wk, sl, bs, r, ss, rfl, nsl, e5, hwk, hz1⟩
      have hL5 := e5 _ _ hL
      have e25 := e3.trans e5
      have hA5 : All2 (fun a (w : Wk) => ∃ sl bs, WalkAt H5 a sl bs w.1 w.2 ∧ sl ≠ L) was wks := hA.imp fun b w ⟨sl, bs, x, n⟩ => ⟨sl, bs, x.same e5, n⟩
      have hpl : PlanIn H5 L was wks := ⟨hL5, hA5.imp fun b w ⟨sl, bs, x, _⟩ => ⟨sl, bs, x⟩⟩
      have hB1 := hB.1
      have hBn : PB (i + 1) 6 (wks ++ [(r, ss)]) := by
        refine ⟨by rw [List.length_append]; simp; omega, fun x hx => ?_⟩
        rcases List.mem_append.mp hx with hx | hx
        · exact hB.2 x hx
        · rw [List.mem_singleton] at hx
          rw [hx]
          exact hz1
      refine s_ifG (b := holdsZ ps ws T (wks ++ [(r, ss)])) (ag_B fun Q q => ?_) (fun hb H7 e7 => ?_) (fun hb H7 e7 => ?_)
      · show tCons _ _ _ _ _
        refine avh_cons (Val.h' (v := .ref p) (v_var rfl)) ?_
        rintro v H6 ⟨rfl, rfl⟩
        refine avh_cons (h_cat2 (B := fun _ => True) (v_var rfl) hpl (h_onePlan (x := (r, ss)) (v_var rfl) ⟨sl, bs, hwk⟩) (by omega)) ?_
        rintro v H7 ⟨D, das, dks, rfl, nD, e7, hD, rfl⟩
        refine avh_cons (Val.h' (v := .int T) (v_var rfl)) ?_
        rintro v H8 ⟨rfl, rfl⟩
        exact ⟨p, pl, wl, D, as, das, ps, ws, T, _, rfl, (hP.same e25).same e7, hok, hD, by have := hBn.1; omega, hBn.size (by omega) (by decide), fun H9 e9 => q H9 (e7.trans e9)⟩
      · have hL7 := e7 _ _ hL5
        have hsl : sl ≠ L := fun z => by
          rw [z, hL] at nsl
          cases nsl
        have hl := hA5.len
        refine s_app (l := L) hL7 (v_var rfl) (v := .ref wk) (v_var rfl) (sz_lt (by rw [List.length_map]; omega)) ⟨was ++ [wk], wks ++ [(r, ss)], _, _, rfl, same_mut (e25.trans e7) nL, by rw [upd_same, List.map_append]; rfl, WksAt_updL (All2.append (hA5.imp fun b w ⟨sl, bs, x, n⟩ => ⟨sl, bs, x.same e7, n⟩) (.cons ⟨sl, bs, hwk.same e7, hsl⟩ .nil)) hL7, hBn, hb⟩
      · exact ⟨was, wks, _, _, rfl, e25.trans e7, e7 _ _ hL5, hA5.imp fun b w ⟨sl, bs, x, n⟩ => ⟨sl, bs, x.same e7, n⟩, ⟨by omega, hB.2⟩, hho⟩
    rintro σ' H3 ⟨was, wks, u5, u6, rfl, e3, hL, hA, hB, hho⟩
    have hpl : PlanIn H3 L was wks := ⟨hL, hA.imp fun b w ⟨sl, bs, x, _⟩ => ⟨sl, bs, x⟩⟩
    clear hA hL
    have hB1 : wks.length ≤ 8 := by have := hB.1; omega
    have hsz := hB.size (by decide) (by decide)
    have hP3 := hP.same e3
    have hH3 := hH.same e3
    -- the paper
    refine q_setH (h_lst (xs := []) (by kxs_still) (by show 0 ≤ sizeLine; decide)) ?_
    rintro v H4 ⟨f, rfl, nf, rfl⟩
    have e4 := same_upd (o := .lst []) nf
    refine q_forR1 (n := (((ps.map V.int).length : Nat) : Int)) (av_cons (v_len (v_ixT (by kbo_bools) v_c (e4 _ _ hP3.1) rfl) (SqL.of (e4 _ _ hP3.2.1))) av_nil) (by rw [List.length_map]; omega) (fun i σ' H' => ∃ u5 u8 fs, σ' = [some (.ref a), some (.ref p), some (.ref h), some (.int T), some (.ref L), u5, u6, some (.ref f), u8, none] ∧ Same H3 H' ∧ PaperAt H' f fs ∧ fs.length = i ∧ ∀ y ∈ fs, entOk T y = true)
      ⟨u5, none, [], rfl, e4, upd_same, rfl, fun y hy => by simp at hy⟩ ?_ ?_
    · rintro i σ' H' hi ⟨u5, u8, fs, rfl, e5, hF, hl, hk⟩
      rw [List.length_map] at hi
      have hS' := Evl.ex_l (e3.trans e5) hS
      refine g_name ?_
      refine q_set (v := .int (drawZ ns (100 + (i : Int)))) (by kbo_bools) ?_
      generalize drawZ ns (100 + (i : Int)) = cell
      have hT1 : (0 : Int) < T + 1 := by omega
      have m1 := Int.emod_nonneg (cell / 4) (b := T + 1) (by omega)
      have m2 := Int.emod_lt_of_pos (cell / 4) hT1
      obtain ⟨o, ho1, ho2⟩ := at4n (o0 := none) (o1 := some 0) (o2 := some (cell / 4 % (T + 1))) (o3 := some 0) (x := cell)
      have hoT : entOk T o = true := by
        simp only [List.mem_cons, List.not_mem_nil, or_false] at ho1
        rcases ho1 with rfl | rfl | rfl | rfl
        · rfl
        · simp [entOk]; omega
        · simp [entOk]; omega
        · simp [entOk]; omega
      refine s_appH (l := f) (P := fun v H2 => v = optV o ∧ Same H' H2) hF (by kbo_bools) (h_ixLst (xs := [.non, .int 0, .int (cell / 4 % (T + 1)), .int 0]) (i := cell % 4) (av_cons v_c (av_cons v_c (av_cons (v_I (i := cell / 4) (by kbo_bools) (by kbo_bools) hT1) (av_cons (by kbo_bools) av_nil)))) (by show 4 ≤ 1000; decide) (fun H' e => by kbo_bools) ho2) (by rw [List.length_map]; omega) (fun v H' z => z.2) ?_
      rintro v H2 ⟨rfl, e6⟩
      refine ⟨_, _, fs ++ [o], rfl, same_mut (e5.trans e6) nf, ?_, by simp [hl], fun y hy => ?_⟩
      · show (upd H2 f _) f = _
        rw [upd_same, List.map_append]
        rfl
      · rcases List.mem_append.mp hy with h | h
        · exact hk y h
        · rw [List.mem_singleton] at h
          rw [h]
          exact hoT
    rintro σ' H5 ⟨u5, u8, fs, rfl, e5, hF, hl, hk⟩
    have hpo : paperOk ps.length T fs = true := by
      simp only [paperOk, Bool.and_eq_true, decide_eq_true_eq, List.all_eq_true]
      refine ⟨?_, hk⟩
      rw [hl, List.length_map]
      omega
    have hweak := weak (fs := fs) hok hho
    have hpl5 := hpl.same e5
    have hP5 := hP3.same e5
    have hH5 := hH3.same e5
    refine q_whenG (b := !decide (true = true)) (ag_test (g_notB (g_call (vs := [.ref h, .ref L, .int T]) (v := .bl true) (by kxs_still) fun Q q => ⟨h, L, as, was, ps, ws, T, wks, rfl, hH5, by omega, hpl5, hsz, by rw [hho]; exact q⟩) fun H6 e6 => g_of v_c)) (fun hb => by simp at hb) (fun _ H6 e6 => ?_)
    refine q_setG (v := .int (boundZ ps ws T fs)) (g_call (vs := [.ref h, .int T, .ref f]) (by kxs_still) fun Q q => ⟨h, f, as, ps, ws, T, fs, rfl, hH5.same e6, hok, by omega, e6 _ _ hF, fun _ => q, fun z => by rw [hpo] at z; cases z⟩) fun H7 e7 => ?_
    have e57 := e6.trans e7
    have hplL := hpl5.2.len
    generalize hbd : boundZ ps ws T fs = bd at hweak
    refine s_retG (v := .bl (decide (V.int bd = V.int bd) && decide ((((was.map V.ref).length : Nat) : Int) ≤ bd))) (g_andV (g_eqS (g_of (by kbo_bools)) (fun H8 e8 => g_call (vs := [.ref p, .int T, .ref f]) (by kxs_still) fun Q q => ⟨p, pl, wl, f, as, ps, ws, T, fs, rfl, hP5.same (e57.trans e8), hok, by omega, (e57.trans e8) _ _ hF, hpo, by rw [hbd]; exact q⟩) rfl) fun _ H8 e8 => g_of (v_I0 (v_len (v_var rfl) (SqL.of ((e57.trans e8) _ _ hpl5.1))) (by kbo_bools))) fun H8 e8 => ?_
    have hfin : (decide (V.int bd = V.int bd) && decide ((((was.map V.ref).length : Nat) : Int) ≤ bd)) = true := by
      rw [List.length_map, hplL, decide_eq_true hweak]
      simp
    rw [hfin]
    exact q H8
end
set_option maxHeartbeats 0
def CsOf (K : PySem.W.Frag) : Cs := { House := He.ga K "House", Flow := 0, BadHouse := He.ga K "BadHouse", NoWalk := He.ga K "NoWalk", BadPaper := He.ga K "BadPaper", NoText := 0, HallError := He.ga K "HallError" }
def exB : PySem.W.Frag → Bool := fun K => true
abbrev R : PySem.W.OpenRow := PySem.W.OpenLaw.row PySem.Challenge.rw_emptyhall_k07_whole_no_plan_above_a_pape
abbrev hk : PySem.W.Hook := hookX 4 fa fn exB
def ob (s : PySem.W.SharedT) : AlX := obsXG 4 fa fn exB (HandSHeadRun.getT s)
theorem ob_eq (s : PySem.W.SharedT) : ob s = hk.obs s.abs := obsXG_eq (HandSHeadRun.getT_eq s)
theorem run (w : World) : HandSHeadRun.RunEq R (PySem.W.view R.prog [27]) hk ob 4000 loose w := by
  intro os
  kernel_rfl
theorem facts {P : Program} {w : World} {K : PySem.W.Frag} {h : Heap} {mg : Str → Option Value} {fL : Addr} (X : K.In h) (G0 : h.Ns mainGlobals mg) (hfa : mg ("law" : Str) = some (.ref fL)) (c : SaysX fa fn exB K) :
    ∃ (C : Cs) (fd : FuncData), (∀ (s : Shared) (v : Value), BindsTo s fd ⟨[v], []⟩ [("script", v)]) ∧ ∀ base : Heap, K.In base → base.Ns mainGlobals mg → FnOk P w K mg base CX0 5 fL fd ["script"] (sp_law K C) := by
  let C : Cs := CsOf K
  have G : Bn mg := { len_ := He.free_ok X G0 (c.d.fact 18 (f := .free "len") rfl), list_ := He.free_ok X G0 (c.d.fact 19 (f := .free "list") rfl), tuple_ := He.free_ok X G0 (c.d.fact 20 (f := .free "tuple") rfl), range_ := He.free_ok X G0 (c.d.fact 21 (f := .free "range") rfl), sum_ := He.free_ok X G0 (c.d.fact 22 (f := .free "sum") rfl), min_ := He.free_ok X G0 (c.d.fact 23 (f := .free "min") rfl), max_ := He.free_ok X G0 (c.d.fact 24 (f := .free "max") rfl), isinstance_ := He.free_ok X G0 (c.d.fact 25 (f := .free "isinstance") rfl), str_ := He.free_ok X G0 (c.d.fact 26 (f := .free "str") rfl), int_ := He.free_ok X G0 (c.d.fact 27 (f := .free "int") rfl), bool_ := He.free_ok X G0 (c.d.fact 28 (f := .free "bool") rfl), enumerate_ := He.free_ok X G0 (c.d.fact 29 (f := .free "enumerate") rfl), ValueError_ := He.free_ok X G0 (c.d.fact 30 (f := .free "ValueError") rfl) }
  have g_HallError : mg "HallError" = some (.ref C.HallError) := He.glo_ok X G0 (c.d.fact 31 (f := .glo "HallError") rfl)
  have X_HallError : Xc K mg "HallError" C.HallError := ⟨(He.exc_ok (c.d.fact 32 (f := .exc "HallError") rfl)).1, g_HallError, (He.exc_ok (c.d.fact 32 (f := .exc "HallError") rfl)).2.1, (He.exc_ok (c.d.fact 32 (f := .exc "HallError") rfl)).2.2.1, (He.exc_ok (c.d.fact 32 (f := .exc "HallError") rfl)).2.2.2⟩
  have g_BadHouse : mg "BadHouse" = some (.ref C.BadHouse) := He.glo_ok X G0 (c.d.fact 33 (f := .glo "BadHouse") rfl)
  have X_BadHouse : Xc K mg "BadHouse" C.BadHouse := ⟨(He.exc_ok (c.d.fact 34 (f := .exc "BadHouse") rfl)).1, g_BadHouse, (He.exc_ok (c.d.fact 34 (f := .exc "BadHouse") rfl)).2.1, (He.exc_ok (c.d.fact 34 (f := .exc "BadHouse") rfl)).2.2.1, (He.exc_ok (c.d.fact 34 (f := .exc "BadHouse") rfl)).2.2.2⟩
  have g_NoWalk : mg "NoWalk" = some (.ref C.NoWalk) := He.glo_ok X G0 (c.d.fact 35 (f := .glo "NoWalk") rfl)
  have X_NoWalk : Xc K mg "NoWalk" C.NoWalk := ⟨(He.exc_ok (c.d.fact 36 (f := .exc "NoWalk") rfl)).1, g_NoWalk, (He.exc_ok (c.d.fact 36 (f := .exc "NoWalk") rfl)).2.1, (He.exc_ok (c.d.fact 36 (f := .exc "NoWalk") rfl)).2.2.1, (He.exc_ok (c.d.fact 36 (f := .exc "NoWalk") rfl)).2.2.2⟩
  have g_BadPaper : mg "BadPaper" = some (.ref C.BadPaper) := He.glo_ok X G0 (c.d.fact 37 (f := .glo "BadPaper") rfl)
  have X_BadPaper : Xc K mg "BadPaper" C.BadPaper := ⟨(He.exc_ok (c.d.fact 38 (f := .exc "BadPaper") rfl)).1, g_BadPaper, (He.exc_ok (c.d.fact 38 (f := .exc "BadPaper") rfl)).2.1, (He.exc_ok (c.d.fact 38 (f := .exc "BadPaper") rfl)).2.2.1, (He.exc_ok (c.d.fact 38 (f := .exc "BadPaper") rfl)).2.2.2⟩
  have g_House : mg "House" = some (.ref C.House) := He.glo_ok X G0 (c.d.fact 39 (f := .glo "House") rfl)
  have cl_House : Cls K C.House := He.cls_ok (c.d.fact 40 (f := .cls "House") rfl)
  have mk_House : Mk K C.House (He.ma K C.House "__init__") := He.mkr_ok (c.d.fact 41 (f := .mkr "House") rfl)
  have HC : HouseC K C := ⟨cl_House, He.noat_ok (c.d.fact 42 (f := .noat "House" "held") rfl), He.noat_ok (c.d.fact 43 (f := .noat "House" "laid") rfl)⟩
  have mx_NoWalk_NoWalk := He.exm_ok (c.d.fact 49 (f := .exm "NoWalk" "NoWalk" true) rfl)
  obtain ⟨fd0, F0⟩ := c.d.def_ 0 (d := d_counts_at) rfl
  obtain ⟨fd1, F1⟩ := c.d.def_ 1 (d := d_bound) rfl
  obtain ⟨fd2, F2⟩ := c.d.def_ 2 (d := d_see_way) rfl
  obtain ⟨fd3, F3⟩ := c.d.def_ 3 (d := d_House_init) rfl
  obtain ⟨fd4, F4⟩ := c.d.def_ 4 (d := d_House_people) rfl
  obtain ⟨fd5, F5⟩ := c.d.def_ 5 (d := d_House_ways) rfl
  obtain ⟨fd6, F6⟩ := c.d.def_ 6 (d := d_House_total) rfl
  obtain ⟨fd7, F7⟩ := c.d.def_ 7 (d := d_outside_at) rfl
  obtain ⟨fd8, F8⟩ := c.d.def_ 8 (d := d_narrow) rfl
  obtain ⟨fd9, F9⟩ := c.d.def_ 9 (d := d_holds) rfl
  obtain ⟨fd10, F10⟩ := c.d.def_ 10 (d := d_law_cell_at) rfl
  obtain ⟨fd11, F11⟩ := c.d.def_ 11 (d := d_law_draw) rfl
  obtain ⟨fd12, F12⟩ := c.d.def_ 12 (d := d_law_whole) rfl
  obtain ⟨fd13, F13⟩ := c.d.def_ 13 (d := d_law_people) rfl
  obtain ⟨fd14, F14⟩ := c.d.def_ 14 (d := d_law_way) rfl
  obtain ⟨fd15, F15⟩ := c.d.def_ 15 (d := d_law_house) rfl
  obtain ⟨fd16, F16⟩ := c.d.def_ 16 (d := d_law_end) rfl
  obtain ⟨fd17, F17⟩ := c.d.def_ 17 (d := d_law_holds) rfl
  obtain ⟨fd18, F18⟩ := c.d.def_ 18 (d := d_law_drawn_walk) rfl
  obtain ⟨fd19, F19⟩ := c.d.def_ 19 (d := d_law_bound) rfl
  obtain ⟨fd20, F20⟩ := c.d.def_ 20 (d := d_law_paper_right) rfl
  obtain ⟨fd21, F21⟩ := c.d.def_ 21 (d := d_law) rfl
  have m_counts_at := He.glo_ok X G0 (c.d.fact 0 (f := .glo "counts_at") rfl)
  have m_bound := He.glo_ok X G0 (c.d.fact 1 (f := .glo "bound") rfl)
  have m_see_way := He.glo_ok X G0 (c.d.fact 2 (f := .glo "see_way") rfl)
  have m_outside_at := He.glo_ok X G0 (c.d.fact 3 (f := .glo "outside_at") rfl)
  have m_narrow := He.glo_ok X G0 (c.d.fact 4 (f := .glo "narrow") rfl)
  have m_holds := He.glo_ok X G0 (c.d.fact 5 (f := .glo "holds") rfl)
  have m_law_cell_at := He.glo_ok X G0 (c.d.fact 6 (f := .glo "_law_cell_at") rfl)
  have m_law_draw := He.glo_ok X G0 (c.d.fact 7 (f := .glo "_law_draw") rfl)
  have m_law_whole := He.glo_ok X G0 (c.d.fact 8 (f := .glo "_law_whole") rfl)
  have m_law_people := He.glo_ok X G0 (c.d.fact 9 (f := .glo "_law_people") rfl)
  have m_law_way := He.glo_ok X G0 (c.d.fact 10 (f := .glo "_law_way") rfl)
  have m_law_house := He.glo_ok X G0 (c.d.fact 11 (f := .glo "_law_house") rfl)
  have m_law_end := He.glo_ok X G0 (c.d.fact 12 (f := .glo "_law_end") rfl)
  have m_law_holds := He.glo_ok X G0 (c.d.fact 13 (f := .glo "_law_holds") rfl)
  have m_law_drawn_walk := He.glo_ok X G0 (c.d.fact 14 (f := .glo "_law_drawn_walk") rfl)
  have m_law_bound := He.glo_ok X G0 (c.d.fact 15 (f := .glo "_law_bound") rfl)
  have m_law_paper_right := He.glo_ok X G0 (c.d.fact 16 (f := .glo "_law_paper_right") rfl)
  have e := hfa.symm.trans (He.glo_ok X G0 (c.d.fact 17 (f := .glo "law") rfl))
  cases e
  refine ⟨C, fd21, fun s v => FunD.bindsA (ps := ["script"]) F21 (fun _ _ _ _ _ _ us hl => match us, hl with | [_], _ => rfl) s [v] rfl, fun base _ _ => ?_⟩
  have c_law_cell_at : Cal P w K mg base CX0 1 "_law_cell_at" (sp_law_cell_at K C) := c_law_cell_at F10 m_law_cell_at G
  have c_law_draw : Cal P w K mg base CX0 2 "_law_draw" (sp_law_draw K C) := c_law_draw F11 m_law_draw G c_law_cell_at
  have c_law_way : Cal P w K mg base CX0 3 "_law_way" (sp_law_way K C) := c_law_way F14 m_law_way G c_law_draw
  have c_law_people : Cal P w K mg base CX0 3 "_law_people" (sp_law_people K C) := c_law_people F13 m_law_people G c_law_draw
  have c_law_house : Cal P w K mg base CX0 4 "_law_house" (sp_law_house K C) := c_law_house F15 m_law_house G c_law_draw c_law_way c_law_people
  have c_see_way : Cal P w K mg base (L2.CX P w) 1 "see_way" (sp_see_way K C) := c_see_way F2 m_see_way G X_BadHouse
  have c_House_init : Mak P w K mg base (L2.CX P w) 2 "House" C.House (sp_House_init K C) := c_House_init F3 g_House mk_House G HC X_BadHouse c_see_way
  have c_House_people : Met P w K mg base CX0 1 C.House "people" (sp_House_people K C) := c_House_people F4 cl_House (He.meth_ok (c.d.fact 44 (f := .meth "House" "people") rfl)) G HC
  have c_House_ways : Met P w K mg base CX0 1 C.House "ways" (sp_House_ways K C) := c_House_ways F5 cl_House (He.meth_ok (c.d.fact 45 (f := .meth "House" "ways") rfl)) G HC
  have c_counts_at : Cal P w K mg base CX0 1 "counts_at" (sp_counts_at K C) := c_counts_at F0 m_counts_at G
  have c_bound : Cal P w K mg base (L2.CX P w) 2 "bound" (sp_bound K C) := c_bound F1 m_bound G X_BadPaper c_House_people c_House_ways c_counts_at
  have c_law_drawn_walk : Cal P w K mg base CX0 3 "_law_drawn_walk" (sp_law_drawn_walk K C) := c_law_drawn_walk F18 m_law_drawn_walk G c_law_draw
  have c_law_end : Cal P w K mg base CX0 1 "_law_end" (sp_law_end K C) := c_law_end F16 m_law_end G
  have c_law_holds : Cal P w K mg base CX0 2 "_law_holds" (sp_law_holds K C) := c_law_holds F17 m_law_holds G c_law_end
  have c_narrow : Cal P w K mg base CX0 2 "narrow" (sp_narrow K C) := c_narrow F8 m_narrow G c_House_ways c_House_people
  have c_outside_at : Cal P w K mg base (L2.CX P w) 2 "outside_at" (sp_outside_at K C) := c_outside_at F7 m_outside_at G X_NoWalk c_House_ways c_House_people
  have c_holds : Cal P w K mg base CX0 3 "holds" (sp_holds K C) := c_holds F9 m_holds G g_NoWalk mx_NoWalk_NoWalk c_narrow c_outside_at
  have c_law_bound : Cal P w K mg base CX0 1 "_law_bound" (sp_law_bound K C) := c_law_bound F19 m_law_bound G
  exact ok_law F21 G c_law_house c_House_init c_bound c_law_draw c_law_drawn_walk c_law_holds c_holds c_law_bound
end EH
open PySem PySem.W PySem.Calls PyProof.Rows
theorem PySem.Challenge.cw_emptyhall_k07_whole_no_plan_above_a_pape_holds : PySem.Challenge.rw_emptyhall_k07_whole_no_plan_above_a_pape.Holds := by
  w_on; o_law
  refine HandSHeadRun.head_any (r := OpenLaw.row PySem.Challenge.rw_emptyhall_k07_whole_no_plan_above_a_pape) (q := view (OpenLaw.row PySem.Challenge.rw_emptyhall_k07_whole_no_plan_above_a_pape).prog [27]) (H := EH.hk) (ob := EH.ob) (M := 4000) (loose := EH.loose) (d := HandSHeadRun.topDef (OpenLaw.row PySem.Challenge.rw_emptyhall_k07_whole_no_plan_above_a_pape).prog 27) (kwd := []) EH.ob_eq
    (by kernel_rfl) (fun s => by kernel_rfl) EH.run (by kernel_rfl) (by kernel_rfl) (by kernel_rfl) (by rfl) (by first | assumption | decide +kernel) (by decide +kernel) ⟨rfl, rfl, rfl, rfl, rfl, by decide +kernel⟩ ?hw ?hc
  case hw => w_witness2
  case hc =>
    refine L2.walk_ofE (l := PySem.Challenge.rw_emptyhall_k07_whole_no_plan_above_a_pape) (n := 63) (k := 5) (x := "script") (CX := L2.CX0) rfl (by decide) (by kernel_rfl) ⟨rfl, by decide, by decide⟩ ?F (fun _ _ _ _ z => z)
    intro w mg fa h Y G hmg0
    obtain ⟨K, KX, c⟩ := Y
    have hmg : mg ("law" : PySem.Str) = some (.ref fa) := by
      have e : (HandSHeadRun.topDef (OpenLaw.row PySem.Challenge.rw_emptyhall_k07_whole_no_plan_above_a_pape).prog 27).name = ("law" : PySem.Str) := by kernel_rfl
      rw [← e]
      exact hmg0
    obtain ⟨C, fd, hb, hF⟩ := EH.facts (P := (PySem.Challenge.rw_emptyhall_k07_whole_no_plan_above_a_pape).prog) (w := w) KX G hmg c
    exact ⟨K, fd, EH.sp_law K C, KX, hb, fun H a ns hl _ hS => ⟨a, ns, rfl, hS, hl, fun _ => rfl⟩, hF⟩
#print axioms PySem.Challenge.cw_emptyhall_k07_whole_no_plan_above_a_pape_holds

