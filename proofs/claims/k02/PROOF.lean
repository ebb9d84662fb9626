import PyProof.Rows.All
import Wide.All
import OpenK.AllK
import Wide.FinOn
import KE.KStateDown
import HandS.ForMost
import HandS.ForExc
import HandS.Defaults
import HandS.IsInst
import HandS.Deep
import HandS.More
import HandS.SetFor
import HandS.Codes
import HandS.Head0
import HandS.Head1
import HandS.Head2
import HandS.HeadEnd
import HandS.HeadHook1
import HandS.HeadHook2
import HandS.Steps
import HandS.Evl
import HandS.ExcIs
import HandS.ExcValue
import PySem.Challenge.RW_emptyhall_k02_houses_refused
set_option Elab.async false
set_option linter.all false
set_option maxRecDepth 100000
set_option maxHeartbeats 2000000
/-! own layer: defs by name, a hook with one more look -/
namespace EH
open PySem PySem.Spec PyProof.Rows L2

/-! ### defs by name -/
abbrev FnP (K : PySem.W.Frag) (x qual : Str) (st : Stmt) (f : Addr) (fd : FuncData) : Prop := FunD K x qual (defArgs st) (defBody st) (defScope st) [] [] f fd
structure Cal (P : Program) (w : World) (K : PySem.W.Frag) (mg : Str → Option Value) (base : Heap) (CX : CXT) (k : Nat) (x : Str) (sp : Sp) : Prop where
  ex : ∃ (f : Addr) (fd : FuncData) (ps : List Str), FnOk P w K mg base CX k f fd ps sp ∧ mg x = some (.ref f) ∧ PySem.W.keepIn K (.ref f) = true ∧ Binds K fd ps []
structure Met (P : Program) (w : World) (K : PySem.W.Frag) (mg : Str → Option Value) (base : Heap) (CX : CXT) (k : Nat) (C : Addr) (m : Str) (sp : Sp) : Prop where
  ex : ∃ (f : Addr) (fd : FuncData) (ps : List Str), Cls K C ∧ Meth K C m f ∧ FnOk P w K mg base CX k f fd ps sp ∧ Binds K fd ps []
structure Mak (P : Program) (w : World) (K : PySem.W.Frag) (mg : Str → Option Value) (base : Heap) (CX : CXT) (k : Nat) (x : Str) (C : Addr) (sp : Sp) : Prop where
  ex : ∃ (f : Addr) (fd : FuncData) (ps : List Str), Mk K C f ∧ FnOk P w K mg base CX k f fd ps sp ∧ mg x = some (.ref C) ∧ Binds K fd ps []
section
variable {X : Cx} {CX : CXT} {E : XK} {k j : Nat} {C : Addr} {x m : Str} {sp : Sp} {p pos apos : Pos} {e o : Expr} {es : List Expr} {ta : TE} {t : TA}
theorem pe_c (c : Cal X.prog X.w X.K X.mg X.base CX k x sp) (hr : Room j X.A) (hk : k ≤ j) (hx : Passes CX X E) (hg : Gl X x) (ha : PA X (e :: es) t)
    (hdb : (x == ("__debug__" : Str)) = false := by decide) (he : starEach (e :: es) X.env = (false, eval e X.env) :: starEach es X.env := by rfl) (hpl : (backTo pos (starEach es X.env)).any (·.1) = false := by rfl) :
    PE X (.Call (.Name x p) (e :: es) [] pos) (tCall sp [] E t) := by
  obtain ⟨f, fd, ps, F, hm, kp, b⟩ := c.ex
  exact pe_call F (hr.mono hk) hg hm kp b .nil hx ha hdb he hpl
theorem pe_mk (c : Mak X.prog X.w X.K X.mg X.base CX k x C sp) (hr : Room j X.A) (hk : k + 1 ≤ j) (hx : Passes CX X E) (hg : Gl X x) (ha : PA X (e :: es) t)
    (hdb : (x == ("__debug__" : Str)) = false := by decide) (he : starEach (e :: es) X.env = (false, eval e X.env) :: starEach es X.env := by rfl) (hpl : (backTo pos (starEach es X.env)).any (·.1) = false := by rfl) :
    PE X (.Call (.Name x p) (e :: es) [] pos) (tMake C sp [] E t) := by
  obtain ⟨f, fd, ps, M, F, hm, b⟩ := c.ex
  exact pe_make M F (hr.mono hk) hg hm b .nil hx ha hdb he hpl
theorem pe_mt {pl : Sem Bool} (c : Met X.prog X.w X.K X.mg X.base CX k C m sp) (hr : Room j X.A) (hk : k ≤ j) (hx : Passes CX X E) (he : PE X o ta) (ha : PA X (e :: es) t)
    (hst : starEach (e :: es) X.env = (false, eval e X.env) :: starEach es X.env := by rfl) (hpl : (backTo pos (starEach es X.env)).any (·.1) = false := by rfl)
    (ht : eval (.Call (.Attribute o m apos) (e :: es) [] pos) X.env = (do
      let ov ← eval o X.env
      standAt apos.atName
      let (f, first) ← holding [ov] (getMethod ov m pl)
      callWith pos f first (backTo pos (starEach (e :: es) X.env)) (backToKw pos (keywordEach [] X.env))) := by rfl) :
    PE X (.Call (.Attribute o m apos) (e :: es) [] pos) (tMeth C m sp [] E ta t) := by
  obtain ⟨f, fd, ps, hc, hm, F, b⟩ := c.ex
  exact pe_meth (pl := pl) he hc hm F (hr.mono hk) b .nil hx ha hst hpl ht
theorem pe_mt0 {pl : Sem Bool} (c : Met X.prog X.w X.K X.mg X.base CX k C m sp) (hr : Room j X.A) (hk : k ≤ j) (hx : Passes CX X E) (he : PE X o ta)
    (ht : eval (.Call (.Attribute o m apos) [] [] pos) X.env = (do
      let ov ← eval o X.env
      standAt apos.atName
      let (f, first) ← holding [ov] (getMethod ov m pl)
      callWith pos f first (backTo pos (starEach [] X.env)) (backToKw pos (keywordEach [] X.env))) := by rfl) :
    PE X (.Call (.Attribute o m apos) [] [] pos) (tMeth C m sp [] E ta tNil) := by
  obtain ⟨f, fd, ps, hc, hm, F, b⟩ := c.ex
  exact pe_meth0 (pl := pl) he hc hm F (hr.mono hk) b .nil hx ht
end

/-! ### the hook of facts, with one more look -/
abbrev AlX : Type := He.AlD × Bool
def obsX (fa : List He.Fa) (fn : List He.DefD) (ex : PySem.W.Frag → Bool) (K : PySem.W.Frag) : AlX := (He.obsD fa fn K, ex K)
def valX (fn : List He.DefD) : AlX := (He.valD fn, true)
structure SaysX (fa : List He.Fa) (fn : List He.DefD) (ex : PySem.W.Frag → Bool) (K : PySem.W.Frag) : Prop where
  d : He.SaysD fa fn K
  x : ex K = true
def obsXG (n : Nat) (fa : List He.Fa) (fn : List He.DefD) (ex : PySem.W.Frag → Bool) (g : Addr → Option Obj) : AlX := obsX fa fn ex (He.frG g (He.asD g n))
def hookX (n : Nat) (fa : List He.Fa) (fn : List He.DefD) (ex : PySem.W.Frag → Bool) : PySem.W.Hook where
  α := AlX
  obs := fun s => obsXG n fa fn ex s.heap.get?
  val := fun _ => valX fn
  says := fun _ h => ∃ K : PySem.W.Frag, K.In h ∧ SaysX fa fn ex K
  of := fun _ _ e => ⟨_, He.frG_in, ⟨congrArg Prod.fst e, congrArg Prod.snd e⟩⟩
  keeps := fun _ _ _ ⟨K, hK, c⟩ k => ⟨K, PySem.W.Frag.In.keeps hK k, c⟩
theorem obsXG_eq {n : Nat} {fa : List He.Fa} {fn : List He.DefD} {ex : PySem.W.Frag → Bool} {g : Addr → Option Obj} {s : Shared} (h : ∀ a, g a = s.heap.get? a) : obsXG n fa fn ex g = (hookX n fa fn ex).obs s := by
  have e : g = s.heap.get? := funext h
  rw [e] <;> rfl
end EH

set_option maxHeartbeats 2000000
/-! own layer, 1: readings in short: values (Val), tests (Ans), lists of arguments (AV), statements -/
namespace EH
open PySem PySem.Spec PyProof.Rows L2
abbrev St := L2.St
def AV (t : TA) (σ : St) (H : Hp) (vs : List V) : Prop := ∀ Q : List V → Hp → Prop, Q vs H → t σ H Q
section
variable {K : PySem.W.Frag} {σ : St} {H : Hp} {ta tb tc te : TE} {t u : TT} {x y z v : V} {a b c : Bool} {i j k : Int}

theorem av_nil : AV tNil σ H [] := fun _ q => q
theorem av_cons {tr : TA} {vs : List V} (h : Val ta σ H x) (hr : AV tr σ H vs) : AV (tCons ta tr) σ H (x :: vs) := fun _ q => h _ (hr _ q)
theorem v_c : Val (tC v) σ H v := fun _ q => q
theorem v_var {n : Nat} (h : σ[n]? = some (some v)) : Val (tVar n) σ H v := fun _ q => ⟨v, h, q⟩
theorem v_I0 {g : Int → Int → V} (ha : Val ta σ H (.int i)) (hb : Val tb σ H (.int j)) : Val (tOp (rI0 g) ta tb) σ H (g i j) := fun _ q => ha _ (hb _ ⟨i, j, rfl, rfl, q⟩)
theorem v_I {C : Int → Int → Prop} {g : Int → Int → V} (ha : Val ta σ H (.int i)) (hb : Val tb σ H (.int j)) (hc : C i j) : Val (tOp (rI C g) ta tb) σ H (g i j) := fun _ q => ha _ (hb _ ⟨i, j, rfl, rfl, hc, q⟩)
theorem v_neg : Val ta σ H (.int i) → Val (tUn (rU fun i => .int (-i)) ta) σ H (.int (-i)) := fun ha _ q => ha _ ⟨i, rfl, q⟩
theorem v_eq (ha : Val ta σ H x) (hb : Val tb σ H y) (hs : scal x y = true) : Val (tOp rEq ta tb) σ H (.bl (decide (x = y))) := fun _ q => ha _ (hb _ ⟨hs, q⟩)
theorem v_ne (ha : Val ta σ H x) (hb : Val tb σ H y) (hs : scal x y = true) : Val (tOp rNe ta tb) σ H (.bl (!decide (x = y))) := fun _ q => ha _ (hb _ ⟨hs, q⟩)
abbrev rIsNQ : R2 := fun x y H Q => y = .non ∧ Q (.bl (decide (x = .non))) H
abbrev rNotNQ : R2 := fun x y H Q => y = .non ∧ Q (.bl (!decide (x = .non))) H
theorem v_isN (ha : Val ta σ H x) : Val (tOp rIsNQ ta (tC .non)) σ H (.bl (decide (x = .non))) := fun _ q => ha _ ⟨rfl, q⟩
theorem v_notN (ha : Val ta σ H x) : Val (tOp rNotNQ ta (tC .non)) σ H (.bl (!decide (x = .non))) := fun _ q => ha _ ⟨rfl, q⟩
theorem v_fld {p C dx : Addr} {fs : List (Str × V)} {f : Str} (ha : Val ta σ H (.ref p)) (ho : H p = some (.ins C dx fs)) (hc : Cls K C) (hn : NoAttr K C f) (hl : fs.lookup f = some v) : Val (tFld K ta f) σ H v := fun _ q => ha _ ⟨p, C, dx, fs, v, rfl, ho, hc, hn, hl, q⟩
theorem v_ixL {p : Addr} {xs : List V} (ha : Val ta σ H (.ref p)) (hb : Val tb σ H (.int i)) (h : SqL K H p xs) (hi : atI xs i = some v) : Val (tOp (rIxL K) ta tb) σ H v := fun _ q => ha _ (hb _ ⟨p, xs, i, v, rfl, rfl, h, hi, q⟩)
theorem v_ixT {p : Addr} {xs : List V} (ha : Val ta σ H (.ref p)) (hb : Val tb σ H (.int i)) (h : H p = some (.tup xs)) (hi : atI xs i = some v) : Val (tOp (rIxT K) ta tb) σ H v := fun _ q => ha _ (hb _ ⟨p, xs, i, v, rfl, rfl, SqT.of h, hi, q⟩)
abbrev rLenQ (K : PySem.W.Frag) : List V → Hp → VK → Prop := fun xs H Q => ∃ p ys, xs = [.ref p] ∧ (SqL K H p ys ∨ SqT K H p ys) ∧ Q (.int ys.length) H
theorem v_len {p : Addr} {xs : List V} (ha : Val ta σ H (.ref p)) (h : SqL K H p xs) : Val (tCB (rLenQ K) (tCons ta tNil)) σ H (.int xs.length) := fun _ q => ha _ ⟨p, xs, rfl, .inl h, q⟩
theorem v_call {tr : TA} {sp : Sp} {E : XK} {vs : List V} (ht : AV tr σ H vs) (hs : ∀ Q : VK, Q v H → sp (vs ++ []) H Q E) : Val (tCall sp [] E tr) σ H v := fun Q q => ht _ (hs Q q)
theorem v_if (hc : Ans t σ H b) (h1 : b = true → Val ta σ H v) (h2 : b = false → Val tb σ H v) : Val (tIf t ta tb) σ H v := fun Q q => hc _ (by
  cases b with
  | true => exact iteT (h1 rfl Q q)
  | false => exact iteF (h2 rfl Q q))
theorem v_and (h1 : Val ta σ H (.bl a)) (h2 : a = true → Val tb σ H (.bl b)) : Val (tAndV ta tb) σ H (.bl (a && b)) := fun Q q => h1 _ ⟨a, rfl, by
  cases a with
  | true => exact iteT (h2 rfl Q q)
  | false => exact iteF q⟩
theorem v_or (h1 : Val ta σ H (.bl a)) (h2 : a = false → Val tb σ H (.bl b)) : Val (tOrV ta tb) σ H (.bl (a || b)) := fun Q q => h1 _ ⟨a, rfl, by
  cases a with
  | true => exact iteT q
  | false => exact iteF (h2 rfl Q q)⟩
theorem v_not (h : Val ta σ H (.bl a)) : Val (tNotV ta) σ H (.bl (!a)) := fun _ q => h _ ⟨a, rfl, q⟩
theorem v_isi {tp : TE} {cl : V} {tt uu : Value} (ha : Val ta σ H x) (hb : Val tp σ H cl) (hc : ClsV cl uu) (ht : TyX K H x tt) (hk : PySem.W.kitOne K tt uu = some b) : Val (tCB (rIsi K) (tCons ta (tCons tp tNil))) σ H (.bl b) :=
  fun _ q => ha _ (hb _ ⟨x, cl, tt, uu, b, rfl, hc, ht, hk, q⟩)
theorem Val.to (h : Val te σ H v) (e : v = x) : Val te σ H x := e ▸ h

theorem a_I0 {p : Int → Int → Bool} (ha : Val ta σ H (.int i)) (hb : Val tb σ H (.int j)) : Ans (tTest (tOp (rI0 fun i j => .bl (p i j)) ta tb)) σ H (p i j) := fun _ q => ha _ (hb _ ⟨i, j, rfl, rfl, _, rfl, q⟩)
theorem a_test (h : Val te σ H (.bl b)) : Ans (tTest te) σ H b := fun _ q => h _ ⟨b, rfl, q⟩
theorem a_B (h : Val te σ H (.bl b)) : Ans (tB te) σ H b := fun _ q => h _ ⟨b, rfl, q⟩
theorem a_chain {p q : Int → Int → Bool} (ha : Val ta σ H (.int i)) (hb : Val tb σ H (.int j)) (hc : Val tc σ H (.int k)) :
    Ans (tTest (tChain (rI0 fun i j => .bl (p i j)) (rI0 fun i j => .bl (q i j)) ta tb tc)) σ H (p i j && q j k) := fun Q h => ha _ (hb _ ⟨i, j, rfl, rfl, _, rfl, by
  cases e : p i j with
  | true =>
    rw [e] at h
    exact iteT (hc _ ⟨j, k, rfl, rfl, _, rfl, h⟩)
  | false =>
    rw [e] at h
    exact iteF ⟨_, rfl, h⟩⟩)
theorem a_not (h : Ans t σ H a) : Ans (tNot t) σ H (!a) := fun _ q => h _ q
theorem a_and (h1 : Ans t σ H a) (h2 : a = true → Ans u σ H b) : Ans (tAnd t u) σ H (a && b) := fun Q q => h1 _ (by
  cases a with
  | true => exact iteT (h2 rfl Q q)
  | false => exact iteF q)
theorem a_or (h1 : Ans t σ H a) (h2 : a = false → Ans u σ H b) : Ans (tOr t u) σ H (a || b) := fun Q q => h1 _ (by
  cases a with
  | true => exact iteT q
  | false => exact iteF (h2 rfl Q q))

/-! ### statements; in a row (q_), at the end (s_) -/
variable {D : Ends} {ts tz tu : TS} {P : V → Hp → Prop}
theorem s_set {n : Nat} (h : Val te σ H v) (k : D.nx (σ.set n (some v)) H) : tAsg te (gName n) D σ H := h _ k
theorem q_set {n : Nat} (h : Val te σ H v) (k : tz D (σ.set n (some v)) H) : tSeq (tAsg te (gName n)) tz D σ H := h _ k
theorem s_setH {n : Nat} (h : ValH te σ H P) (k : ∀ v H', P v H' → D.nx (σ.set n (some v)) H') : tAsg te (gName n) D σ H := h _ k
theorem q_setH {n : Nat} (h : ValH te σ H P) (k : ∀ v H', P v H' → tz D (σ.set n (some v)) H') : tSeq (tAsg te (gName n)) tz D σ H := h _ k
theorem s_ret (h : Val te σ H v) (k : D.rt v H) : tRet te D σ H := h _ k
theorem s_retH (h : ValH te σ H P) (k : ∀ v H', P v H' → D.rt v H') : tRet te D σ H := h _ k
theorem s_if (h : Ans t σ H b) (h1 : b = true → ts D σ H) (h2 : b = false → tu D σ H) : tIfS t ts tu D σ H := h _ (by
  cases b with
  | true => exact iteT (h1 rfl)
  | false => exact iteF (h2 rfl))
theorem q_if (h : Ans t σ H b) (h1 : b = true → ts { D with nx := tz D } σ H) (h2 : b = false → tu { D with nx := tz D } σ H) : tSeq (tIfS t ts tu) tz D σ H := s_if (D := { D with nx := tz D }) h h1 h2
/-- an if without else -/
theorem q_when (h : Ans t σ H b) (h1 : b = true → ts { D with nx := tz D } σ H) (h2 : b = false → tz D σ H) : tSeq (tIfS t ts tNext) tz D σ H := s_if (D := { D with nx := tz D }) h h1 h2
theorem s_drop (h : Val te σ H v) (k : D.nx σ H) : tDrop te D σ H := h _ k
theorem q_drop (h : Val te σ H v) (k : tz D σ H) : tSeq (tDrop te) tz D σ H := h _ k
theorem s_dropH (h : ValH te σ H P) (k : ∀ v H', P v H' → D.nx σ H') : tDrop te D σ H := h _ k
theorem q_dropH (h : ValH te σ H P) (k : ∀ v H', P v H' → tz D σ H') : tSeq (tDrop te) tz D σ H := h _ k
theorem q_seq (k : ts { D with nx := tz D } σ H) : tSeq ts tz D σ H := k
theorem q_app {l : Addr} {xs : List V} (hl : H l = some (.lst xs)) (ha : Val ta σ H (.ref l)) (h : Val te σ H v) (hz : xs.length < sizeLine) (k : tz D σ (upd H l (.lst (xs ++ [v])))) :
    tSeq (tDrop (tBM K "list" rAppend ta (tCons te tNil))) tz D σ H := ha _ ⟨.inl ⟨rfl, _, SqL.of hl⟩, h _ ⟨l, xs, v, rfl, rfl, hl, hz, k⟩⟩
theorem s_app {l : Addr} {xs : List V} (hl : H l = some (.lst xs)) (ha : Val ta σ H (.ref l)) (h : Val te σ H v) (hz : xs.length < sizeLine) (k : D.nx σ (upd H l (.lst (xs ++ [v])))) :
    tDrop (tBM K "list" rAppend ta (tCons te tNil)) D σ H := ha _ ⟨.inl ⟨rfl, _, SqL.of hl⟩, h _ ⟨l, xs, v, rfl, rfl, hl, hz, k⟩⟩
theorem q_forL {p : Addr} {xs : List V} {g : TG} (h : Val te σ H (.ref p)) (hx : SqL K H p xs) (Pv : Nat → St → Hp → Prop) (h0 : Pv 0 σ H) (hl : ∀ i σ' H', i ≤ xs.length → Pv i σ' H' → SqL K H' p xs)
    (hs : ∀ i x σ' H', xs[i]? = some x → Pv i σ' H' → g x σ' H' fun σ2 H2 => ts { D with nx := Pv (i + 1), ct := Pv (i + 1), bk := tz D } σ2 H2) (hd : ∀ σ' H', Pv xs.length σ' H' → tz D σ' H') : tSeq (tFor (iList K te) g ts) tz D σ H :=
  h _ ⟨p, rfl, ⟨xs, hx⟩, for_list (K := K) (a := p) (xs := xs) (D := { D with nx := tz D }) Pv h0 hl hs hd⟩
theorem q_forR1 {tr : TA} {n : Int} {g : TG} (h : AV tr σ H [.int n]) (hn : -1000000 ≤ n ∧ n ≤ 1000000) (Pv : Nat → St → Hp → Prop) (h0 : Pv 0 σ H)
    (hs : ∀ (i : Nat) σ' H', (i : Int) < n → Pv i σ' H' → g (.int (i : Int)) σ' H' fun σ2 H2 => ts { D with nx := Pv (i + 1), ct := Pv (i + 1), bk := tz D } σ2 H2) (hd : ∀ σ' H', Pv n.toNat σ' H' → tz D σ' H') : tSeq (tFor (iRng1 tr) g ts) tz D σ H :=
  h _ ⟨n, rfl, by omega, by omega, for_range (lo := 0) (n := n.toNat) (D := { D with nx := tz D }) Pv h0 (fun i σ' H' hi p => by
    rw [Int.zero_add]
    exact hs i σ' H' (by omega) p) hd⟩
theorem q_forR2 {tr : TA} {lo n : Int} {g : TG} (h : AV tr σ H [.int lo, .int n]) (hn : -1000000 ≤ lo ∧ lo ≤ 1000000 ∧ -1000000 ≤ n ∧ n ≤ 1000000) (Pv : Nat → St → Hp → Prop) (h0 : Pv 0 σ H)
    (hs : ∀ (i : Nat) σ' H', lo + (i : Int) < n → Pv i σ' H' → g (.int (lo + (i : Int))) σ' H' fun σ2 H2 => ts { D with nx := Pv (i + 1), ct := Pv (i + 1), bk := tz D } σ2 H2) (hd : ∀ σ' H', Pv (n - lo).toNat σ' H' → tz D σ' H') : tSeq (tFor (iRng2 tr) g ts) tz D σ H :=
  h _ ⟨lo, n, rfl, by omega, for_range (lo := lo) (n := (n - lo).toNat) (D := { D with nx := tz D }) Pv h0 (fun i σ' H' hi p => hs i σ' H' (by omega) p) hd⟩
theorem q_while (Pv : Nat → St → Hp → Prop) {m : Nat} (h0 : Pv m σ H)
    (hs : ∀ m σ' H', Pv m σ' H' → ∃ b, Ans t σ' H' b ∧ (b = true → ∀ N : St → Hp → Prop, (∀ m' σ2 H2, m' < m → Pv m' σ2 H2 → N σ2 H2) → ts { D with nx := N, ct := N, bk := tz D } σ' H') ∧ (b = false → tz D σ' H')) : tSeq (tWhile t ts) tz D σ H := by
  refine ⟨Pv, ⟨m, h0⟩, fun m σ' H' p => ?_⟩
  obtain ⟨b, hb, h1, h2⟩ := hs m σ' H' p
  refine hb _ ?_
  cases b with
  | true => exact iteT ⟨fun σ2 H2 => ∃ m', m' < m ∧ Pv m' σ2 H2, fun σ2 H2 z => z, h1 rfl _ fun m' σ2 H2 l q => ⟨m', l, q⟩⟩
  | false => exact iteF (h2 rfl)

theorem q_fldH {p : Addr} {f : Str} (h : ValH te σ H P) (k : ∀ v H', P v H' → Val ta σ H' (.ref p) ∧ ∃ C dx fs, H' p = some (.ins C dx fs) ∧ Cls K C ∧ NoAttr K C f ∧ fs.length < 1000 ∧ tz D σ (upd H' p (.ins C dx (putF f v fs)))) :
    tSeq (sFld K ta te f) tz D σ H := h _ fun v H' p' => by
  obtain ⟨h1, C, dx, fs, h2, h3, h4, h5, h6⟩ := k v H' p'
  exact h1 _ ⟨p, C, dx, fs, rfl, h2, h3, h4, h5, h6⟩
theorem s_fldH {p : Addr} {f : Str} (h : ValH te σ H P) (k : ∀ v H', P v H' → Val ta σ H' (.ref p) ∧ ∃ C dx fs, H' p = some (.ins C dx fs) ∧ Cls K C ∧ NoAttr K C f ∧ fs.length < 1000 ∧ D.nx σ (upd H' p (.ins C dx (putF f v fs)))) :
    sFld K ta te f D σ H := h _ fun v H' p' => by
  obtain ⟨h1, C, dx, fs, h2, h3, h4, h5, h6⟩ := k v H' p'
  exact h1 _ ⟨p, C, dx, fs, rfl, h2, h3, h4, h5, h6⟩
theorem h_call {tr : TA} {sp : Sp} {E : XK} {vs : List V} (ht : AV tr σ H vs) (hs : ∀ Q : VK, (∀ v H', P v H' → Q v H') → sp (vs ++ []) H Q E) : ValH (tCall sp [] E tr) σ H P := fun Q q => ht _ (hs Q q)
theorem h_meth {tr : TA} {sp : Sp} {E : XK} {vs : List V} {C p dx : Addr} {m : Str} {fs : List (Str × V)} (ha : Val ta σ H (.ref p)) (ho : H p = some (.ins C dx fs)) (hl : fs.lookup m = none) (ht : AV tr σ H vs) (hs : ∀ Q : VK, (∀ v H', P v H' → Q v H') → sp (.ref p :: (vs ++ [])) H Q E) :
    ValH (tMeth C m sp [] E ta tr) σ H P := fun Q q => ha _ ⟨p, dx, fs, rfl, ho, hl, ht _ (hs Q q)⟩
theorem h_make {tr : TA} {sp : Sp} {E : XK} {vs : List V} {C : Addr} (ht : AV tr σ H vs)
    (hs : ∀ (Q : VK) x dx, H x = none → H dx = none → dx ≠ x → (∀ H', P (.ref x) H' → Q (.ref x) H') → sp (.ref x :: (vs ++ [])) (upd (upd H dx (.own x)) x (.ins C dx [])) (fun v H2 => v = .non ∧ Q (.ref x) H2) E) : ValH (tMake C sp [] E tr) σ H P :=
  fun Q q => ht _ fun x dx h1 h2 h3 => hs Q x dx h1 h2 h3 fun H' p => q _ _ p
/-! ### new objects -/
def NewL (H : Hp) (xs : List V) : V → Hp → Prop := fun v H' => ∃ p, v = .ref p ∧ H p = none ∧ H' = upd H p (.lst xs)
def NewT (H : Hp) (xs : List V) : V → Hp → Prop := fun v H' => ∃ p, v = .ref p ∧ H p = none ∧ H' = upd H p (.tup xs)
theorem h_lst {tr : TA} {xs : List V} (h : AV tr σ H xs) (hz : xs.length ≤ sizeLine) : ValH (tLst tr) σ H (NewL H xs) := fun Q q => h _ ⟨hz, fun p hp => q _ _ ⟨p, rfl, hp, rfl⟩⟩
theorem h_tup {tr : TA} {xs : List V} (h : AV tr σ H xs) (hz : xs.length ≤ sizeLine) : ValH (tTup tr) σ H (NewT H xs) := fun Q q => h _ ⟨hz, fun p hp => q _ _ ⟨p, rfl, hp, rfl⟩⟩
abbrev rListQ (K : PySem.W.Frag) : List V → Hp → VK → Prop := fun xs H Q => ∃ p ys, xs = [.ref p] ∧ (SqL K H p ys ∨ SqT K H p ys) ∧ ∀ l, H l = none → Q (.ref l) (upd H l (.lst ys))
theorem h_list {p : Addr} {xs : List V} (ha : Val ta σ H (.ref p)) (h : SqL K H p xs) : ValH (tCB (rListQ K) (tCons ta tNil)) σ H (NewL H xs) := fun Q q => ha _ ⟨p, xs, rfl, .inl h, fun l hl => q _ _ ⟨l, rfl, hl, rfl⟩⟩
theorem Val.h' (h : Val te σ H v) : ValH te σ H (fun v' H' => v' = v ∧ H' = H) := fun Q q => h Q (q v H ⟨rfl, rfl⟩)
theorem ValH.imp {P' : V → Hp → Prop} (h : ValH te σ H P) (k : ∀ v H', P v H' → P' v H') : ValH te σ H P' := fun Q q => h Q fun v H' p => q v H' (k v H' p)
end
/-! ### heaps -/
theorem same_upd {H : Hp} {p : Addr} {o : HO} (h : H p = none) : Same H (upd H p o) := fun b x e => by
  rw [upd_ne (ne_of_none e h)]
  exact e
theorem same_mut {H H' : Hp} {p : Addr} {o : HO} (e : Same H H') (h : H p = none) : Same H (upd H' p o) := fun b x q => by
  rw [upd_ne (ne_of_none q h)]
  exact e b x q
theorem ne_none {H : Hp} {a b : Addr} {o : HO} (h : H a = some o) (h' : H b = none) : a ≠ b := ne_of_none h h'
theorem sz_ok {n : Nat} (h : n ≤ 1000000) : n ≤ sizeLine := Nat.le_trans h (by decide)
theorem sz_lt {n : Nat} (h : n ≤ 1000000) : n < sizeLine := Nat.lt_of_le_of_lt h (by decide)
/-! ### the text's classes -/
structure Cs where
  House : Addr
  Flow : Addr
  BadHouse : Addr
  NoWalk : Addr
  BadPaper : Addr
  NoText : Addr
  HallError : Addr
structure HouseC (K : PySem.W.Frag) (C : Cs) : Prop where
  cl : Cls K C.House
  held : NoAttr K C.House "held"
  laid : NoAttr K C.House "laid"
structure FlowC (K : PySem.W.Frag) (C : Cs) : Prop where
  cl : Cls K C.Flow
  folk : NoAttr K C.Flow "folk"
  doors : NoAttr K C.Flow "doors"
  last : NoAttr K C.Flow "last"
  entered : NoAttr K C.Flow "entered"
  waited : NoAttr K C.Flow "waited"
  begun : NoAttr K C.Flow "begun"
/-! ### built-in names -/
structure Bn (mg : Str → Option Value) : Prop where
  len_ : mg "len" = none
  list_ : mg "list" = none
  tuple_ : mg "tuple" = none
  range_ : mg "range" = none
  sum_ : mg "sum" = none
  min_ : mg "min" = none
  max_ : mg "max" = none
  isinstance_ : mg "isinstance" = none
  str_ : mg "str" = none
  int_ : mg "int" = none
  bool_ : mg "bool" = none
  enumerate_ : mg "enumerate" = none
  ValueError_ : mg "ValueError" = none
/-- an own error -/
structure Xc (K : PySem.W.Frag) (mg : Str → Option Value) (nm : Str) (C : Addr) : Prop where
  xi : PySem.W.excIn K C He.veBase "ValueError.__new__" = true
  g : mg nm = some (.ref C)
  k : PySem.W.keepIn K (.ref C) = true
  b : PySem.W.subIn K (.ref C) (.type "BaseException") = some true
  t : PySem.W.typeIn K (.ref C) = some (.type "type")
/-! ### the library's rules, the written part named -/
section
variable {X : Cx} {K : PySem.W.Frag}
theorem ix_listK (h : X.K = K) : IxR X (rIxL K) := by subst h; exact ix_list
theorem ix_tupK (h : X.K = K) : IxR X (rIxT K) := by subst h; exact ix_tup
theorem sl_listK (h : X.K = K) : SlR X (rSlL K) := by subst h; exact sl_list
theorem call_len_seqK (h : X.K = K) : CallR X (.builtin "len") (rLenQ K) := by subst h; exact call_len_seq
theorem call_list_ofK (h : X.K = K) : CallR X (.type "list") (rListQ K) := by subst h; exact call_list_of
abbrev rTupQ (K : PySem.W.Frag) : List V → Hp → VK → Prop := fun xs H Q => ∃ a ys, xs = [.ref a] ∧ SqT K H a ys ∧ Q (.ref a) H
theorem call_tupleTK (h : X.K = K) : CallR X (.type "tuple") (rTupQ K) := by subst h; exact call_tupleT
abbrev rTup2Q (K : PySem.W.Frag) : List V → Hp → VK → Prop := fun xs H Q => ∃ p ys, xs = [.ref p] ∧ ((SqL K H p ys ∧ ∀ l, H l = none → Q (.ref l) (upd H l (.tup ys))) ∨ (SqT K H p ys ∧ Q (.ref p) H))
theorem call_tuple_ofK (h : X.K = K) : CallR X (.type "tuple") (rTup2Q K) := by subst h; exact call_tuple_of
theorem cr_sumK (h : X.K = K) (hc : X.calm = true) : CallR X (.builtin "sum") (rSum K) := by subst h; exact cr_sum hc
theorem cr_minK' (h : X.K = K) (hc : X.calm = true) : CallR X (.builtin "min") (rMin K) := by subst h; exact cr_min hc
theorem call_isiK' (h : X.K = K) : CallR X (.builtin "isinstance") (rIsi K) := by subst h; exact call_isi
theorem op_eqDK (h : X.K = K) (hu : X.A.units + 64 < cLine) : OpR X (compareOp .Eq) (rEqD K) := by subst h; exact op_eqD hu
theorem op_neDK (h : X.K = K) (hu : X.A.units + 64 < cLine) : OpR X (compareOp .NotEq) (rNeD K) := by subst h; exact op_neD hu
theorem op_in_seqK (h : X.K = K) : OpR X (compareOp .In) (rIn K false) := by subst h; exact op_in_seq
theorem op_notIn_seqK (h : X.K = K) : OpR X (compareOp .NotIn) (rIn K true) := by subst h; exact op_notIn_seq
theorem mt_indexK (h : X.K = K) : MtR X "list.index" (rIndex K) := by subst h; exact mt_index
theorem mt_lcountK (h : X.K = K) : MtR X "list.count" (rCntI K) := by subst h; exact mt_lcount
theorem pi_listK {tg l : Expr} {tl : TE} (h : X.K = K) (hl : PE X l tl) : PI X tg l (iList K tl) := by subst h; exact pi_list hl
theorem pi_tupK {tg l : Expr} {tl : TE} (h : X.K = K) (hl : PE X l tl) : PI X tg l (iTup K tl) := by subst h; exact pi_tup hl
theorem pi_enumK {e : Expr} {ta : TA} {p pos tpos : Pos} {elts : List Expr} {kk : Nat} (h : X.K = K) (hg : Gl X "enumerate") (hm : X.mg "enumerate" = none) (ha : PA X [e] ta) (hs : starEach [e] X.env = [(false, eval e X.env)] := by rfl) :
    PI X (.Tuple elts kk tpos) (.Call (.Name "enumerate" p) [e] [] pos) (iEnum K ta) := by subst h; exact pi_enum hg hm ha hs
theorem pe_fldK {e : Expr} {f : Str} {pos : Pos} {ta : TE} (h : X.K = K) (he : PE X e ta) (hb : attributeBase e f X.env (eval e X.env) = eval e X.env) : PE X (.Attribute e f pos) (tFld K ta f) := by subst h; exact pe_fld he hb
theorem ps_fldK {o value : Expr} {f : Str} {pos pos' : Pos} {ta tv : TE} (h : X.K = K) (ha : PE X o ta) (hv : PE X value tv) (hs : swapsWith value (some (.Attribute o f pos')) pos.line X.env = pure false) : PS X (.Assign [.Attribute o f pos'] value pos) (sFld K ta tv f) := by subst h; exact ps_fld ha hv hs
theorem pe_bm0K {o : Expr} {to : TE} {name : Str} {apos cpos : Pos} {T id : String} {r : V → List V → Hp → VK → Prop} (h : X.K = K) (pa : PlainAttrs T) (slot : Slot T name id) (hty : typeOf (.builtin id) = pure (.type "method_descriptor")) (hm : MtR X id r) (ho : PE X o to)
    (hbase : attributeBase o name X.env (eval o X.env) = eval o X.env := by rfl) (hline : (apos.endLine == cpos.line) = true := by rfl) : PE X (.Call (.Attribute o name apos) [] [] cpos) (tBM0 K T r to) := by subst h; exact pe_bm0 pa slot hty hm ho hbase hline
theorem pe_bmK {o e : Expr} {es : List Expr} {to : TE} {t : TA} {name : Str} {apos cpos : Pos} {T id : String} {r : V → List V → Hp → VK → Prop} (h : X.K = K) (pa : PlainAttrs T) (slot : Slot T name id) (hty : typeOf (.builtin id) = pure (.type "method_descriptor")) (hm : MtR X id r) (ho : PE X o to) (ha : PA X (e :: es) t)
    (hbase : attributeBase o name X.env (eval o X.env) = eval o X.env := by rfl)
    (hfew : ((backTo cpos (starEach (e :: es) X.env)).all (fun x => !x.1) && (backToKw cpos (keywordEach [] X.env)).all (fun x => x.1.isSome)
      && decide ((e :: es).length + ([] : List Keyword).length + (if ([] : List Keyword).isEmpty then 0 else 1) < 30)) = true := by rfl)
    (hline : (apos.endLine == cpos.line) = true := by rfl) (hs : starEach (e :: es) X.env = (false, eval e X.env) :: starEach es X.env := by rfl) (hplain : (backTo cpos (starEach es X.env)).any (·.1) = false := by rfl) :
    PE X (.Call (.Attribute o name apos) (e :: es) [] cpos) (tBM K T r to t) := by subst h; exact pe_bm pa slot hty hm ho ha hbase hfew hline hs hplain
theorem pg_tupK {es : List Expr} {k : Nat} {pos : Pos} {t : TGs} {n : Nat} (h : X.K = K) (hc : X.calm = true) (hh : PGs X es t)
    (hn : (assignEach es X.env).length = n := by rfl) (hst : (assignEach es X.env).findIdx? (·.1) = none := by rfl) : PG X (.Tuple es k pos) (gTup K n t) := by subst h; exact pg_tup hc hh hn hst
end
end EH

set_option maxHeartbeats 2000000
/-! own layer, 2: houses as data; lists of ways on the heap; comprehensions -/
namespace EH
open PySem PySem.Spec PyProof.Rows L2
/-! ### a def's promise under its name -/
section
variable {P : Program} {w : World} {K : PySem.W.Frag} {mg : Str → Option Value} {base : Heap}
theorem cal_of {CX : CXT} {k : Nat} {x : Str} {st : Stmt} {f : Addr} {fd : FuncData} {ps : List Str} {sp : Sp} (D : FnP K x x st f fd) (hm : mg x = some (.ref f)) (F : FnOk P w K mg base CX k f fd ps sp)
   (h : ∀ (kV doc pm : Value) (an : Option Addr) (cdv ct : Value) (us : List Value), us.length = ps.length → bindArgs (PySem.W.fnOf x x (defArgs st) (defBody st) (defScope st) .none kV doc pm an cdv ct) ⟨us, []⟩ = pure (ps.zip us)) :
   Cal P w K mg base CX k x sp := ⟨f, fd, ps, F, hm, D.kp, D.bindsN h⟩
theorem met_of {CX : CXT} {k : Nat} {x q : Str} {st : Stmt} {f A : Addr} {fd : FuncData} {ps : List Str} {sp : Sp} (D : FnP K x q st f fd) (hc : Cls K A) (hm : Meth K A x f) (F : FnOk P w K mg base CX k f fd ps sp)
   (h : ∀ (kV doc pm : Value) (an : Option Addr) (cdv ct : Value) (us : List Value), us.length = ps.length → bindArgs (PySem.W.fnOf x q (defArgs st) (defBody st) (defScope st) .none kV doc pm an cdv ct) ⟨us, []⟩ = pure (ps.zip us)) :
   Met P w K mg base CX k A x sp := ⟨f, fd, ps, hc, hm, F, D.bindsN h⟩
theorem mak_of {CX : CXT} {k : Nat} {x q : Str} {st : Stmt} {f A : Addr} {fd : FuncData} {ps : List Str} {sp : Sp} (D : FnP K "__init__" q st f fd) (hm : mg x = some (.ref A)) (M : Mk K A f) (F : FnOk P w K mg base CX k f fd ps sp)
   (h : ∀ (kV doc pm : Value) (an : Option Addr) (cdv ct : Value) (us : List Value), us.length = ps.length → bindArgs (PySem.W.fnOf "__init__" q (defArgs st) (defBody st) (defScope st) .none kV doc pm an cdv ct) ⟨us, []⟩ = pure (ps.zip us)) :
   Mak P w K mg base CX k x A sp := ⟨f, fd, ps, M, F, hm, D.bindsN h⟩
end
/-! ### data -/
structure Way where
  s : Int
  e : Int
  w : Int
  l : Int
  deriving DecidableEq, Inhabited
def wayV (w : Way) : List V := [.int w.s, .int w.e, .int w.w, .int w.l]
def intsD (ns : List Int) : PyData := .list (ns.map PyData.int)
def wayD (w : Way) : PyData := .tuple [.int w.s, .int w.e, .int w.w, .int w.l]
def waysD (ws : List Way) : PyData := .list (ws.map wayD)
inductive All2 {α β : Type} (R : α → β → Prop) : List α → List β → Prop
  | nil : All2 R [] []
  | cons {a b as bs} : R a b → All2 R as bs → All2 R (a :: as) (b :: bs)
theorem All2.len {α β : Type} {R : α → β → Prop} : ∀ {as : List α} {bs : List β}, All2 R as bs → as.length = bs.length
  | _, _, .nil => rfl
  | _, _, .cons _ t => congrArg Nat.succ t.len
theorem All2.imp {α β : Type} {R S : α → β → Prop} : ∀ {as : List α} {bs : List β}, All2 R as bs → (∀ a b, R a b → S a b) → All2 S as bs
  | _, _, .nil, _ => .nil
  | _, _, .cons h t, f => .cons (f _ _ h) (t.imp f)
theorem All2.get {α β : Type} {R : α → β → Prop} : ∀ {as : List α} {bs : List β} {i : Nat} {b : β}, All2 R as bs → bs[i]? = some b → ∃ a, as[i]? = some a ∧ R a b
  | _, _, _, _, .nil, h => by simp at h
  | _, _, 0, b, .cons h t, e => by
    simp at e
    subst e
    exact ⟨_, rfl, h⟩
  | _, _, i + 1, b, .cons h t, e => by
    obtain ⟨a, h1, h2⟩ := t.get (i := i) (by simpa using e)
    exact ⟨a, by simpa using h1, h2⟩
theorem All2.get' {α β : Type} {R : α → β → Prop} : ∀ {as : List α} {bs : List β} {i : Nat} {a : α}, All2 R as bs → as[i]? = some a → ∃ b, bs[i]? = some b ∧ R a b
  | _, _, _, _, .nil, h => by simp at h
  | _, _, 0, b, .cons h t, e => by
    simp at e
    subst e
    exact ⟨_, rfl, h⟩
  | _, _, i + 1, b, .cons h t, e => by
    obtain ⟨a, h1, h2⟩ := t.get' (i := i) (by simpa using e)
    exact ⟨a, by simpa using h1, h2⟩
theorem All2.set {α β : Type} {R : α → β → Prop} {a : α} {b : β} (r : R a b) : ∀ {as : List α} {bs : List β} (i : Nat), All2 R as bs → All2 R (as.set i a) (bs.set i b)
  | _, _, _, .nil => .nil
  | _, _, 0, .cons _ t => .cons r t
  | _, _, i + 1, .cons h t => .cons h (All2.set r i t)
theorem All2.of_get {α β : Type} {R : α → β → Prop} : ∀ {as : List α} {bs : List β}, as.length = bs.length → (∀ (i : Nat) (a : α) (b : β), as[i]? = some a → bs[i]? = some b → R a b) → All2 R as bs
  | [], [], _, _ => .nil
  | a :: as, b :: bs, hl, h => .cons (h 0 a b rfl rfl) (All2.of_get (by simpa using hl) fun i x y hx hy => h (i + 1) x y (by simpa using hx) (by simpa using hy))
def WayAt (H : Hp) (a : Addr) (w : Way) : Prop := H a = some (.tup (wayV w))
def WaysAt (H : Hp) (as : List Addr) (ws : List Way) : Prop := All2 (WayAt H) as ws
theorem WaysAt.same {H H' : Hp} {as : List Addr} {ws : List Way} (h : WaysAt H as ws) (e : Same H H') : WaysAt H' as ws := All2.imp h fun a w q => e a _ q
theorem WaysAt.fresh {H : Hp} {as : List Addr} {ws : List Way} (h : WaysAt H as ws) {p : Addr} (hp : H p = none) : p ∉ as := fun m => by
  obtain ⟨i, hi⟩ := List.getElem?_of_mem m
  obtain ⟨w, _, hw⟩ := All2.get' h hi
  have hw : H p = some (.tup (wayV w)) := hw
  rw [hp] at hw
  cases hw
/-! ### == of data -/
theorem dp_all_ints {K : PySem.W.Frag} {H : Hp} : ∀ ns : List Int, DpAll K H (ns.map V.int) (ns.map PyData.int)
  | [] => .nil
  | n :: ns => .cons (.int n) (dp_all_ints ns)
theorem dp_ints {K : PySem.W.Frag} {H : Hp} {p : Addr} {ns : List Int} (h : H p = some (.lst (ns.map V.int))) : Dp K H (.ref p) (intsD ns) := .lst (SqL.of h) (dp_all_ints ns)
theorem dp_way {K : PySem.W.Frag} {H : Hp} {p : Addr} {w : Way} (h : WayAt H p w) : Dp K H (.ref p) (wayD w) := .tup (SqT.of h) (.cons (.int _) (.cons (.int _) (.cons (.int _) (.cons (.int _) .nil))))
theorem dp_all_ways {K : PySem.W.Frag} {H : Hp} : ∀ {as : List Addr} {ws : List Way}, WaysAt H as ws → DpAll K H (as.map V.ref) (ws.map wayD)
  | _, _, .nil => .nil
  | _, _, .cons h t => .cons (dp_way h) (dp_all_ways t)
theorem dp_ways {K : PySem.W.Frag} {H : Hp} {p : Addr} {as : List Addr} {ws : List Way} (h : H p = some (.lst (as.map V.ref))) (hw : WaysAt H as ws) : Dp K H (.ref p) (waysD ws) := .lst (SqL.of h) (dp_all_ways hw)
theorem lay_ints : ∀ ns : List Int, PyData.canLayAll0 (ns.map PyData.int) = true
  | [] => rfl
  | n :: ns => by simp [PyData.canLayAll0, PyData.canLay0, lay_ints ns]
theorem lay_ways : ∀ ws : List Way, PyData.canLayAll0 (ws.map wayD) = true
  | [] => rfl
  | w :: ws => by simp [PyData.canLayAll0, PyData.canLay0, wayD, lay_ways ws]
theorem dep_ints : ∀ ns : List Int, PyData.depthAll (ns.map PyData.int) = 0
  | [] => rfl
  | n :: ns => by simp [PyData.depthAll, PyData.depth, dep_ints ns]
theorem dep_ways : ∀ ws : List Way, PyData.depthAll (ws.map wayD) ≤ 1
  | [] => by simp [PyData.depthAll]
  | w :: ws => by
    have := dep_ways ws
    simp [PyData.depthAll, PyData.depth, wayD, this]
theorem shaped_ints (ns : List Int) : SeqAt.shaped (intsD ns) = true := by
  simp [SeqAt.shaped, intsD, PyData.canLay0, lay_ints, PyData.depth, dep_ints]
theorem shaped_ways (ws : List Way) : SeqAt.shaped (waysD ws) = true := by
  have := dep_ways ws
  simp [SeqAt.shaped, waysD, PyData.canLay0, lay_ways, PyData.depth]
  omega
theorem shaped_nil : SeqAt.shaped (.list []) = true := by simp [SeqAt.shaped, PyData.canLay0, PyData.canLayAll0, PyData.depth, PyData.depthAll]
theorem shaped_pair {a b : PyData} (ha : SeqAt.shaped a = true) (hb : SeqAt.shaped b = true) (da : a.depth ≤ 60) (db : b.depth ≤ 60) : SeqAt.shaped (.list [a, b]) = true := by
  simp [SeqAt.shaped] at ha hb
  simp [SeqAt.shaped, PyData.canLay0, PyData.canLayAll0, PyData.depth, PyData.depthAll, ha.1, hb.1]
  omega
theorem dep_intsD (ns : List Int) : (intsD ns).depth ≤ 60 := by simp [intsD, PyData.depth, dep_ints]
theorem dep_waysD (ws : List Way) : (waysD ws).depth ≤ 60 := by
  have := dep_ways ws
  simp [waysD, PyData.depth]
  omega
theorem eqv_refl {d : PyData} (h : SeqAt.shaped d = true) : PyData.eqv d d = true := SeqAt.eqv_refl d (SeqAt.canLay_of_shaped h)
theorem eqvAll_ints : ∀ a b : List Int, PyData.eqvAll (a.map PyData.int) (b.map PyData.int) = decide (a = b)
  | [], [] => rfl
  | [], b :: bs => by simp [PyData.eqvAll]
  | a :: as, [] => by simp [PyData.eqvAll]
  | a :: as, b :: bs => by
    simp only [List.map_cons, PyData.eqvAll, PyData.eqv, eqvAll_ints as bs]
    by_cases h : a = b <;> simp [h]
theorem eqv_ints (a b : List Int) : PyData.eqv (intsD a) (intsD b) = decide (a = b) := by
  simp only [intsD, PyData.eqv, eqvAll_ints]
theorem eqv_way (a b : Way) : PyData.eqv (wayD a) (wayD b) = decide (a = b) := by
  obtain ⟨a1, a2, a3, a4⟩ := a
  obtain ⟨b1, b2, b3, b4⟩ := b
  simp only [wayD, PyData.eqv, PyData.eqvAll]
  rw [Bool.eq_iff_iff]
  simp
theorem eqvAll_ways : ∀ a b : List Way, PyData.eqvAll (a.map wayD) (b.map wayD) = decide (a = b)
  | [], [] => rfl
  | [], b :: bs => by simp [PyData.eqvAll]
  | a :: as, [] => by simp [PyData.eqvAll]
  | a :: as, b :: bs => by
    simp only [List.map_cons, PyData.eqvAll, eqv_way, eqvAll_ways as bs]
    by_cases h : a = b <;> simp [h]
theorem eqv_ways (a b : List Way) : PyData.eqv (waysD a) (waysD b) = decide (a = b) := by
  simp only [waysD, PyData.eqv, eqvAll_ways]
theorem eqv_ways_nil (a : List Way) : PyData.eqv (waysD a) (.list []) = decide (a = []) := by
  cases a <;> simp [waysD, PyData.eqv, PyData.eqvAll]
theorem eqv_ints_nil (a : List Int) : PyData.eqv (intsD a) (.list []) = decide (a = []) := by
  cases a <;> simp [intsD, PyData.eqv, PyData.eqvAll]
/-! ### comprehensions -/
/-- what is said of an item hangs on no list -/
def NoList (R : V → Hp → Prop) : Prop := ∀ v H H', R v H → (∀ a o, H a = some o → (∀ xs, o ≠ .lst xs) → H' a = some o) → R v H'
theorem noList_c {P : V → Prop} : NoList (fun v _ => P v) := fun _ _ _ h _ => h
theorem noList_tup {f : List V} {P : V → Prop} : NoList (fun v H => ∃ p, v = .ref p ∧ H p = some (.tup f)) := fun _ _ _ ⟨p, e, h⟩ k => ⟨p, e, k p _ h (fun _ z => by cases z)⟩
def Made (H : Hp) (n : Nat) (R : Nat → V → Hp → Prop) : V → Hp → Prop := fun v H' => ∃ D acc, v = .ref D ∧ H D = none ∧ Same H H' ∧ H' D = some (.lst acc) ∧ acc.length = n ∧ ∀ i x, acc[i]? = some x → R i x H'
/-- what a comprehension keeps: the list so far -/
structure LcInv (H1 : Hp) (D : Addr) (R : Nat → V → Hp → Prop) (i : Nat) (H' : Hp) : Prop where
  fr : H1 D = none
  sm : Same H1 H'
  acc : ∃ acc, H' D = some (.lst acc) ∧ acc.length = i ∧ ∀ k x, acc[k]? = some x → R k x H'
section
variable {K : PySem.W.Frag} {σ : L2.St} {H : Hp} {tl te : TE} {j : Nat} {vs : List Nat} {R : Nat → V → Hp → Prop}
theorem lc_start {D : Addr} (hD : H D = none) : LcInv H D R 0 (upd H D (.lst [])) := ⟨hD, same_upd hD, [], upd_same, rfl, fun k x h => by simp at h⟩
theorem lc_turn {H1 H' : Hp} {D : Addr} {i : Nat} {σ2 : L2.St} (hR : ∀ i, NoList (R i)) (hi : i < 100000) (p : LcInv H1 D R i H') (he : ValH te σ2 H' (fun v H2 => Same H' H2 ∧ R i v H2)) :
    tYes σ2 H' fun b H3 => if b = true then te σ2 H3 fun y H4 => ∃ acc, H4 D = some (.lst acc) ∧ acc.length < sizeLine ∧ LcInv H1 D R (i + 1) (upd H4 D (.lst (acc ++ [y]))) else LcInv H1 D R (i + 1) H3 := by
  obtain ⟨fr, sm, acc, ha, hl, hk⟩ := p
  refine iteT (B := LcInv H1 D R (i + 1) H') ?_
  refine he _ fun v H2 hv => ?_
  obtain ⟨e2, rv⟩ := hv
  refine ⟨acc, e2 D _ ha, sz_lt (by omega), fr, same_mut (sm.trans e2) fr, acc ++ [v], upd_same, by simp [hl], fun k x hx => ?_⟩
  have hst : ∀ a o, H2 a = some o → (∀ xs, o ≠ .lst xs) → (upd H2 D (.lst (acc ++ [v]))) a = some o := fun a o h1 h2 => by
    have : a ≠ D := fun z => by
      rw [z, e2 D _ ha] at h1
      exact h2 acc (Option.some.inj h1).symm
    rw [upd_ne this]
    exact h1
  by_cases hkl : k < acc.length
  · rw [List.getElem?_append_left hkl] at hx
    exact hR k x _ _ (hR k x _ _ (hk k x hx) fun a o h1 _ => e2 a o h1) hst
  · have hka : k = acc.length := by
      have := (List.getElem?_eq_some_iff.mp hx).1
      simp at this
      omega
    subst hka
    rw [List.getElem?_append_right (Nat.le_refl _), Nat.sub_self] at hx
    have : v = x := by simpa using hx
    subst this
    rw [hl]
    exact hR i v _ _ rv hst
/-- over range(n) -/
theorem h_lcR {tr : TA} {n : Int} (h : AV tr σ H [.int n]) (hn : 0 ≤ n ∧ n ≤ 40000) (hw : ∀ x, wipe ((wipe σ vs).set j (some x)) vs = wipe σ vs) (R : Nat → V → Hp → Prop) (hR : ∀ i, NoList (R i))
    (he : ∀ (i : Nat) H', (i : Int) < n → Same H H' → ValH te ((wipe σ vs).set j (some (.int (i : Int)))) H' (fun v H2 => Same H' H2 ∧ R i v H2)) : ValH (tLc (iRng1 tr) (gName j) tYes te vs) σ H (Made H n.toNat R) := fun Q q =>
  h _ ⟨n, rfl, by omega, by omega, fun D hD => lc_range (lo := 0) (n := n.toNat) (LcInv H D R) (lc_start hD) (fun i H' hi p => by
    rw [Int.zero_add]
    exact ⟨hw _, lc_turn hR (by omega) p (he i H' (by omega) p.sm)⟩) fun H' p => by
      obtain ⟨fr, sm, acc, h1, h2, h3⟩ := p
      exact q _ _ ⟨D, acc, rfl, fr, sm, h1, h2, h3⟩⟩
/-- over a list -/
theorem h_lcL {p : Addr} {xs : List V} (h : Val tl σ H (.ref p)) (hx : SqL K H p xs) (hz : xs.length ≤ 40000) (hw : ∀ x, wipe ((wipe σ vs).set j (some x)) vs = wipe σ vs) (R : Nat → V → Hp → Prop) (hR : ∀ i, NoList (R i))
    (he : ∀ (i : Nat) x H', xs[i]? = some x → Same H H' → ValH te ((wipe σ vs).set j (some x)) H' (fun v H2 => Same H' H2 ∧ R i v H2)) : ValH (tLc (iList K tl) (gName j) tYes te vs) σ H (Made H xs.length R) := fun Q q =>
  h _ ⟨p, rfl, ⟨xs, hx⟩, fun D hD => lc_list (K := K) (a := p) (xs := xs) (LcInv H D R) (lc_start hD) (fun i H' _ r => Evl.ex_l r.sm hx) (fun i x H' hi r =>
    ⟨hw _, lc_turn hR (by have := (List.getElem?_eq_some_iff.mp hi).1; omega) r (he i x H' hi r.sm)⟩) fun H' r => by
      obtain ⟨fr, sm, acc, h1, h2, h3⟩ := r
      exact q _ _ ⟨D, acc, rfl, fr, sm, h1, h2, h3⟩⟩
end
/-- items that are told by their place -/
theorem made_eq {H H' : Hp} {n : Nat} {f : Nat → V} {v : V} (h : Made H n (fun i x _ => x = f i) v H') : ∃ D, v = .ref D ∧ H D = none ∧ Same H H' ∧ H' D = some (.lst ((List.range n).map f)) := by
  obtain ⟨D, acc, rfl, fr, sm, h1, h2, h3⟩ := h
  refine ⟨D, rfl, fr, sm, ?_⟩
  have : acc = (List.range n).map f := by
    apply List.ext_getElem?
    intro i
    by_cases hi : i < n
    · rw [List.getElem?_map, List.getElem?_range hi]
      have hi' : i < acc.length := by omega
      rw [List.getElem?_eq_getElem hi']
      have := h3 i acc[i] (List.getElem?_eq_getElem hi')
      rw [this]
      rfl
    · rw [List.getElem?_eq_none (by omega), List.getElem?_eq_none (by simp; omega)]
  rw [h1, this]
/-- items that are tuples of ways -/
theorem made_ways {H H' : Hp} {n : Nat} {f : Nat → Way} {v : V} (h : Made H n (fun i x H2 => ∃ p, x = .ref p ∧ WayAt H2 p (f i)) v H') :
    ∃ D as, v = .ref D ∧ H D = none ∧ Same H H' ∧ H' D = some (.lst (as.map V.ref)) ∧ WaysAt H' as ((List.range n).map f) := by
  obtain ⟨D, acc, rfl, fr, sm, h1, h2, h3⟩ := h
  have key : ∀ (m : Nat) (l : List V) (g : Nat → Way), l.length = m → (∀ i x, l[i]? = some x → ∃ p, x = .ref p ∧ WayAt H' p (g i)) → ∃ as : List Addr, l = as.map V.ref ∧ WaysAt H' as ((List.range m).map g) := by
    intro m
    induction m with
    | zero =>
      intro l g hl _
      have : l = [] := List.eq_nil_of_length_eq_zero hl
      subst this
      exact ⟨[], rfl, .nil⟩
    | succ m ih =>
      intro l g hl hx
      cases l with
      | nil => simp at hl
      | cons x l =>
        obtain ⟨p, rfl, hp⟩ := hx 0 x rfl
        obtain ⟨as, e, hw⟩ := ih l (fun i => g (i + 1)) (by simpa using hl) fun i y hy => hx (i + 1) y (by simpa using hy)
        refine ⟨p :: as, by simp [e], ?_⟩
        rw [List.range_succ_eq_map, List.map_cons, List.map_map]
        exact .cons hp hw
  obtain ⟨as, e, hw⟩ := key n acc f h2 h3
  exact ⟨D, as, rfl, fr, sm, by rw [h1, e], hw⟩
/-- a written list at a reckoned place -/
theorem h_ixLst {K : PySem.W.Frag} {σ : L2.St} {H : Hp} {tr : TA} {tb : TE} {xs : List V} {i : Int} {z : V} (h : AV tr σ H xs) (hz : xs.length ≤ 1000) (hb : ∀ H', Same H H' → Val tb σ H' (.int i)) (hi : atI xs i = some z) :
    ValH (tOp (rIxL K) (tLst tr) tb) σ H (fun v H' => v = z ∧ Same H H') := fun Q q => h _ ⟨sz_ok (by omega), fun p hp => hb _ (same_upd hp) _ ⟨p, xs, i, z, rfl, rfl, SqL.of upd_same, hi, q _ _ ⟨rfl, same_upd hp⟩⟩⟩
end EH

set_option maxHeartbeats 2000000
/-! own layer, 3: values, tests, arguments that leave new objects behind (the heap grows) -/
namespace EH
open PySem PySem.Spec PyProof.Rows L2
def GV (te : TE) (σ : St) (H : Hp) (v : V) : Prop := ∀ Q : VK, (∀ H', Same H H' → Q v H') → te σ H Q
def AG (t : TT) (σ : St) (H : Hp) (b : Bool) : Prop := ∀ Q : Bool → Hp → Prop, (∀ H', Same H H' → Q b H') → t σ H Q
def AVG (t : TA) (σ : St) (H : Hp) (vs : List V) : Prop := ∀ Q : List V → Hp → Prop, (∀ H', Same H H' → Q vs H') → t σ H Q
section
variable {K : PySem.W.Frag} {σ : St} {H : Hp} {ta tb tc te : TE} {t u : TT} {x y z v : V} {a b c : Bool} {i j k : Int} {D : Ends} {ts tz tu : TS} {P : V → Hp → Prop}
theorem g_of (h : Val te σ H v) : GV te σ H v := fun Q q => h Q (q H (Same.refl H))
theorem ag_of (h : Ans t σ H b) : AG t σ H b := fun Q q => h Q (q H (Same.refl H))
theorem avg_of {tr : TA} {vs : List V} (h : AV tr σ H vs) : AVG tr σ H vs := fun Q q => h Q (q H (Same.refl H))
theorem g_I0 {g : Int → Int → V} (ha : GV ta σ H (.int i)) (hb : ∀ H', Same H H' → GV tb σ H' (.int j)) : GV (tOp (rI0 g) ta tb) σ H (g i j) := fun Q q => ha _ fun H1 e1 => hb H1 e1 _ fun H2 e2 => ⟨i, j, rfl, rfl, q H2 (e1.trans e2)⟩
theorem g_I {C : Int → Int → Prop} {g : Int → Int → V} (ha : GV ta σ H (.int i)) (hb : ∀ H', Same H H' → GV tb σ H' (.int j)) (hc : C i j) : GV (tOp (rI C g) ta tb) σ H (g i j) := fun Q q => ha _ fun H1 e1 => hb H1 e1 _ fun H2 e2 => ⟨i, j, rfl, rfl, hc, q H2 (e1.trans e2)⟩
theorem g_ixLst {tr : TA} {xs : List V} (h : AV tr σ H xs) (hz : xs.length ≤ 1000) (hb : ∀ H', Same H H' → Val tb σ H' (.int i)) (hi : atI xs i = some z) : GV (tOp (rIxL K) (tLst tr) tb) σ H z := fun Q q =>
  h_ixLst h hz hb hi Q fun v H' p => by
    obtain ⟨rfl, e⟩ := p
    exact q H' e
theorem g_call {tr : TA} {sp : Sp} {E : XK} {vs : List V} (ht : AV tr σ H vs) (hs : ∀ Q : VK, (∀ H', Same H H' → Q v H') → sp (vs ++ []) H Q E) : GV (tCall sp [] E tr) σ H v := fun Q q => ht _ (hs Q q)
theorem GV.h (h : GV te σ H v) : ValH te σ H (fun v' H' => v' = v ∧ Same H H') := fun Q q => h Q fun H' e => q v H' ⟨rfl, e⟩
theorem avg_nil : AVG tNil σ H [] := fun _ q => q H (Same.refl H)
theorem avg_cons {tr : TA} {vs : List V} (h : GV ta σ H x) (hr : ∀ H', Same H H' → AVG tr σ H' vs) : AVG (tCons ta tr) σ H (x :: vs) := fun _ q => h _ fun H1 e1 => hr H1 e1 _ fun H2 e2 => q H2 (e1.trans e2)
theorem h_tupG {tr : TA} {xs : List V} (h : AVG tr σ H xs) (hz : xs.length ≤ 1000) : ValH (tTup tr) σ H (fun v H' => ∃ p, v = .ref p ∧ H p = none ∧ Same H H' ∧ H' p = some (.tup xs)) := fun Q q => h _ fun H1 e1 => ⟨sz_ok (by omega), fun p hp => q _ _ ⟨p, rfl, e1.free hp, e1.trans (same_upd hp), upd_same⟩⟩
theorem h_lstG {tr : TA} {xs : List V} (h : AVG tr σ H xs) (hz : xs.length ≤ 1000) : ValH (tLst tr) σ H (fun v H' => ∃ p, v = .ref p ∧ H p = none ∧ Same H H' ∧ H' p = some (.lst xs)) := fun Q q => h _ fun H1 e1 => ⟨sz_ok (by omega), fun p hp => q _ _ ⟨p, rfl, e1.free hp, e1.trans (same_upd hp), upd_same⟩⟩
theorem ag_test (h : GV te σ H (.bl b)) : AG (tTest te) σ H b := fun _ q => h _ fun H1 e1 => ⟨b, rfl, q H1 e1⟩
theorem ag_B (h : GV te σ H (.bl b)) : AG (tB te) σ H b := fun _ q => h _ fun H1 e1 => ⟨b, rfl, q H1 e1⟩
theorem ag_not (h : AG t σ H a) : AG (tNot t) σ H (!a) := fun _ q => h _ q
theorem ag_and (h1 : AG t σ H a) (h2 : a = true → ∀ H', Same H H' → AG u σ H' b) : AG (tAnd t u) σ H (a && b) := fun Q q => h1 _ fun H1 e1 => by
  cases a with
  | true => exact iteT (h2 rfl H1 e1 Q fun H2 e2 => q H2 (e1.trans e2))
  | false => exact iteF (q H1 e1)
theorem ag_or (h1 : AG t σ H a) (h2 : a = false → ∀ H', Same H H' → AG u σ H' b) : AG (tOr t u) σ H (a || b) := fun Q q => h1 _ fun H1 e1 => by
  cases a with
  | true => exact iteT (q H1 e1)
  | false => exact iteF (h2 rfl H1 e1 Q fun H2 e2 => q H2 (e1.trans e2))
/-- == and != of data; the right one may be made on the way -/
theorem g_neD {d e : PyData} (ha : GV ta σ H x) (hb : ∀ H', Same H H' → ValH tb σ H' (fun y H2 => Same H' H2 ∧ Dp K H2 x d ∧ Dp K H2 y e)) (sd : SeqAt.shaped d = true) (se : SeqAt.shaped e = true) : GV (tOp (rNeD K) ta tb) σ H (.bl (!PyData.eqv d e)) :=
  fun Q q => ha _ fun H1 e1 => hb H1 e1 _ fun y H2 p => ⟨d, e, p.2.1, p.2.2, sd, se, q H2 (e1.trans p.1)⟩
theorem g_eqD {d e : PyData} (ha : GV ta σ H x) (hb : ∀ H', Same H H' → ValH tb σ H' (fun y H2 => Same H' H2 ∧ Dp K H2 x d ∧ Dp K H2 y e)) (sd : SeqAt.shaped d = true) (se : SeqAt.shaped e = true) : GV (tOp (rEqD K) ta tb) σ H (.bl (PyData.eqv d e)) :=
  fun Q q => ha _ fun H1 e1 => hb H1 e1 _ fun y H2 p => ⟨d, e, p.2.1, p.2.2, sd, se, q H2 (e1.trans p.1)⟩
/-- both operands may be made on the way -/
theorem g_neDH {d e : PyData} {P : V → Hp → Prop} (ha : ValH ta σ H P) (hb : ∀ x H', P x H' → Same H H' ∧ ValH tb σ H' (fun y H2 => Same H' H2 ∧ Dp K H2 x d ∧ Dp K H2 y e)) (sd : SeqAt.shaped d = true) (se : SeqAt.shaped e = true) : GV (tOp (rNeD K) ta tb) σ H (.bl (!PyData.eqv d e)) :=
  fun Q q => ha _ fun x H1 p1 => (hb x H1 p1).2 _ fun y H2 p => ⟨d, e, p.2.1, p.2.2, sd, se, q H2 ((hb x H1 p1).1.trans p.1)⟩
theorem h_nil {H : Hp} : ValH (tLst tNil) σ H (fun y H2 => Same H H2 ∧ Dp K H2 y (.list [])) := fun Q q => show ([] : List V).length ≤ sizeLine ∧ _ from ⟨Nat.zero_le _, fun p hp => q _ _ ⟨same_upd hp, .lst (SqL.of upd_same) .nil⟩⟩
theorem q_ifG (h : AG t σ H b) (h1 : b = true → ∀ H', Same H H' → ts { D with nx := tz D } σ H') (h2 : b = false → ∀ H', Same H H' → tu { D with nx := tz D } σ H') : tSeq (tIfS t ts tu) tz D σ H := h _ fun H' e => by
  cases b with
  | true => exact iteT (h1 rfl H' e)
  | false => exact iteF (h2 rfl H' e)
theorem q_whenG (h : AG t σ H b) (h1 : b = true → ∀ H', Same H H' → ts { D with nx := tz D } σ H') (h2 : b = false → ∀ H', Same H H' → tz D σ H') : tSeq (tIfS t ts tNext) tz D σ H := q_ifG h h1 h2
theorem q_setG {n : Nat} (h : GV te σ H v) (k : ∀ H', Same H H' → tz D (σ.set n (some v)) H') : tSeq (tAsg te (gName n)) tz D σ H := h _ k
theorem s_setG {n : Nat} (h : GV te σ H v) (k : ∀ H', Same H H' → D.nx (σ.set n (some v)) H') : tAsg te (gName n) D σ H := h _ k
theorem s_retG (h : GV te σ H v) (k : ∀ H', Same H H' → D.rt v H') : tRet te D σ H := h _ k
/-- if c: x = e, told by the value x has behind it -/
theorem q_ifset {n : Nat} (h : Ans t σ H b) (h1 : b = true → Val te σ H v) (h2 : b = false → σ.set n (some v) = σ) (k : tz D (σ.set n (some v)) H) : tSeq (tIfS t (tAsg te (gName n)) tNext) tz D σ H :=
  q_when h (fun hb => s_set (D := { D with nx := tz D }) (h1 hb) k) (fun hb => by
    rw [h2 hb] at k
    exact k)
/-- an if without else, what holds behind it told by M -/
theorem q_ifM (M : St → Hp → Prop) (h : AG t σ H b) (h1 : ∀ N : St → Hp → Prop, (∀ σ' H', M σ' H' → N σ' H') → b = true → ∀ H', Same H H' → ts { D with nx := N } σ H') (h2 : b = false → ∀ H', Same H H' → M σ H') (k : ∀ σ' H', M σ' H' → tz D σ' H') : tSeq (tIfS t ts tNext) tz D σ H :=
  q_ifG h (fun hb H' e => h1 (tz D) k hb H' e) fun hb H' e => k σ H' (h2 hb H' e)
theorem s_setLG {l : Addr} {xs : List V} {n : Nat} (hl : H l = some (.lst xs)) (h : GV te σ H v) (ho : ∀ H', Same H H' → Val ta σ H' (.ref l)) (hi : ∀ H', Same H H' → Val tb σ H' (.int i)) (hn : ixN xs.length i = some n) (k : ∀ H', Same H H' → D.nx σ (upd H' l (.lst (xs.set n v)))) :
    tAsg te (gSub ta tb rSetL) D σ H := h _ fun H1 e1 => ho H1 e1 _ (hi H1 e1 _ ⟨l, xs, i, n, rfl, rfl, e1 _ _ hl, hn, k H1 e1⟩)
/-- the value something new -/
theorem s_setLH {l : Addr} {xs : List V} {n : Nat} (hl : H l = some (.lst xs)) (h : ValH te σ H P) (hP : ∀ v H', P v H' → Same H H') (ho : ∀ H', Same H H' → Val ta σ H' (.ref l)) (hi : ∀ H', Same H H' → Val tb σ H' (.int i)) (hn : ixN xs.length i = some n) (k : ∀ v H', P v H' → D.nx σ (upd H' l (.lst (xs.set n v)))) :
    tAsg te (gSub ta tb rSetL) D σ H := h _ fun v H1 p => ho H1 (hP v H1 p) _ (hi H1 (hP v H1 p) _ ⟨l, xs, i, n, rfl, rfl, hP v H1 p _ _ hl, hn, k v H1 p⟩)
theorem at2 {a b i : Int} (h : i = 0 ∨ i = 1) : atI [V.int a, .int b] i = some (.int (if i = 0 then a else b)) := by
  rcases h with rfl | rfl <;> rfl
theorem ix_nn {n : Nat} {i : Int} (h : 0 ≤ i) (h2 : i < n) : ixN n i = some i.toNat := by
  unfold ixN
  rw [if_pos h, if_pos h2]
/-- xs[i] = v -/
theorem s_setL {l : Addr} {xs : List V} {n : Nat} (hl : H l = some (.lst xs)) (h : Val te σ H v) (ho : Val ta σ H (.ref l)) (hi : Val tb σ H (.int i)) (hn : ixN xs.length i = some n) (k : D.nx σ (upd H l (.lst (xs.set n v)))) :
    tAsg te (gSub ta tb rSetL) D σ H := h _ (ho _ (hi _ ⟨l, xs, i, n, rfl, rfl, hl, hn, k⟩))
theorem q_setL {l : Addr} {xs : List V} {n : Nat} (hl : H l = some (.lst xs)) (h : Val te σ H v) (ho : Val ta σ H (.ref l)) (hi : Val tb σ H (.int i)) (hn : ixN xs.length i = some n) (k : tz D σ (upd H l (.lst (xs.set n v)))) :
    tSeq (tAsg te (gSub ta tb rSetL)) tz D σ H := h _ (ho _ (hi _ ⟨l, xs, i, n, rfl, rfl, hl, hn, k⟩))
/-- append of something new -/
theorem q_appH {l : Addr} {xs : List V} (hl : H l = some (.lst xs)) (ha : Val ta σ H (.ref l)) (h : ValH te σ H P) (hz : xs.length ≤ 1000000) (hP : ∀ v H', P v H' → Same H H') (k : ∀ v H', P v H' → tz D σ (upd H' l (.lst (xs ++ [v])))) :
    tSeq (tDrop (tBM K "list" rAppend ta (tCons te tNil))) tz D σ H := ha _ ⟨.inl ⟨rfl, _, SqL.of hl⟩, h _ fun v H' p => ⟨l, xs, v, rfl, rfl, hP v H' p _ _ hl, sz_lt hz, k v H' p⟩⟩
theorem s_appH {l : Addr} {xs : List V} (hl : H l = some (.lst xs)) (ha : Val ta σ H (.ref l)) (h : ValH te σ H P) (hz : xs.length ≤ 1000000) (hP : ∀ v H', P v H' → Same H H') (k : ∀ v H', P v H' → D.nx σ (upd H' l (.lst (xs ++ [v])))) :
    tDrop (tBM K "list" rAppend ta (tCons te tNil)) D σ H := ha _ ⟨.inl ⟨rfl, _, SqL.of hl⟩, h _ fun v H' p => ⟨l, xs, v, rfl, rfl, hP v H' p _ _ hl, sz_lt hz, k v H' p⟩⟩
/-- x in a list made on the way -/
theorem g_inN {neg : Bool} {xs : List V} (ha : GV ta σ H x) (hb : ∀ H', Same H H' → ValH tb σ H' (fun v H2 => ∃ D, v = .ref D ∧ H' D = none ∧ Same H' H2 ∧ H2 D = some (.lst xs))) (hx : flatV x = true) (hxs : xs.all flatV = true) : GV (tOp (rIn K neg) ta tb) σ H (.bl (if neg then !inV x xs else inV x xs)) :=
  fun Q q => ha _ fun H1 e1 => hb H1 e1 _ fun y H2 p => by
    obtain ⟨D, rfl, _, e2, h⟩ := p
    exact ⟨D, xs, rfl, .inl (SqL.of h), hx, hxs, q H2 (e1.trans e2)⟩
theorem inV_none {x : V} : ∀ xs : List V, (∀ y ∈ xs, eqV y x = false) → inV x xs = false := fun xs h => by
  rw [inV, List.any_eq_false]
  intro y hy
  rw [h y hy]
  exact Bool.false_ne_true
/-! ### comprehensions whose items are told by what they come from -/
theorem lc_turnF {D : Addr} {acc : List V} {H' : Hp} {σ2 : L2.St} {tt : TT} {b : Bool} {out : V} (fr : H D = none) (sm : Same H H') (ha : H' D = some (.lst acc)) (hz : acc.length ≤ 100000) (ht : AG tt σ2 H' b) (he : b = true → ∀ H2, Same H' H2 → GV te σ2 H2 out)
    {Pn : Hp → Prop} (k : ∀ H2, Same H H2 → H2 D = some (.lst (acc ++ if b then [out] else [])) → Pn H2) :
    tt σ2 H' fun b H3 => if b = true then te σ2 H3 fun y H4 => ∃ acc, H4 D = some (.lst acc) ∧ acc.length < sizeLine ∧ Pn (upd H4 D (.lst (acc ++ [y]))) else Pn H3 := ht _ fun H3 e3 => by
  cases b with
  | true =>
    refine iteT (he rfl H3 e3 _ fun H4 e4 => ⟨acc, e4 _ _ (e3 _ _ ha), sz_lt (by omega), k _ (same_mut (sm.trans (e3.trans e4)) fr) upd_same⟩)
  | false => exact iteF (k H3 (sm.trans e3) (by simpa using e3 _ _ ha))
theorem take_map_filter {α : Type} {xs : List α} {f : α → Bool} {out : α → V} {i : Nat} {x : α} (h : xs[i]? = some x) : ((xs.take (i + 1)).filter f).map out = ((xs.take i).filter f).map out ++ if f x then [out x] else [] := by
  rw [List.take_add_one, h]
  simp only [Option.toList, List.filter_append, List.map_append]
  by_cases hf : f x = true <;> simp [hf]
theorem h_lcF {α : Type} {tl : TE} {tt : TT} {j : Nat} {vs : List Nat} {p : Addr} (xs : List α) (emb out : α → V) (f : α → Bool) (h : Val tl σ H (.ref p)) (hx : SqL K H p (xs.map emb)) (hz : xs.length ≤ 40000) (hw : ∀ x, wipe ((wipe σ vs).set j (some x)) vs = wipe σ vs)
    (ht : ∀ x H', x ∈ xs → Same H H' → AG tt ((wipe σ vs).set j (some (emb x))) H' (f x)) (he : ∀ x H', x ∈ xs → f x = true → Same H H' → GV te ((wipe σ vs).set j (some (emb x))) H' (out x)) :
    ValH (tLc (iList K tl) (gName j) tt te vs) σ H (fun v H' => ∃ D, v = .ref D ∧ H D = none ∧ Same H H' ∧ H' D = some (.lst ((xs.filter f).map out))) := fun Q q =>
  h _ ⟨p, rfl, ⟨_, hx⟩, fun D hD => lc_list (K := K) (a := p) (xs := xs.map emb) (fun i H' => Same H H' ∧ H' D = some (.lst (((xs.take i).filter f).map out))) ⟨same_upd hD, upd_same⟩ (fun i H' _ r => Evl.ex_l r.1 hx)
    (fun i x H' hi r => by
      rw [List.getElem?_map] at hi
      cases e : xs[i]? with
      | none =>
        rw [e] at hi
        cases hi
      | some y =>
        rw [e] at hi
        have hi : emb y = x := Option.some.inj hi
        subst hi
        have hm := List.mem_of_getElem? e
        have hl : (((xs.take i).filter f).map out).length ≤ xs.length := by
          rw [List.length_map]
          exact Nat.le_trans (List.length_filter_le _ _) (List.length_take_le' _ _)
        refine ⟨hw _, lc_turnF hD r.1 r.2 (by omega) (ht y H' hm r.1) (fun hf H2 e2 => he y H2 hm hf (r.1.trans e2)) fun H2 e2 h2 => ⟨e2, ?_⟩⟩
        rw [h2, take_map_filter e])
    fun H' r => q _ _ ⟨D, rfl, hD, r.1, by rw [r.2, List.length_map, List.take_length]⟩⟩
/-- over range(lo, hi) or range(n): the numbers told -/
theorem h_lcF2 {tr : TA} {tt : TT} {j : Nat} {vs : List Nat} {lo hi : Int} (out : Int → V) (f : Int → Bool) (h : AV tr σ H [.int lo, .int hi]) (hz : -100000 ≤ lo ∧ lo ≤ 100000 ∧ -100000 ≤ hi ∧ hi ≤ 100000 ∧ hi - lo ≤ 40000) (hw : ∀ x, wipe ((wipe σ vs).set j (some x)) vs = wipe σ vs)
    (ht : ∀ (x : Int) H', lo ≤ x → x < hi → Same H H' → AG tt ((wipe σ vs).set j (some (.int x))) H' (f x)) (he : ∀ (x : Int) H', lo ≤ x → x < hi → f x = true → Same H H' → GV te ((wipe σ vs).set j (some (.int x))) H' (out x)) :
    ValH (tLc (iRng2 tr) (gName j) tt te vs) σ H (fun v H' => ∃ D, v = .ref D ∧ H D = none ∧ Same H H' ∧ H' D = some (.lst ((((List.range (hi - lo).toNat).map fun (k : Nat) => lo + (k : Int)).filter f).map out))) := fun Q q =>
  h _ ⟨lo, hi, rfl, by omega, fun D hD => lc_range (lo := lo) (n := (hi - lo).toNat) (fun i H' => Same H H' ∧ H' D = some (.lst (((((List.range (hi - lo).toNat).map fun (k : Nat) => lo + (k : Int)).take i).filter f).map out))) ⟨same_upd hD, upd_same⟩
    (fun i H' hi' r => by
      have e : ((List.range (hi - lo).toNat).map fun (k : Nat) => lo + (k : Int))[i]? = some (lo + (i : Int)) := by
        rw [List.getElem?_map, List.getElem?_range hi']
        rfl
      have hl : (((((List.range (hi - lo).toNat).map fun (k : Nat) => lo + (k : Int)).take i).filter f).map out).length ≤ (hi - lo).toNat := by
        rw [List.length_map]
        refine Nat.le_trans (List.length_filter_le _ _) (Nat.le_trans (List.length_take_le' _ _) ?_)
        simp
      refine ⟨hw _, lc_turnF hD r.1 r.2 (by omega) (ht _ H' (by omega) (by omega) r.1) (fun hf H2 e2 => he _ H2 (by omega) (by omega) hf (r.1.trans e2)) fun H2 e2 h2 => ⟨e2, ?_⟩⟩
      rw [h2, take_map_filter e])
    fun H' r => q _ _ ⟨D, rfl, hD, r.1, by
      rw [r.2, List.take_of_length_le (by simp)]⟩⟩
theorem h_lcF1 {tr : TA} {tt : TT} {j : Nat} {vs : List Nat} {hi : Int} (out : Int → V) (f : Int → Bool) (h : AV tr σ H [.int hi]) (hz : 0 ≤ hi ∧ hi ≤ 40000) (hw : ∀ x, wipe ((wipe σ vs).set j (some x)) vs = wipe σ vs)
    (ht : ∀ (x : Int) H', 0 ≤ x → x < hi → Same H H' → AG tt ((wipe σ vs).set j (some (.int x))) H' (f x)) (he : ∀ (x : Int) H', 0 ≤ x → x < hi → f x = true → Same H H' → GV te ((wipe σ vs).set j (some (.int x))) H' (out x)) :
    ValH (tLc (iRng1 tr) (gName j) tt te vs) σ H (fun v H' => ∃ D, v = .ref D ∧ H D = none ∧ Same H H' ∧ H' D = some (.lst ((((List.range hi.toNat).map fun (k : Nat) => (k : Int)).filter f).map out))) := fun Q q =>
  h _ ⟨hi, rfl, by omega, by omega, fun D hD => lc_range (lo := 0) (n := hi.toNat) (fun i H' => Same H H' ∧ H' D = some (.lst (((((List.range hi.toNat).map fun (k : Nat) => (k : Int)).take i).filter f).map out))) ⟨same_upd hD, upd_same⟩
    (fun i H' hi' r => by
      rw [Int.zero_add]
      have e : ((List.range hi.toNat).map fun (k : Nat) => (k : Int))[i]? = some (i : Int) := by
        rw [List.getElem?_map, List.getElem?_range hi']
        rfl
      have hl : (((((List.range hi.toNat).map fun (k : Nat) => (k : Int)).take i).filter f).map out).length ≤ hi.toNat := by
        rw [List.length_map]
        refine Nat.le_trans (List.length_filter_le _ _) (Nat.le_trans (List.length_take_le' _ _) ?_)
        simp
      refine ⟨hw _, lc_turnF hD r.1 r.2 (by omega) (ht _ H' (by omega) (by omega) r.1) (fun hf H2 e2 => he _ H2 (by omega) (by omega) hf (r.1.trans e2)) fun H2 e2 h2 => ⟨e2, ?_⟩⟩
      rw [h2, take_map_filter e])
    fun H' r => q _ _ ⟨D, rfl, hD, r.1, by
      rw [r.2, List.take_of_length_le (by simp)]⟩⟩
theorem ag_yes : AG tYes σ H true := fun _ q => q H (Same.refl H)
theorem v_tupT {p : Addr} {ys : List V} (ha : Val ta σ H (.ref p)) (h : H p = some (.tup ys)) : Val (tCB (rTupQ K) (tCons ta tNil)) σ H (.ref p) := fun _ q => ha _ ⟨p, ys, rfl, SqT.of h, q⟩
end
end EH

set_option maxHeartbeats 2000000
/-! own layer, 4: list.count of data; an error that a clause catches and keeps as a value; isinstance of such -/
namespace EH
open PySem PySem.Spec PyProof.Rows L2
section
variable {X : Cx}
def rCntD (K : PySem.W.Frag) : V → List V → Hp → VK → Prop := fun x xs H Q => ∃ (a : Addr) (y : V) (d : PyData) (ds : List PyData), x = V.ref a ∧ xs = [y] ∧ Dp K H (V.ref a) (.list ds) ∧ Dp K H y d ∧ SeqAt.shaped (.list ds) = true ∧ SeqAt.shaped d = true ∧ Q (.int (ds.countP fun z => PyData.eqv z d : Nat)) H
theorem room65 {A : Around} {k : Nat} (hr : Room k A) : A.units + 65 < cLine := by have := hr.un; omega
theorem mt_countD {K : PySem.W.Frag} (hK : X.K = K) (hu : X.A.units + 65 < cLine) : MtR X "list.count" (rCntD K) := by
  subst hK
  intro pins s σ H x xs v us Q I rx rxs h
  obtain ⟨a, y, d, ds, rfl, rfl, hl, hy, sl, sd, q⟩ := h
  cases rx
  cases rxs with
  | cons ry rt =>
    rename_i uy ut
    cases rt
    obtain ⟨bs, r1⟩ := Dp.reads I d y uy hy ry
    have hxs : PyData.canLayAll0 ds = true := SeqAt.canLay_of_shaped sl
    have hroom : X.A.units + 1 + min (PyData.depthAll ds) d.depth < cLine := by
      have h1 := SeqAt.depth_of_shaped sd
      have h2 : min (PyData.depthAll ds) d.depth ≤ d.depth := Nat.min_le_right _ _
      omega
    cases hl with
    | lst hs ha =>
      obtain ⟨its, rv, ⟨⟨cls, dd, data, sls⟩, n, ho, hc, hdn, hdt⟩, hlen⟩ := I.list hs
      simp only at hc hdt
      subst hc hdt
      obtain ⟨as, h4⟩ := Dp.readsAll I ds _ its ha rv
      have hmap : its.map (SeqAt.readOf s.heap) = ds := SeqAt.readsAll_map ds its as hxs h4
      refine call_meets PySem.F.slot_list_count ⟨_, ho, rfl⟩ PySem.F.entry_list_count (PySem.F.args_list_count_2 _ _)
        (SeqAt.list_countAt a its.toArray n dd sls uy (fun u => PyData.eqv (SeqAt.readOf s.heap u) d)) ⟨ho, SeqAt.items_eqAt (vs := its.toArray) (show ReadsAll s.heap its.toArray.toList ds as from h4) r1 hxs (SeqAt.canLay_of_shaped sd) hroom, ?_⟩
      have ec : its.toArray.toList.countP (fun u => PyData.eqv (SeqAt.readOf s.heap u) d) = ds.countP fun z => PyData.eqv z d := by
        rw [← hmap, List.countP_map]
        rfl
      refine ⟨.int (ds.countP fun z => PyData.eqv z d : Nat), H, I.tok _, ⟨s.toks, ?_⟩, q⟩
      show Value.int ((its.toArray.toList.countP (fun u => PyData.eqv (SeqAt.readOf s.heap u) d) : Nat) : Int) s.toks = Value.int ((ds.countP fun z => PyData.eqv z d : Nat) : Int) s.toks
      rw [ec]
end
/-! ### an error kept -/
/-- an error of the class cls stands at a -/
def ExK (cls : Value) (a : Addr) : HO := .ext fun h => ∃ (oe : Obj) (vs : Array Value), h.get? a = some oe ∧ Zc cls none oe ∧ oe.data = .fields vs
theorem exK_ok {P : Program} {w : World} {H : Hp} {h : Heap} {a : Addr} {cls : Value} {oe : Obj} {vs : Array Value} (e : h.get? a = some oe) (z : Zc cls none oe) (d : oe.data = .fields vs) : ObjOk P w H h a (ExK cls a) :=
  ⟨⟨oe, vs, e, z, d⟩, ⟨oe, e⟩, fun _ _ ⟨o, v, q, r⟩ k => ⟨o, v, k o q, r⟩⟩
section
variable {X : Cx} {pins : List (Addr × Obj)} {σ : St} {H : Hp} {s : Shared}
/-- an object of ours, new since the entry, is tracked from here on -/
theorem Inv.track {a : Addr} {o : HO} {ob : Obj} (I : Inv X pins σ H s) (hb : s.heap.get? a = some ob) (hd : ∀ v, ob.data ≠ .cell v) (na : H a = none) (n0 : X.s_0.heap.get? a = none) (nL : a ≠ X.env.locals) (np : ∀ p ∈ X.pn ++ pins, p.1 ≠ a)
    (new : ObjOk X.prog X.w (upd H a o) s.heap a o) : Inv X pins σ (upd H a o) s := by
  have ne : ∀ b u, H b = some u → b ≠ a := fun b u e => ne_of_none e na
  have nc : ∀ x c, X.env.cells.lookup x = some c → c ≠ a := fun x c e z => by
    obtain ⟨v, o', h1, h2⟩ := I.cell x c e
    rw [z, hb] at h1
    cases h1
    exact hd v h2
  refine ⟨I.ok, I.os, I.bare, ⟨I.base.keep, I.base.slot, fun b u q n hx => ?_, I.base.there, fun b xs q => ?_, fun b u xs q => ?_, fun b ps q => ?_⟩, I.loc, I.cell, ?_, fun x c e => ?_, fun p hp => ?_, fun b u e => ?_, I.len⟩
  · have : b ≠ a := fun z => by
      rw [z, n0] at q
      cases q
    rw [upd_ne this]
    exact I.base.free b u q n hx
  · have := I.base.tups b xs q
    rw [upd_ne (ne _ _ this)]
    exact this
  · have := I.base.frzs b u xs q
    rw [upd_ne (ne _ _ this)]
    exact this
  · obtain ⟨more, e⟩ := I.base.tbls b ps q
    exact ⟨more, by rw [upd_ne (ne _ _ e)]; exact e⟩
  · rw [upd_ne nL.symm]
    exact I.free
  · rw [upd_ne (nc x c e)]
    exact I.freeC x c e
  · obtain ⟨h1, h2, h3⟩ := I.pin p hp
    refine ⟨h1, ?_, h3⟩
    rw [upd_ne (np p hp)]
    exact h2
  · by_cases hba : b = a
    · subst hba
      rw [upd_same] at e
      cases e
      exact new
    · rw [upd_ne hba] at e
      exact (I.hok b u e).stay (fun _ _ _ q => q) (fun c q => by rw [upd_ne (ne _ _ q)]; exact q) fun c xs q => by rw [upd_ne (ne _ _ q)]; exact q
theorem Inv.unsuiteP {a : Addr} {q : Addr × Obj} {pn' : List (Addr × Obj)} (I : Inv (X.suite a (q :: (X.pn ++ pins))) pn' σ H s) (ok : X.Ok) : Inv X (q :: pins) σ H s :=
  ⟨ok, I.os, I.bare, I.base, I.loc, I.cell, I.free, I.freeC, fun p hp => I.pin p (List.mem_append_left _ (by
    rcases List.mem_append.mp hp with h | h
    · exact List.mem_cons_of_mem _ (List.mem_append_left _ h)
    · rcases List.mem_cons.mp h with h | h
      · rw [h]; exact List.mem_cons_self
      · exact List.mem_cons_of_mem _ (List.mem_append_right _ h))), I.hok, I.len⟩
theorem Inv.unpin {q : Addr × Obj} (I : Inv X (q :: pins) σ H s) : Inv X pins σ H s := I.pins_of fun p hp => I.pin p (List.mem_append_right _ (List.mem_cons_of_mem _ hp))
end
/-- what the clause 'except x as n' wishes, the error kept behind it (slot i is n's) -/
def wKeep (K : PySem.W.Frag) (c : Value) (i : Nat) (ts : Addr → Value → Option Addr → TS) (Wout : WX) (D : Ends) : WX := fun cls d σ H =>
  ∃ b, PySem.W.exmOne K cls c = some b ∧ (b = true → d = none ∧ ∀ a, H a = none → ts a cls d { nx := fun σ' H' => D.nx (σ'.set i none) (upd H' a (ExK cls a)), rt := fun _ _ => False } (σ.set i (some (.ref a))) H) ∧ (b = false → Wout cls d σ H)
section
variable {X : Cx} {x n : Str} {c : Value} {i : Nat} {body suite : List Stmt} {b₀ : Stmt} {np pos pos' : Pos} {tb : WX → TS} {ts : Addr → Value → Option Addr → TS} {Wout : WX}
theorem ps_try_keep {K : PySem.W.Frag} (hK : X.K = K) (hs : X.stack = X.env :: X.outer) (hf : X.env.frame = some X.env.locals) (hex : X.ex = []) (hN : X.N.Nodup) (hi : X.N[i]? = some n) (hln : X.env.kindOf n = some .local) (hc : Names X x c) (tk : Takes X Wout)
    (hb : ∀ (W : WX) (pn : List (Addr × Obj)) (xe : Value → Shared → Prop), Takes (X.tr pn xe) W → PassesOwn (model X.prog X.w) X.A X.env xe → PSs (X.tr pn xe) body (tb W))
    (hsu : ∀ (a : Addr) (oe : Obj) (cls : Value) (d : Option Addr) (pn : List (Addr × Obj)), Zc cls d oe → (∃ vs, oe.data = .fields vs) → PSs (X.suite a ((a, oe) :: pn)) (b₀ :: suite) (ts a cls d)) :
    PS X (.Try body [.ExceptHandler (some (.Name x np)) (some n) (b₀ :: suite) pos'] [] [] pos) (fun D σ H => tb (wKeep K c i ts Wout D) D σ H) := by
  subst hK
  refine ⟨fun pins s σ H D I h => ?_⟩
  have ok := I.ok
  have hfr : X.A.frames = some (X.env :: X.outer) := by rw [ok.frames, hs]
  have hloc : Loc X.env.scope n := .inl hln
  refine wpAny_Try_except ?_
  refine wpAny_mono ((hb (wKeep X.K c i ts Wout D) (X.pn ++ pins) (fun e s₁ => wpAny (model X.prog X.w) X.A (noteFrame e X.env) (fun _ s₂ => wpAny (model X.prog X.w) X.A (setFlight e none) (fun _ s₃ =>
    wpAny (model X.prog X.w) X.A (handleBy e X.env [.ExceptHandler (some (.Name x np)) (some n) (b₀ :: suite) pos']) (SP X pins D) X.xe s₃) X.xe s₂) X.xe s₁) (fun u s' xx => ?_) PassesOwn.looking).run [] s σ H D (I.toTry _) h) (fun f s1 hsp => ?_) (fun e s1 he => he)
  · obtain ⟨a, B, sI, pins', σ', H', cls, d, rfl, J', nb, up, sky, na, os, ag, b, hb1, hyes, hno⟩ := xx
    have J : Inv X pins σ' H' sI := J'.ofTry ok
    have sky' : Sky B (X.env :: X.outer) a (Zc cls d) X.env.locals s'.heap := by rw [← hs]; exact sky
    show wpAny (model X.prog X.w) X.A (noteFrame (.ref a) X.env) _ _ _
    refine Sky.land Zc.steady hfr hf sky' fun h3 fl3 up3 => ?_
    have J3 : Inv X pins σ' H' { s' with heap := h3 } := J.landed nb fl3.1 (up.trans up3) os ag
    obtain ⟨oe3, vs3, he3, hz3, hd3⟩ := fl3.there
    have notFr : ∀ {h : Heap} {o : Obj} {vs : Array Value}, h.FunFrames B (X.env :: X.outer) → h.get? a = some o → o.data = .fields vs → a ∉ frs (X.env :: X.outer) := fun {h o vs} ff e dd hm => by
      obtain ⟨_, o', e', hnf⟩ := ff.mem hm
      rw [e] at e'; cases e'
      exact hnf _ dd
    have nfr := notFr fl3.2.2.1 he3 hd3
    have nL : a ≠ X.env.locals := fun z => nfr (List.mem_filterMap.mpr ⟨X.env, List.mem_cons_self, by rw [hf, z]⟩)
    have nF : a ∉ X.fs := fun hm => by
      obtain ⟨e, he, q⟩ := List.mem_filterMap.mp hm
      exact nfr (List.mem_filterMap.mpr ⟨e, List.mem_cons_of_mem _ he, q⟩)
    -- the error is new since the entry
    have nI : sI.heap.get? a = none := by
      cases e : sI.heap.get? a with
      | none => rfl
      | some o =>
        have h1 := nb a o e (by rw [hs]; exact nfr)
        rw [fl3.2.1] at h1
        cases h1
    have n0 : X.s_0.heap.get? a = none := by
      cases e : X.s_0.heap.get? a with
      | none => rfl
      | some o =>
        obtain ⟨o', e'⟩ := J.base.there a o e (by rw [hex]; simp)
        rw [nI] at e'
        cases e'
    have npp : ∀ p ∈ X.pn ++ pins, p.1 ≠ a := fun p hp z => by
      obtain ⟨h1, _⟩ := J.pin p hp
      rw [z, nI] at h1
      cases h1
    have S3 := J3.suite he3 hd3 na nL nF
    refine wpAny_handleBy_cons (codeAny_handlers_test ?_) (by intro q; cases q)
    have LT : PySem.W.Looks (model X.prog X.w) h3 (typeOf (.ref a)) cls := fun A Q E s k q => wpAny_typeOf_ref (k _ _ he3) (by rw [hz3.1]; exact q)
    have LM := PySem.W.exm_one (M := model X.prog X.w) (J3.kIn) LT hb1
    have test : ∀ {Q : Value → Shared → Prop} {E : Value → Shared → Prop}, Q c { s' with heap := h3 } → wpAny (model X.prog X.w) (X.A.mark (some (.ref a))) (eval (.Name x np) X.env) Q E { s' with heap := h3 } := fun {Q E} q => by
      obtain ⟨hg, hdbg, hm | ⟨hm, hv, hnn⟩⟩ := hc
      · exact ld_glob (X := X.suite a ((a, oe3) :: (X.pn ++ pins))) S3 hg hm q hdbg
      · exact ld_blt (X := X.suite a ((a, oe3) :: (X.pn ++ pins))) S3 hg hm hv q hnn hdbg
    refine test (LM.here ?_)
    cases b with
    | true =>
      obtain ⟨dn, hyes⟩ := hyes rfl
      subst dn
      refine codeAny_handlers_suite_as ?_
      refine HandSPX.lands_againZ fl3 fun h4 fl4 up4 => ?_
      have J4 : Inv X pins σ' H' { s' with heap := h4 } := J.landed nb fl4.1 ((up.trans up3).trans up4) os ag
      obtain ⟨oe4, vs4, he4, hz4, hd4⟩ := fl4.there
      have S4 := J4.suite he4 hd4 na nL nF
      refine store_ok (X := X.suite a ((a, oe4) :: (X.pn ++ pins))) (v := .ref a) S4 hN hi hloc rfl (fun s5 S5 => ?_) (.inr hln)
      refine wpAny_mono ((hsu a oe4 cls none (X.pn ++ pins) hz4 ⟨_, hd4⟩).run [] s5 _ H' _ S5 (hyes a na)) (fun f s6 hsp => ?_) (fun _ _ z => False.elim z)
      cases f with
      | next =>
        obtain ⟨σ6, H6, S6, q6⟩ := hsp
        refine gone_ok (Inv.unsuiteP S6 ok) hN hi hln fun s7 J7 => ?_
        obtain ⟨e7, m7, _⟩ := J7.pin (a, oe4) (List.mem_append_right _ List.mem_cons_self)
        exact ⟨_, _, Inv.track (Inv.unpin J7) e7 (fun v z => by rw [hd4] at z; cases z) m7 n0 nL npp (exK_ok e7 hz4 hd4), q6⟩
      | brk =>
        obtain ⟨σ6, H6, S6, q6⟩ := hsp
        exact False.elim q6
      | cont =>
        obtain ⟨σ6, H6, S6, q6⟩ := hsp
        exact False.elim q6
      | ret u =>
        obtain ⟨v6, σ6, H6, S6, r6, q6⟩ := hsp
        exact False.elim q6
    | false =>
      show wpAny _ X.A (handleBy (.ref a) X.env []) _ _ _
      refine wpAny_handleBy_nil ?_
      obtain ⟨k1, k2, k3, oe, vs, T, oT, ts', he, hz, hd, h1, hr⟩ := id fl3
      unfold PySem.passOn
      refine wpAny_bind (wpAny_field he hd h1 ?_)
      rw [if_neg (show ¬ ((Value.ref T == Value.none) = true) from by simp)]
      have fin : wpAny (model X.prog X.w) X.A (setFlight (.ref a) X.env.frame) (fun _ s4 => wpAny (model X.prog X.w) X.A (throw (.ref a) : Sem Flow) (SP X pins D) X.xe s4) X.xe { s' with heap := h3 } := by
        rw [hf]
        refine HandSPX.setFlight_upZ fl3 fun h4 hh4 up4 => wpAny_throw (tk _ _ ?_)
        exact ⟨a, B, sI, pins, σ', H', cls, d, rfl, J, nb, (up.trans up3).trans up4, .inr (.inr (by rw [hs]; exact hh4)), na, os, ag, hno rfl⟩
      first
        | exact wpAny_bind (wpAny_pure (wpAny_bind fin))
        | exact wpAny_bind fin
  · cases f with
    | next =>
      obtain ⟨σ', H', J', q⟩ := hsp
      exact wpAny_execs_nil ⟨σ', H', J'.ofTry ok, q⟩
    | brk =>
      obtain ⟨σ', H', J', q⟩ := hsp
      exact ⟨σ', H', J'.ofTry ok, q⟩
    | cont =>
      obtain ⟨σ', H', J', q⟩ := hsp
      exact ⟨σ', H', J'.ofTry ok, q⟩
    | ret u =>
      obtain ⟨v, σ', H', J', r, q⟩ := hsp
      exact ⟨v, σ', H', J'.ofTry ok, r, q⟩
end
/-- isinstance of a kept error -/
def rIsK (K : PySem.W.Frag) : List V → Hp → VK → Prop := fun xs H Q => ∃ (a D : Addr) (c : V) (cv : Value) (b : Bool), xs = [.ref a, c] ∧ H a = some (ExK (.ref D) a) ∧ ExcC K D ∧ ClsV c cv ∧ PySem.W.kitOne K (.ref D) cv = some b ∧ Q (.bl b) H
theorem call_isKK {X : Cx} {K : PySem.W.Frag} (hK : X.K = K) : CallR X (.builtin "isinstance") (rIsK K) := by
  subst hK
  intro pins s σ H xs us Q I r h
  obtain ⟨a, D, c, cv, b, rfl, ha, C, hcv, e, q⟩ := h
  cases r with
  | cons rx rr =>
    cases rr with
    | cons rt rr =>
      cases rr
      cases rx
      have ec := hcv.eq rt
      subst ec
      obtain ⟨⟨oe, vs, hget, hz, hv⟩, _⟩ := I.hok a _ ha
      have J : PySem.W.InstAt s.heap a oe D none := by
        obtain ⟨oc, od, oda, osl⟩ := oe
        obtain ⟨h1, h2⟩ := hz
        dsimp only at h1 h2 hv
        subst h1 h2 hv
        exact ⟨hget, rfl, rfl, trivial⟩
      exact PySem.W.kia_one (PySem.W.handS_kitx_exc C.hg C.hk C.hs C.hd C.ha C.hn C.ht C.hm) I.kIn J e (fun z => nomatch z) fun tk => ⟨.bl b, H, I.kept (t' := tk) fun _ _ z => z, rfl, q⟩
/-! ### calls within a try: what is raised is wished for at the slots -/
section
variable {X : Cx} {CX : CXT} {E : St → XK} {k j : Nat} {C : Addr} {x : Str} {sp : Sp} {p pos : Pos} {e : Expr} {es : List Expr} {t : TA}
theorem pe_cS (c : Cal X.prog X.w X.K X.mg X.base CX k x sp) (hr : Room j X.A) (hk : k ≤ j) (hx : ∀ σ, PassesAt CX X σ (E σ)) (hg : Gl X x) (ha : PA X (e :: es) t)
    (hdb : (x == ("__debug__" : Str)) = false := by decide) (he : starEach (e :: es) X.env = (false, eval e X.env) :: starEach es X.env := by rfl) (hpl : (backTo pos (starEach es X.env)).any (·.1) = false := by rfl) :
    PE X (.Call (.Name x p) (e :: es) [] pos) (tCallS sp E t) := by
  obtain ⟨f, fd, ps, F, hm, kp, b⟩ := c.ex
  exact pe_callS F (hr.mono hk) hg hm kp b hx ha hdb he hpl
def tMakeS (C : Addr) (sp : Sp) (E : St → XK) (t : TA) : TE := fun σ H Q => t σ H fun vs H1 => ∀ x dx, H1 x = none → H1 dx = none → dx ≠ x →
  sp (.ref x :: vs) (upd (upd H1 dx (.own x)) x (.ins C dx [])) (fun v H2 => v = .non ∧ Q (.ref x) H2) (E σ)
theorem pe_mkS (c : Mak X.prog X.w X.K X.mg X.base CX k x C sp) (hr : Room j X.A) (hk : k + 1 ≤ j) (hx : ∀ σ, PassesAt CX X σ (E σ)) (hg : Gl X x) (ha : PA X (e :: es) t)
    (hdb : (x == ("__debug__" : Str)) = false := by decide) (he : starEach (e :: es) X.env = (false, eval e X.env) :: starEach es X.env := by rfl) (hpl : (backTo pos (starEach es X.env)).any (·.1) = false := by rfl) :
    PE X (.Call (.Name x p) (e :: es) [] pos) (tMakeS C sp E t) := by
  obtain ⟨f, fd, ps, M, F, hm, hb⟩ := c.ex
  have hr := hr.mono hk
  refine ⟨fun pins s σ H Q I h => ?_⟩
  refine wpAny_Call_Name_kw (ld_glob I hg hm ?_ hdb)
  refine PySem.W.callWith_K (h₀ := X.base) I.ok.mod.kin M.kp (thn (ha.run pos pins s σ H _ I h) fun us s1 ⟨vs, H1, I1, r, q⟩ => ⟨I1.kIn, ?_⟩) he hpl
  have I2 := Inv.made (C := C) I1
  have hq := q (s1.heap.objs.size + 1) s1.heap.objs.size (I1.hok.fresh (Nat.le_succ _)) (I1.hok.fresh (Nat.le_refl _)) (Nat.ne_of_lt (Nat.lt_succ_self _))
  have r2 : Vals (V.ref (s1.heap.objs.size + 1) :: vs) (Value.ref (s1.heap.objs.size + 1) :: us) := .cons rfl r
  have hl : (Value.ref (s1.heap.objs.size + 1) :: us ++ []).length = ps.length := by
    have e2 := F.len _ _ _ _ hq
    rw [List.append_nil, ← r2.length, e2]
  have b := hb _ (Value.ref (s1.heap.objs.size + 1) :: us) I2.kIn hl
  rw [List.append_nil] at b
  refine wpAny_call (make_map (f := f) I1.kIn M.makes M.init (beq_iff_eq.mp M.fn) (codeAny_mono (F.run _ X.stack _ _ ⟨Value.ref (s1.heap.objs.size + 1) :: us, []⟩ _ _ _ (E σ) (hr.make C us []) (I2.env0.make C us []) b r2 hq) fun r s' hq' => ?_))
  cases r with
  | error e => exact hx σ pins _ _ e s' I2 hq'
  | ok fl =>
    cases fl with
    | ret u =>
      obtain ⟨v, H', I3, rv, ev, q3⟩ := I2.after hq'
      subst ev
      exact ⟨rv, ⟨V.ref (s1.heap.objs.size + 1), H', I3, rfl, q3⟩⟩
    | next => exact False.elim hq'
    | brk => exact False.elim hq'
    | cont => exact False.elim hq'
end
/-! ### what isinstance leans on, looked at in the written part -/
def eqB (a b : Option (Option Value)) : Bool := decide (a = b)
def excB (K : PySem.W.Frag) (D : Addr) : Bool :=
  decide (PySem.W.findIn K (.ref D) "__getattribute__" = some (some (.builtin "BaseException.__getattribute__"))) && (decide (PySem.W.findIn K (.ref D) "__getattr__" = some none) && (decide (PySem.W.subIn K (.ref D) (.type "BaseException") = some true) &&
  (PySem.W.hasDictIn K D && (decide (PySem.W.findIn K (.ref D) "__class__" = some (some (.builtin "object.__class__"))) && (decide (PySem.W.specialIn K (.builtin "object.__class__") "__get__" = some (some (.builtin "getset_descriptor.__get__"))) &&
  (decide (PySem.W.takesIn K (.builtin "object.__class__") = some true) && decide (PySem.W.mroIn K D (.type "object") = some true)))))))
theorem excB_ok {K : PySem.W.Frag} {D : Addr} (h : excB K D = true) : ExcC K D := by
  simp only [excB, Bool.and_eq_true, decide_eq_true_eq] at h
  obtain ⟨h1, h2, h3, h4, h5, h6, h7, h8⟩ := h
  exact ⟨h1, h2, h3, h4, h5, h6, h7, h8⟩
def insB (K : PySem.W.Frag) (D : Addr) : Bool :=
  decide (PySem.W.findIn K (.ref D) "__class__" = some (some (.builtin "object.__class__"))) && (decide (PySem.W.specialIn K (.builtin "object.__class__") "__get__" = some (some (.builtin "getset_descriptor.__get__"))) &&
  (decide (PySem.W.takesIn K (.builtin "object.__class__") = some true) && (decide (PySem.W.mroIn K D (.type "object") = some true) && decide (PySem.W.kitOne K (.ref D) (.ref D) = some true))))
theorem insB_ok {K : PySem.W.Frag} {D : Addr} (c : Cls K D) (h : insB K D = true) : C8.InsC K D := by
  simp only [insB, Bool.and_eq_true, decide_eq_true_eq] at h
  obtain ⟨h1, h2, h3, h4, h5⟩ := h
  exact ⟨c, h1, h2, h3, h4, h5⟩
/-- the error class at D is the i-th of the four, beneath the two -/
structure AloneC (K : PySem.W.Frag) (C : Cs) (D : Addr) (i : Nat) : Prop where
  ex : ExcC K D
  k0 : PySem.W.kitOne K (.ref D) (.ref C.BadHouse) = some (decide (i = 0))
  k1 : PySem.W.kitOne K (.ref D) (.ref C.NoWalk) = some (decide (i = 1))
  k2 : PySem.W.kitOne K (.ref D) (.ref C.BadPaper) = some (decide (i = 2))
  k3 : PySem.W.kitOne K (.ref D) (.ref C.NoText) = some (decide (i = 3))
  kh : PySem.W.kitOne K (.ref D) (.ref C.HallError) = some true
  kv : PySem.W.kitOne K (.ref D) (.type "ValueError") = some true
def aloneB (K : PySem.W.Frag) (C : Cs) (D : Addr) (i : Nat) : Bool :=
  excB K D && (decide (PySem.W.kitOne K (.ref D) (.ref C.BadHouse) = some (decide (i = 0))) && (decide (PySem.W.kitOne K (.ref D) (.ref C.NoWalk) = some (decide (i = 1))) && (decide (PySem.W.kitOne K (.ref D) (.ref C.BadPaper) = some (decide (i = 2))) &&
  (decide (PySem.W.kitOne K (.ref D) (.ref C.NoText) = some (decide (i = 3))) && (decide (PySem.W.kitOne K (.ref D) (.ref C.HallError) = some true) && decide (PySem.W.kitOne K (.ref D) (.type "ValueError") = some true))))))
theorem aloneB_ok {K : PySem.W.Frag} {C : Cs} {D : Addr} {i : Nat} (h : aloneB K C D i = true) : AloneC K C D i := by
  simp only [aloneB, Bool.and_eq_true, decide_eq_true_eq] at h
  obtain ⟨h1, h2, h3, h4, h5, h6, h7⟩ := h
  exact ⟨excB_ok h1, h2, h3, h4, h5, h6, h7⟩
/-- the errors' names -/
structure ExcG (mg : Str → Option Value) (C : Cs) : Prop where
  BadHouse : mg "BadHouse" = some (.ref C.BadHouse)
  NoWalk : mg "NoWalk" = some (.ref C.NoWalk)
  BadPaper : mg "BadPaper" = some (.ref C.BadPaper)
  NoText : mg "NoText" = some (.ref C.NoText)
  HallError : mg "HallError" = some (.ref C.HallError)
abbrev rIsHQ (A : Addr) : List V → Hp → VK → Prop := fun xs H Q => ∃ a dx fs, xs = [.ref a, .ref A] ∧ H a = some (.ins A dx fs) ∧ Q (.bl true) H
theorem call_isCK {X : Cx} {K : PySem.W.Frag} {A : Addr} (hK : X.K = K) (c : C8.InsC K A) : CallR X (.builtin "isinstance") (rIsHQ A) := by subst hK; exact C8.call_isC c
section
variable {K : PySem.W.Frag} {σ : St} {H : Hp} {ta tb : TE}
theorem v_isK {a D : Addr} {c : V} {cv : Value} {b : Bool} (ha : Val ta σ H (.ref a)) (hb : Val tb σ H c) (hH : H a = some (ExK (.ref D) a)) (hC : ExcC K D) (hc : ClsV c cv) (hk : PySem.W.kitOne K (.ref D) cv = some b) : Val (tCB (rIsK K) (tCons ta (tCons tb tNil))) σ H (.bl b) :=
  fun _ q => ha _ (hb _ ⟨a, D, c, cv, b, rfl, hH, hC, hc, hk, q⟩)
theorem g_neS {x y : V} (ha : GV ta σ H x) (hb : ∀ H', Same H H' → GV tb σ H' y) (hs : scal x y = true) : GV (tOp rNe ta tb) σ H (.bl (!decide (x = y))) := fun Q q => ha _ fun H1 e1 => hb H1 e1 _ fun H2 e2 => ⟨hs, q H2 (e1.trans e2)⟩
theorem g_eqS {x y : V} (ha : GV ta σ H x) (hb : ∀ H', Same H H' → GV tb σ H' y) (hs : scal x y = true) : GV (tOp rEq ta tb) σ H (.bl (decide (x = y))) := fun Q q => ha _ fun H1 e1 => hb H1 e1 _ fun H2 e2 => ⟨hs, q H2 (e1.trans e2)⟩
theorem s_ifG {D : Ends} {ts tu : TS} {t : TT} {b : Bool} (h : AG t σ H b) (h1 : b = true → ∀ H', Same H H' → ts D σ H') (h2 : b = false → ∀ H', Same H H' → tu D σ H') : tIfS t ts tu D σ H := h _ fun H' e => by
  cases b with
  | true => exact iteT (h1 rfl H' e)
  | false => exact iteF (h2 rfl H' e)
theorem v_isH {a A dx : Addr} {fs : List (Str × V)} (ha : Val ta σ H (.ref a)) (hb : Val tb σ H (.ref A)) (hH : H a = some (.ins A dx fs)) : Val (tCB (rIsHQ A) (tCons ta (tCons tb tNil))) σ H (.bl true) := fun _ q => ha _ (hb _ ⟨a, dx, fs, rfl, hH, q⟩)
end
end EH

set_option maxHeartbeats 2000000
namespace EH
open PySem PySem.Spec PyProof.Rows L2
local macro_rules | `(tactic| kbo_bools) => `(tactic| first
  | exact v_c
  | exact v_var rfl
  | assumption
  | ((with_reducible refine' v_I0 ?ka ?kb); (case ka => kbo_bools); (case kb => kbo_bools))
  | ((with_reducible refine' v_I ?ka ?kb ?kc); (case ka => kbo_bools); (case kb => kbo_bools); (case kc => first | assumption | exact (by decide) | exact ⟨by decide, by decide⟩ | exact Or.inl ⟨by decide, by decide⟩ | exact Or.inr ⟨by decide, by decide⟩ | exact Or.inl ⟨by omega, by omega⟩ | exact Or.inr ⟨by omega, by omega⟩ | exact (show (0 : Int) < _ by omega)))
  | ((with_reducible refine' v_neg ?ka); (case ka => kbo_bools))
  | ((with_reducible refine' v_eq ?ka ?kb ?kc); (case ka => kbo_bools); (case kb => kbo_bools); (case kc => rfl))
  | ((with_reducible refine' v_ne ?ka ?kb ?kc); (case ka => kbo_bools); (case kb => kbo_bools); (case kc => rfl))
  | (refine' v_isN ?ka; (case ka => kbo_bools))
  | (refine' v_notN ?ka; (case ka => kbo_bools))
  | ((with_reducible refine' v_ixT ?ka ?kb ?kc ?kd); (case ka => kbo_bools); (case kb => kbo_bools); (case kc => assumption); (case kd => rfl))
  | (refine' v_len ?ka ?kb; (case ka => kbo_bools); (case kb => kln_le))
  | ((with_reducible refine' v_and ?ka ?kb); (case ka => kbo_bools); (case kb => (intro; kbo_bools)))
  | ((with_reducible refine' v_or ?ka ?kb); (case ka => kbo_bools); (case kb => (intro; kbo_bools)))
  | ((with_reducible refine' v_not ?ka); (case ka => kbo_bools)))
local macro_rules | `(tactic| kbt_split) => `(tactic| first
  | assumption
  | ((with_reducible refine' a_not ?ka); (case ka => kbt_split))
  | ((with_reducible refine' a_and ?ka ?kb); (case ka => kbt_split); (case kb => (intro; kbt_split)))
  | ((with_reducible refine' a_or ?ka ?kb); (case ka => kbt_split); (case kb => (intro; kbt_split)))
  | (refine' a_I0 ?ka ?kb; (case ka => kbo_bools); (case kb => kbo_bools))
  | (refine' a_chain ?ka ?kb ?kc; (case ka => kbo_bools); (case kb => kbo_bools); (case kc => kbo_bools))
  | ((with_reducible refine' a_test ?ka); (case ka => kbo_bools))
  | ((with_reducible refine' a_B ?ka); (case ka => kbo_bools)))
local macro_rules | `(tactic| kxs_still) => `(tactic| first
  | exact av_nil
  | ((with_reducible refine' av_cons ?ka ?kb); (case ka => kbo_bools); (case kb => kxs_still)))
local macro_rules | `(tactic| kln_le) => `(tactic| first
  | assumption
  | exact SqL.of (by assumption))
local macro_rules | `(tactic| l_intsC) => `(tactic| first
  | ((with_reducible refine' q_when ?c ?h1 ?h2); (case c => kbt_split))
  | ((with_reducible refine' q_if ?c ?h1 ?h2); (case c => kbt_split))
  | ((with_reducible refine' s_if ?c ?h1 ?h2); (case c => kbt_split)))
local macro_rules | `(tactic| kopn_word) => `(tactic| first
  | ((with_reducible refine' q_set ?c ?h1); (case c => kbo_bools))
  | ((with_reducible refine' s_set ?c ?h1); (case c => kbo_bools))
  | ((with_reducible refine' s_ret ?c ?h1); (case c => kbo_bools)))

abbrev prg : Program := PySem.Challenge.pw_emptyhall_k02_houses_refused
def top (i : Nat) : Stmt := PySem.Challenge.pw_emptyhall_k02_houses_refused.main.body.getD i (.Pass ⟨0, 0, 0, 0⟩)
abbrev s_see_way : Stmt := top 8
abbrev s_House_init : Stmt := inClass (top 9) 0
abbrev s_House_people : Stmt := inClass (top 9) 1
abbrev s_House_ways : Stmt := inClass (top 9) 2
abbrev s_law_cell_at : Stmt := top 11
abbrev s_law_draw : Stmt := top 12
abbrev s_law_whole : Stmt := top 13
abbrev s_law_people : Stmt := top 14
abbrev s_law_way : Stmt := top 15
abbrev s_law_house : Stmt := top 16
abbrev s_law_alone : Stmt := top 17
abbrev s_law_bad_way : Stmt := top 18
abbrev s_law_spoiled : Stmt := top 19
abbrev s_law_reached : Stmt := top 20
abbrev s_law_made : Stmt := top 21
abbrev s_law : Stmt := top 22
def d_see_way : He.DefD := ⟨("see_way", none), "see_way", "see_way", defArgs s_see_way, defBody s_see_way, defScope s_see_way, [], []⟩
def d_House_init : He.DefD := ⟨("House", some "__init__"), "__init__", "House.__init__", defArgs s_House_init, defBody s_House_init, defScope s_House_init, [], []⟩
def d_House_people : He.DefD := ⟨("House", some "people"), "people", "House.people", defArgs s_House_people, defBody s_House_people, defScope s_House_people, [], []⟩
def d_House_ways : He.DefD := ⟨("House", some "ways"), "ways", "House.ways", defArgs s_House_ways, defBody s_House_ways, defScope s_House_ways, [], []⟩
def d_law_cell_at : He.DefD := ⟨("_law_cell_at", none), "_law_cell_at", "_law_cell_at", defArgs s_law_cell_at, defBody s_law_cell_at, defScope s_law_cell_at, [], []⟩
def d_law_draw : He.DefD := ⟨("_law_draw", none), "_law_draw", "_law_draw", defArgs s_law_draw, defBody s_law_draw, defScope s_law_draw, [], []⟩
def d_law_whole : He.DefD := ⟨("_law_whole", none), "_law_whole", "_law_whole", defArgs s_law_whole, defBody s_law_whole, defScope s_law_whole, [], []⟩
def d_law_people : He.DefD := ⟨("_law_people", none), "_law_people", "_law_people", defArgs s_law_people, defBody s_law_people, defScope s_law_people, [], []⟩
def d_law_way : He.DefD := ⟨("_law_way", none), "_law_way", "_law_way", defArgs s_law_way, defBody s_law_way, defScope s_law_way, [], []⟩
def d_law_house : He.DefD := ⟨("_law_house", none), "_law_house", "_law_house", defArgs s_law_house, defBody s_law_house, defScope s_law_house, [], []⟩
def d_law_alone : He.DefD := ⟨("_law_alone", none), "_law_alone", "_law_alone", defArgs s_law_alone, defBody s_law_alone, defScope s_law_alone, [], []⟩
def d_law_bad_way : He.DefD := ⟨("_law_bad_way", none), "_law_bad_way", "_law_bad_way", defArgs s_law_bad_way, defBody s_law_bad_way, defScope s_law_bad_way, [], []⟩
def d_law_spoiled : He.DefD := ⟨("_law_spoiled", none), "_law_spoiled", "_law_spoiled", defArgs s_law_spoiled, defBody s_law_spoiled, defScope s_law_spoiled, [], []⟩
def d_law_reached : He.DefD := ⟨("_law_reached", none), "_law_reached", "_law_reached", defArgs s_law_reached, defBody s_law_reached, defScope s_law_reached, [], []⟩
def d_law_made : He.DefD := ⟨("_law_made", none), "_law_made", "_law_made", defArgs s_law_made, defBody s_law_made, defScope s_law_made, [], []⟩
def d_law : He.DefD := ⟨("law", none), "law", "law", defArgs s_law, defBody s_law, defScope s_law, [], []⟩
def fn : List He.DefD := [d_see_way, d_House_init, d_House_people, d_House_ways, d_law_cell_at, d_law_draw, d_law_whole, d_law_people, d_law_way, d_law_house, d_law_alone, d_law_bad_way, d_law_spoiled, d_law_reached, d_law_made, d_law]
def fa : List He.Fa := [.glo "see_way", .glo "_law_cell_at", .glo "_law_draw", .glo "_law_whole", .glo "_law_people", .glo "_law_way", .glo "_law_house", .glo "_law_alone", .glo "_law_bad_way", .glo "_law_spoiled", .glo "_law_reached", .glo "_law_made", .glo "law", .free "len", .free "list", .free "tuple", .free "range", .free "sum", .free "min", .free "max", .free "isinstance", .free "str", .free "int", .free "bool", .free "enumerate", .free "ValueError", .glo "HallError", .exc "HallError", .glo "BadHouse", .exc "BadHouse", .glo "NoWalk", .exc "NoWalk", .glo "BadPaper", .exc "BadPaper", .glo "NoText", .exc "NoText", .glo "House", .cls "House", .mkr "House", .noat "House" "held", .noat "House" "laid", .meth "House" "people", .meth "House" "ways", .exm "HallError" "HallError" true, .exm "BadHouse" "HallError" true, .exm "NoWalk" "HallError" true, .exm "BadPaper" "HallError" true, .exm "NoText" "HallError" true]
def loose : List PySem.Str := ["_wall", "HallError", "BadHouse", "NoWalk", "BadPaper", "NoText", "see_way", "House", "_law_cell_at", "_law_draw", "_law_whole", "_law_people", "_law_way", "_law_house", "_law_alone", "_law_bad_way", "_law_spoiled", "_law_reached", "_law_made"]
/-! ### the law's draws -/
def cellZ (ns : List Int) (k : Int) : Int := if k < ns.length then ns.getD k.toNat 0 else 0
def drawZ (ns : List Int) (k : Int) : Int := (cellZ ns (k % 61) + 7919 * k) * (48271 + 2 * k) % 2147483647
theorem draw_nn (ns : List Int) (k : Int) : 0 ≤ drawZ ns k := Int.emod_nonneg _ (by decide)
def sp_law_cell_at (K : PySem.W.Frag) (C : Cs) : Sp := fun vs H Q _ => ∃ (a : Addr) (ns : List Int) (k : Int), vs = [.ref a, .int k] ∧ SqL K H a (ns.map V.int) ∧ 0 ≤ k ∧ Q (.int (cellZ ns k)) H
def sp_law_draw (K : PySem.W.Frag) (C : Cs) : Sp := fun vs H Q _ => ∃ (a : Addr) (ns : List Int) (k : Int), vs = [.ref a, .int k] ∧ SqL K H a (ns.map V.int) ∧ (0 ≤ k ∧ k ≤ 1000) ∧ Q (.int (drawZ ns k)) H
theorem at_ints {ns : List Int} {k : Int} (h0 : 0 ≤ k) (h : k < ns.length) : atI (ns.map V.int) k = some (.int (ns.getD k.toNat 0)) := by
  obtain ⟨j, rfl⟩ : ∃ j : Nat, k = j := ⟨k.toNat, by omega⟩
  have hj : j < ns.length := by omega
  refine atI_nat ?_
  rw [List.getElem?_map, List.getElem?_eq_getElem hj]
  simp [List.getD_eq_getElem?_getD, List.getElem?_eq_getElem hj]
section
variable {P : Program} {w : World} {K : PySem.W.Frag} {mg : Str → Option Value} {base : Heap} {C : Cs}
abbrev N_law_cell_at : List PySem.Str := ["script", "k"]
theorem sc_law_cell_at : FnScope N_law_cell_at ["script", "k"] (defScope s_law_cell_at) := ⟨rfl, rfl, rfl, by decide +kernel, rfl, by decide +kernel, by decide +kernel⟩
theorem c_law_cell_at {f fd} (D : FnP K "_law_cell_at" "_law_cell_at" s_law_cell_at f fd) (hm : mg "_law_cell_at" = some (.ref f)) (G : Bn mg) : Cal P w K mg base CX0 1 "_law_cell_at" (sp_law_cell_at K C) := by
  refine cal_of D hm (D.ok sc_law_cell_at (fun vs H Q E h => ?_) (fun cdv A outer s H vs Q E hr h => ?_)) (fun _ _ _ _ _ _ us hl => match us, hl with | [_, _], _ => rfl)
  · obtain ⟨a, ns, k, rfl, hS, hk, q⟩ := h
    rfl
  · obtain ⟨a, ns, k, rfl, hS, hk, q⟩ := h
    have hu := hu_of hr
    refine ⟨_, PSs.nox (pss_cons (ps_if (pt_cmpR op_lt (pv 1) (pe_callB (id := "len") (call_len_seqK (K := K) rfl) (by rfl) G.len_ (by decide +kernel) (pa_cons (pv 0) pa_nil)) (nomark _))
          (pss_one (ps_ret (pe_ix (ix_listK (K := K) rfl) (pv 0) (pv 1) (fun _ _ => rfl))))
          pss_nil)
        (pss_one (ps_ret pe_int))), ?_⟩
    l_intsC
    all_goals intro hb
    · have hb : k < ns.length := by simpa using hb
      refine s_ret (v_ixL (by kbo_bools) (by kbo_bools) hS (at_ints hk hb)) ?_
      simpa [cellZ, hb] using q
    · have hb : ¬ k < ns.length := by simpa using hb
      kopn_word
      simpa [cellZ, hb] using q
abbrev N_law_draw : List PySem.Str := ["script", "k"]
theorem sc_law_draw : FnScope N_law_draw ["script", "k"] (defScope s_law_draw) := ⟨rfl, rfl, rfl, by decide +kernel, rfl, by decide +kernel, by decide +kernel⟩
theorem c_law_draw {f fd} (D : FnP K "_law_draw" "_law_draw" s_law_draw f fd) (hm : mg "_law_draw" = some (.ref f)) (G : Bn mg) (c_law_cell_at : Cal P w K mg base CX0 1 "_law_cell_at" (sp_law_cell_at K C)) : Cal P w K mg base CX0 2 "_law_draw" (sp_law_draw K C) := by
  refine cal_of D hm (D.ok sc_law_draw (fun vs H Q E h => ?_) (fun cdv A outer s H vs Q E hr h => ?_)) (fun _ _ _ _ _ _ us hl => match us, hl with | [_, _], _ => rfl)
  · obtain ⟨a, ns, k, rfl, hS, hk, q⟩ := h
    rfl
  · obtain ⟨a, ns, k, rfl, hS, hk, q⟩ := h
    have hu := hu_of hr
    refine ⟨_, PSs.nox (pss_one (ps_ret (pe_op op_mod (pe_op op_mul (pe_op op_add (pe_c c_law_cell_at hr (by decide) pass0 rfl (pa_cons (pv 0) (pa_cons (pe_op op_mod (pv 1) pe_int) pa_nil))) (pe_op op_mul pe_int (pv 1))) (pe_op op_add pe_int (pe_op op_mul pe_int (pv 1)))) pe_int))), ?_⟩
    refine s_ret (v := .int (drawZ ns k)) (v_I (i := (cellZ ns (k % 61) + 7919 * k) * (48271 + 2 * k)) (v_I (v_I0 (i := cellZ ns (k % 61)) (v_call (vs := [.ref a, .int (k % 61)]) (by kxs_still) fun Q q => ⟨a, ns, k % 61, rfl, hS, by omega, q⟩) (by kbo_bools)) (by kbo_bools) (.inr ⟨by omega, by omega⟩)) (by kbo_bools) (by decide)) q
end
/-- a draw, as a value -/
theorem v_draw {K : PySem.W.Frag} {C : Cs} {σ : St} {H : Hp} {ta tb : TE} {a : Addr} {ns : List Int} {k : Int} (hS : SqL K H a (ns.map V.int)) (ha : Val ta σ H (.ref a)) (hb : Val tb σ H (.int k)) (hk : 0 ≤ k ∧ k ≤ 1000) :
    Val (tCall (sp_law_draw K C) [] E0 (tCons ta (tCons tb tNil))) σ H (.int (drawZ ns k)) := v_call (av_cons ha (av_cons hb av_nil)) fun Q q => ⟨a, ns, k, rfl, hS, hk, q⟩
local macro_rules | `(tactic| kbo_bools) => `(tactic| (refine' v_draw ?ka ?kb ?kc ?kd; (case ka => kln_le); (case kb => kbo_bools); (case kc => kbo_bools); (case kd => omega)))
/-! ### a drawn house -/
def mostZ (ns : List Int) : Int := [3, 2, 5, 10].getD (drawZ ns 2 % 4).toNat 3
def peopleZ (ns : List Int) (n : Int) : List Int := (List.range n.toNat).map fun (k : Nat) => drawZ ns (3 + (k : Int)) % mostZ ns
theorem at4 {a b c d : Int} {x : Int} (hx : 0 ≤ x) : atI [V.int a, .int b, .int c, .int d] (x % 4) = some (.int ([a, b, c, d].getD (x % 4).toNat a)) := by
  have h : x % 4 = 0 ∨ x % 4 = 1 ∨ x % 4 = 2 ∨ x % 4 = 3 := by omega
  rcases h with e | e | e | e <;> rw [e] <;> rfl
theorem at3 {a b c : Int} {x : Int} (hx : 0 ≤ x) : atI [V.int a, .int b, .int c] (x % 3) = some (.int ([a, b, c].getD (x % 3).toNat a)) := by
  have h : x % 3 = 0 ∨ x % 3 = 1 ∨ x % 3 = 2 := by omega
  rcases h with e | e | e <;> rw [e] <;> rfl
theorem most_pos (ns : List Int) : 0 < mostZ ns ∧ mostZ ns ≤ 10 := by
  have h : drawZ ns 2 % 4 = 0 ∨ drawZ ns 2 % 4 = 1 ∨ drawZ ns 2 % 4 = 2 ∨ drawZ ns 2 % 4 = 3 := by omega
  unfold mostZ
  rcases h with e | e | e | e <;> rw [e] <;> decide
/-- a new list of these ints -/
def RetInts (ns : List Int) (H : Hp) (Q : VK) : Prop := ∀ p H', H p = none → Same H H' → H' p = some (.lst (ns.map V.int)) → Q (.ref p) H'
def sp_law_people (K : PySem.W.Frag) (C : Cs) : Sp := fun vs H Q _ => ∃ (a : Addr) (ns : List Int) (n : Int), vs = [.ref a, .int n] ∧ SqL K H a (ns.map V.int) ∧ (0 ≤ n ∧ n ≤ 10) ∧ RetInts (peopleZ ns n) H Q
section
variable {P : Program} {w : World} {K : PySem.W.Frag} {mg : Str → Option Value} {base : Heap} {C : Cs}
abbrev N_law_people : List PySem.Str := ["script", "rooms", "most", "k"]
theorem sc_law_people : FnScope N_law_people ["script", "rooms"] (defScope s_law_people) := ⟨rfl, rfl, rfl, by decide +kernel, rfl, by decide +kernel, by decide +kernel⟩
theorem c_law_people {f fd} (D : FnP K "_law_people" "_law_people" s_law_people f fd) (hm : mg "_law_people" = some (.ref f)) (G : Bn mg) (c_law_draw : Cal P w K mg base CX0 2 "_law_draw" (sp_law_draw K C)) : Cal P w K mg base CX0 3 "_law_people" (sp_law_people K C) := by
  refine cal_of D hm (D.ok sc_law_people (fun vs H Q E h => ?_) (fun cdv A outer s H vs Q E hr h => ?_)) (fun _ _ _ _ _ _ us hl => match us, hl with | [_, _], _ => rfl)
  · obtain ⟨a, ns, n, rfl, hS, hn, q⟩ := h
    rfl
  · obtain ⟨a, ns, n, rfl, hS, hn, q⟩ := h
    have hu := hu_of hr
    refine ⟨_, PSs.nox (pss_cons (ps_set (i := 2) sc_law_people.nd rfl (Or.inr rfl) (pe_ix (ix_listK (K := K) rfl) (pe_lst (pa_cons pe_int (pa_cons pe_int (pa_cons pe_int (pa_cons pe_int pa_nil))))) (pe_op op_mod (pe_c c_law_draw hr (by decide) pass0 rfl (pa_cons (pv 0) (pa_cons pe_int pa_nil))) pe_int) (fun _ _ => rfl)))
        (pss_one (ps_ret (pe_lc (own := [("k", 3)]) (g := gName 3) rfl sc_law_people.nd (pi_range1 rfl G.range_ (pa_cons (pv 1) pa_nil)) (blkOk_by (own := [("k", 3)]) (N := N_law_people) (sc := defScope s_law_people) (by decide +kernel)) (fun _ _ _ _ _ => pg_name (i := 3) sc_law_people.nd rfl (Or.inl rfl)) (fun _ _ _ _ _ => pts_nil) (fun _ _ _ _ _ => (pe_op op_mod (pe_c c_law_draw hr (by decide) pass0 rfl (pa_cons (pv 0) (pa_cons (pe_op op_add pe_int (pv 3)) pa_nil))) (pv 2))))))), ?_⟩
    have hm := most_pos ns
    refine q_setH (h_ixLst (by kxs_still) (by decide) (fun H' e => ?_) (at4 (draw_nn ns 2))) fun v H1 hv => ?_
    · have hS := Evl.ex_l e hS
      kbo_bools
    obtain ⟨rfl, e1⟩ := hv
    have hS := Evl.ex_l e1 hS
    refine s_retH (h_lcR (n := n) (by kxs_still) (by omega) (fun _ => rfl) (fun i v _ => v = .int (drawZ ns (3 + (i : Int)) % mostZ ns)) (fun _ => noList_c) fun i H' hi e => ?_) fun v H' hv => ?_
    · have hS := Evl.ex_l e hS
      refine ValH.imp (Val.h' (v := .int (drawZ ns (3 + (i : Int)) % mostZ ns)) (v_I (i := drawZ ns (3 + (i : Int))) (j := mostZ ns) (by kbo_bools) (by kbo_bools) hm.1)) ?_
      rintro v H2 ⟨rfl, rfl⟩
      exact ⟨Same.refl _, rfl⟩
    · obtain ⟨D, rfl, h1, h2, h3⟩ := made_eq hv
      refine q D H' (e1.free h1) (e1.trans h2) ?_
      rw [h3, peopleZ, List.map_map]
      rfl
end
def wideZ (ns : List Int) : Int := [2, 3, 9].getD (drawZ ns 8 % 3).toNat 2
def longZ (ns : List Int) : Int := [2, 3, 6].getD (drawZ ns 9 % 3).toNat 2
theorem wide_b (ns : List Int) : 2 ≤ wideZ ns ∧ wideZ ns ≤ 9 := by
  have h : drawZ ns 8 % 3 = 0 ∨ drawZ ns 8 % 3 = 1 ∨ drawZ ns 8 % 3 = 2 := by omega
  unfold wideZ
  rcases h with e | e | e <;> rw [e] <;> decide
theorem long_b (ns : List Int) : 2 ≤ longZ ns ∧ longZ ns ≤ 6 := by
  have h : drawZ ns 9 % 3 = 0 ∨ drawZ ns 9 % 3 = 1 ∨ drawZ ns 9 % 3 = 2 := by omega
  unfold longZ
  rcases h with e | e | e <;> rw [e] <;> decide
def wayZ (ns : List Int) (k n : Int) : Way :=
  { s := 1 + drawZ ns (10 + k) % n, e := if drawZ ns (21 + k) % (n + 1) = 1 + drawZ ns (10 + k) % n then 0 else drawZ ns (21 + k) % (n + 1), w := 1 + drawZ ns (32 + k) % wideZ ns, l := 1 + drawZ ns (43 + k) % longZ ns }
def RetWay (x : Way) (H : Hp) (Q : VK) : Prop := ∀ p H', H p = none → Same H H' → WayAt H' p x → Q (.ref p) H'
def sp_law_way (K : PySem.W.Frag) (C : Cs) : Sp := fun vs H Q _ => ∃ (a : Addr) (ns : List Int) (k n : Int), vs = [.ref a, .int k, .int n] ∧ SqL K H a (ns.map V.int) ∧ (0 ≤ k ∧ k ≤ 20) ∧ (1 ≤ n ∧ n ≤ 10) ∧ RetWay (wayZ ns k n) H Q
section
variable {P : Program} {w : World} {K : PySem.W.Frag} {mg : Str → Option Value} {base : Heap} {C : Cs}
abbrev N_law_way : List PySem.Str := ["script", "k", "rooms", "start", "end", "wide"]
theorem sc_law_way : FnScope N_law_way ["script", "k", "rooms"] (defScope s_law_way) := ⟨rfl, rfl, rfl, by decide +kernel, rfl, by decide +kernel, by decide +kernel⟩
theorem c_law_way {f fd} (D : FnP K "_law_way" "_law_way" s_law_way f fd) (hm : mg "_law_way" = some (.ref f)) (G : Bn mg) (c_law_draw : Cal P w K mg base CX0 2 "_law_draw" (sp_law_draw K C)) : Cal P w K mg base CX0 3 "_law_way" (sp_law_way K C) := by
  refine cal_of D hm (D.ok sc_law_way (fun vs H Q E h => ?_) (fun cdv A outer s H vs Q E hr h => ?_)) (fun _ _ _ _ _ _ us hl => match us, hl with | [_, _, _], _ => rfl)
  · obtain ⟨a, ns, k, n, rfl, hS, hk, hn, q⟩ := h
    rfl
  · obtain ⟨a, ns, k, n, rfl, hS, hk, hn, q⟩ := h
    have hu := hu_of hr
    refine ⟨_, PSs.nox (pss_cons (ps_set (i := 3) sc_law_way.nd rfl (Or.inl rfl) (pe_op op_add pe_int (pe_op op_mod (pe_c c_law_draw hr (by decide) pass0 rfl (pa_cons (pv 0) (pa_cons (pe_op op_add pe_int (pv 1)) pa_nil))) (pv 2))))
        (pss_cons (ps_set (i := 4) sc_law_way.nd rfl (Or.inl rfl) (pe_op op_mod (pe_c c_law_draw hr (by decide) pass0 rfl (pa_cons (pv 0) (pa_cons (pe_op op_add pe_int (pv 1)) pa_nil))) (pe_op op_add (pv 2) pe_int)))
        (pss_cons (ps_if (pt_cmpR op_eq (pv 4) (pv 3) (nomark _))
          (pss_one (ps_set (i := 4) sc_law_way.nd rfl (Or.inl rfl) pe_int))
          pss_nil)
        (pss_cons (ps_set (i := 5) sc_law_way.nd rfl (Or.inl rfl) (pe_op op_add pe_int (pe_op op_mod (pe_c c_law_draw hr (by decide) pass0 rfl (pa_cons (pv 0) (pa_cons (pe_op op_add pe_int (pv 1)) pa_nil))) (pe_ix (ix_listK (K := K) rfl) (pe_lst (pa_cons pe_int (pa_cons pe_int (pa_cons pe_int pa_nil)))) (pe_op op_mod (pe_c c_law_draw hr (by decide) pass0 rfl (pa_cons (pv 0) (pa_cons pe_int pa_nil))) pe_int) (fun _ _ => rfl)))))
        (pss_one (ps_ret (pe_tup (pa_cons (pv 3) (pa_cons (pv 4) (pa_cons (pv 5) (pa_cons (pe_op op_add pe_int (pe_op op_mod (pe_c c_law_draw hr (by decide) pass0 rfl (pa_cons (pv 0) (pa_cons (pe_op op_add pe_int (pv 1)) pa_nil))) (pe_ix (ix_listK (K := K) rfl) (pe_lst (pa_cons pe_int (pa_cons pe_int (pa_cons pe_int pa_nil)))) (pe_op op_mod (pe_c c_law_draw hr (by decide) pass0 rfl (pa_cons (pv 0) (pa_cons pe_int pa_nil))) pe_int) (fun _ _ => rfl)))) pa_nil))))))))))), ?_⟩
    have hw := wide_b ns
    have hl := long_b ns
    kopn_word
    kopn_word
    refine q_ifset (v := .int (wayZ ns k n).e) (by kbt_split) (fun hb => ?_) (fun hb => ?_) ?_
    · have hb : drawZ ns (21 + k) % (n + 1) = 1 + drawZ ns (10 + k) % n := by simpa using hb
      simp only [wayZ, if_pos hb]
      exact v_c
    · have hb : ¬ drawZ ns (21 + k) % (n + 1) = 1 + drawZ ns (10 + k) % n := by simpa using hb
      simp only [wayZ, if_neg hb]
      rfl
    refine q_setG (v := .int (wayZ ns k n).w) (g_I0 (i := 1) (j := drawZ ns (32 + k) % wideZ ns) (g_of v_c) fun H1 e1 => ?_) fun H1 e1 => ?_
    · have hS := Evl.ex_l e1 hS
      refine g_I (i := drawZ ns (32 + k)) (j := wideZ ns) (g_of (by kbo_bools)) (fun H2 e2 => ?_) (by show (0 : Int) < _; omega)
      have hS := Evl.ex_l e2 hS
      refine g_ixLst (by kxs_still) (by decide) (fun H3 e3 => ?_) (at3 (draw_nn ns 8))
      have hS := Evl.ex_l e3 hS
      kbo_bools
    have hS := Evl.ex_l e1 hS
    refine s_retH (h_tupG (xs := wayV (wayZ ns k n)) (avg_cons (g_of (by kbo_bools)) fun H2 e2 => avg_cons (g_of (by kbo_bools)) fun H3 e3 => avg_cons (g_of (by kbo_bools)) fun H4 e4 => avg_cons ?_ fun _ _ => avg_nil) (by show 4 ≤ 1000; decide)) fun v H2 hv => ?_
    · have hS := Evl.ex_l (e2.trans (e3.trans e4)) hS
      refine g_I0 (i := 1) (j := drawZ ns (43 + k) % longZ ns) (g_of v_c) fun H1 e1 => ?_
      have hS := Evl.ex_l e1 hS
      refine g_I (i := drawZ ns (43 + k)) (j := longZ ns) (g_of (by kbo_bools)) (fun H2 e2 => ?_) (by show (0 : Int) < _; omega)
      have hS := Evl.ex_l e2 hS
      refine g_ixLst (by kxs_still) (by decide) (fun H3 e3 => ?_) (at3 (draw_nn ns 9))
      have hS := Evl.ex_l e3 hS
      kbo_bools
    · obtain ⟨p, rfl, h1, h2, h3⟩ := hv
      exact q p H2 (e1.free h1) (e1.trans h2) h3
end
def roomsZ (ns : List Int) : Int := 1 + drawZ ns 1 % 4
def manyZ (ns : List Int) : Int := if drawZ ns 7 / 8 % 8 = 1 then 10 else drawZ ns 7 % 8
def ways0Z (ns : List Int) : List Way := (List.range (manyZ ns).toNat).map fun (k : Nat) => wayZ ns (k : Int) (roomsZ ns)
def waysZ (ns : List Int) : List Way := if ways0Z ns ≠ [] ∧ drawZ ns 54 % 4 = 1 then (ways0Z ns).set ((ways0Z ns).length - 1) ((ways0Z ns).headD default) else ways0Z ns
def folkZ (ns : List Int) : List Int := peopleZ ns (roomsZ ns)
/-- a new pair of people and ways -/
def PlotAt (H : Hp) (p pl wl : Addr) (as : List Addr) (ps : List Int) (ws : List Way) : Prop := H p = some (.tup [.ref pl, .ref wl]) ∧ H pl = some (.lst (ps.map V.int)) ∧ H wl = some (.lst (as.map V.ref)) ∧ WaysAt H as ws
theorem PlotAt.same {H H' : Hp} {p pl wl : Addr} {as : List Addr} {ps : List Int} {ws : List Way} (h : PlotAt H p pl wl as ps ws) (e : Same H H') : PlotAt H' p pl wl as ps ws := ⟨e _ _ h.1, e _ _ h.2.1, e _ _ h.2.2.1, h.2.2.2.same e⟩
def RetPlot (ps : List Int) (ws : List Way) (H : Hp) (Q : VK) : Prop := ∀ p pl wl as H', H p = none → Same H H' → PlotAt H' p pl wl as ps ws → Q (.ref p) H'
def sp_law_house (K : PySem.W.Frag) (C : Cs) : Sp := fun vs H Q _ => ∃ (a : Addr) (ns : List Int), vs = [.ref a] ∧ SqL K H a (ns.map V.int) ∧ RetPlot (folkZ ns) (waysZ ns) H Q
theorem ix_last {n : Nat} (h : 0 < n) : ixN n (-1) = some (n - 1) := by
  unfold ixN
  rw [if_neg (by omega), if_pos (by omega)]
  congr 1
  omega
section
variable {P : Program} {w : World} {K : PySem.W.Frag} {mg : Str → Option Value} {base : Heap} {C : Cs}
abbrev N_law_house : List PySem.Str := ["script", "rooms", "many", "ways", "k"]
theorem sc_law_house : FnScope N_law_house ["script"] (defScope s_law_house) := ⟨rfl, rfl, rfl, by decide +kernel, rfl, by decide +kernel, by decide +kernel⟩
theorem c_law_house {f fd} (D : FnP K "_law_house" "_law_house" s_law_house f fd) (hm : mg "_law_house" = some (.ref f)) (G : Bn mg) (c_law_draw : Cal P w K mg base CX0 2 "_law_draw" (sp_law_draw K C)) (c_law_way : Cal P w K mg base CX0 3 "_law_way" (sp_law_way K C)) (c_law_people : Cal P w K mg base CX0 3 "_law_people" (sp_law_people K C)) : Cal P w K mg base CX0 4 "_law_house" (sp_law_house K C) := by
  refine cal_of D hm (D.ok sc_law_house (fun vs H Q E h => ?_) (fun cdv A outer s H vs Q E hr h => ?_)) (fun _ _ _ _ _ _ us hl => match us, hl with | [_], _ => rfl)
  · obtain ⟨a, ns, rfl, hS, q⟩ := h
    rfl
  · obtain ⟨a, ns, rfl, hS, q⟩ := h
    have hu := hu_of hr
    refine ⟨_, PSs.nox (pss_cons (ps_set (i := 1) sc_law_house.nd rfl (Or.inr rfl) (pe_op op_add pe_int (pe_op op_mod (pe_c c_law_draw hr (by decide) pass0 rfl (pa_cons (pv 0) (pa_cons pe_int pa_nil))) pe_int)))
        (pss_cons (ps_set (i := 2) sc_law_house.nd rfl (Or.inl rfl) (pe_op op_mod (pe_c c_law_draw hr (by decide) pass0 rfl (pa_cons (pv 0) (pa_cons pe_int pa_nil))) pe_int))
        (pss_cons (ps_if (pt_cmpR op_eq (pe_op op_mod (pe_op op_fdiv (pe_c c_law_draw hr (by decide) pass0 rfl (pa_cons (pv 0) (pa_cons pe_int pa_nil))) pe_int) pe_int) pe_int (nomark _))
          (pss_one (ps_set (i := 2) sc_law_house.nd rfl (Or.inl rfl) pe_int))
          pss_nil)
        (pss_cons (ps_setLc (i := 3) (own := [("k", 4)]) (g := gName 4) rfl sc_law_house.nd rfl rfl (sw_true rfl rfl rfl (by decide +kernel)) (pi_range1 rfl G.range_ (pa_cons (pv 2) pa_nil)) (blkOk_by (own := [("k", 4)]) (N := N_law_house) (sc := defScope s_law_house) (by decide +kernel)) (fun _ _ _ _ _ => pg_name (i := 4) sc_law_house.nd rfl (Or.inl rfl)) (fun _ _ _ _ _ => pts_nil) (fun _ _ _ _ _ => (pe_c c_law_way hr (by decide) pass0 rfl (pa_cons (pv 0) (pa_cons (pv 4) (pa_cons (pv 1) pa_nil))))))
        (pss_cons (ps_if (PW.pt (pw_and (pt_cmpR (op_neDK (K := K) rfl hr.units) (pv 3) (pe_lst pa_nil) (nomark _)) (pw_and1 (pt_cmpR op_eq (pe_op op_mod (pe_c c_law_draw hr (by decide) pass0 rfl (pa_cons (pv 0) (pa_cons pe_int pa_nil))) pe_int) pe_int (nomark _)))))
          (pss_one (ps_asg (pe_ix (ix_listK (K := K) rfl) (pv 3) pe_int (fun _ _ => rfl)) (pg_sub (pv 3) (pe_un un_neg pe_int) set_list)))
          pss_nil)
        (pss_one (ps_ret (pe_tup (pa_cons (pe_c c_law_people hr (by decide) pass0 rfl (pa_cons (pv 0) (pa_cons (pv 1) pa_nil))) (pa_cons (pv 3) pa_nil)))))))))), ?_⟩
    have hd1 := draw_nn ns 1
    have hd7 := draw_nn ns 7
    kopn_word
    kopn_word
    refine q_ifset (v := .int (manyZ ns)) (by kbt_split) (fun hb => ?_) (fun hb => ?_) ?_
    · have hb : drawZ ns 7 / 8 % 8 = 1 := by simpa using hb
      simp only [manyZ, if_pos hb]
      exact v_c
    · have hb : ¬ drawZ ns 7 / 8 % 8 = 1 := by simpa using hb
      simp only [manyZ, if_neg hb]
      rfl
    have hm : 0 ≤ manyZ ns ∧ manyZ ns ≤ 10 := by
      unfold manyZ
      split <;> omega
    refine q_setH (h_lcR (n := manyZ ns) (by kxs_still) (by omega) (fun _ => rfl) (fun i x H2 => ∃ p, x = .ref p ∧ WayAt H2 p (wayZ ns (i : Int) (roomsZ ns))) (fun _ => noList_tup (P := fun _ => True)) fun i H' hi e => ?_) fun v H1 hv => ?_
    · have hS := Evl.ex_l e hS
      refine h_call (vs := [.ref a, .int i, .int (roomsZ ns)]) (by kxs_still) fun Q q => ⟨a, ns, i, roomsZ ns, rfl, hS, by omega, by unfold roomsZ; omega, fun p H2 h1 h2 h3 => q _ _ ⟨h2, p, rfl, h3⟩⟩
    obtain ⟨D, as, rfl, hD0, e1, hD, hW⟩ := made_ways hv
    have hS := Evl.ex_l e1 hS
    have hW : WaysAt H1 as (ways0Z ns) := hW
    have hlen := hW.len
    have fin : ∀ (H2 : Hp) (as2 : List Addr) (ws : List Way), ws = waysZ ns → Same H H2 → H2 D = some (.lst (as2.map V.ref)) → WaysAt H2 as2 ws →
        tRet (tTup (tCons (tCall (sp_law_people K C) [] (fun _ _ _ => False) (tCons (tVar 0) (tCons (tVar 1) tNil))) (tCons (tVar 3) tNil))) { nx := fun x H' => Q V.non H', rt := Q }
          [some (.ref a), some (.int (roomsZ ns)), some (.int (manyZ ns)), some (.ref D), none] H2 := by
      intro H2 as2 ws hws e2 h2 hw2
      subst hws
      have hS : SqL K H2 a (ns.map V.int) := Evl.ex_l e2 (by assumption)
      refine ⟨_, rfl, _, rfl, a, ns, roomsZ ns, rfl, hS, by unfold roomsZ; omega, fun p H3 hp e3 h3 => ?_⟩
      refine ⟨_, rfl, (by show 2 ≤ sizeLine; decide), fun r hr => ?_⟩
      have e4 : Same H3 (upd H3 r (.tup [.ref p, .ref D])) := same_upd hr
      exact q r p D as2 _ (e2.free (e3.free hr)) (e2.trans (e3.trans e4)) ⟨upd_same, e4 _ _ h3, e4 _ _ (e3 _ _ h2), (hw2.same e3).same e4⟩
    refine q_whenG (b := !(PyData.eqv (waysD (ways0Z ns)) (.list [])) && decide (drawZ ns 54 % 4 = 1)) (ag_and (ag_test (g_neD (g_of (by kbo_bools)) (fun H' e => ValH.imp h_nil fun y H2 z => ⟨z.1, dp_ways (z.1 _ _ (e _ _ hD)) ((hW.same e).same z.1), z.2⟩) (shaped_ways _) shaped_nil)) fun hb H' e => ?_) (fun hb H2 e2 => ?_) (fun hb H2 e2 => ?_)
    · have hS := Evl.ex_l e hS
      refine ag_of (Ans.to (by kbt_split) ?_)
      rw [Bool.eq_iff_iff]
      simp
    · rw [eqv_ways_nil] at hb
      have hb : ways0Z ns ≠ [] ∧ drawZ ns 54 % 4 = 1 := by simpa using hb
      obtain ⟨w0, ws0, hw0⟩ := List.exists_cons_of_ne_nil hb.1
      have hW2 := hW.same e2
      obtain ⟨a0, ha0, hwa⟩ := All2.get (i := 0) hW2 (b := w0) (by rw [hw0]; rfl)
      have hl0 : 0 < (as.map V.ref).length := by
        have := (List.getElem?_eq_some_iff.mp ha0).1
        simpa using this
      refine s_setL (e2 _ _ hD) (v := .ref a0) (v_ixL (i := 0) (by kbo_bools) (by kbo_bools) (SqL.of (e2 _ _ hD)) (atI_nat (j := 0) (by simp [ha0]))) (by kbo_bools) (by kbo_bools) (ix_last hl0) ?_
      have hne : ∀ b o, H b = some o → b ≠ D := fun b o h => ne_none h hD0
      have hW3 : ∀ o, WaysAt (upd H2 D o) as (ways0Z ns) := fun o => All2.imp hW2 fun x y hxy => by
        have hxy : H2 x = some (.tup (wayV y)) := hxy
        show (upd H2 D o) x = _
        rw [upd_ne (ne_of hxy (e2 _ _ hD) (by intro z; cases z))]
        exact hxy
      refine fin _ (as.set (as.length - 1) a0) ((ways0Z ns).set ((ways0Z ns).length - 1) w0) ?_ ?_ ?_ ?_
      · unfold waysZ
        rw [if_pos hb, hw0]
        rfl
      · exact same_mut (e1.trans e2) hD0
      · rw [upd_same, List.map_set]
        simp
      · rw [← hlen]
        refine All2.set ?_ _ (hW3 _)
        obtain ⟨b, hb1, hb2⟩ := All2.get (i := 0) (hW3 _) (b := w0) (by rw [hw0]; rfl)
        rw [ha0] at hb1
        cases hb1
        exact hb2
    · rw [eqv_ways_nil] at hb
      have hb : ¬ (ways0Z ns ≠ [] ∧ drawZ ns 54 % 4 = 1) := by
        intro h
        simp [h.1, h.2] at hb
      exact fin H2 as (ways0Z ns) (by unfold waysZ; rw [if_neg hb]) (e1.trans e2) (e2 _ _ hD) (hW.same e2)
end
/-! ### the house -/
def wayOk (n : Int) (x : Way) : Bool := decide (1 ≤ x.s ∧ x.s ≤ n ∧ 0 ≤ x.e ∧ x.e ≤ n ∧ x.s ≠ x.e ∧ 1 ≤ x.w ∧ x.w ≤ 9 ∧ 1 ≤ x.l ∧ x.l ≤ 6)
def countOk (x : Int) : Bool := decide (0 ≤ x ∧ x ≤ 9)
def houseOk (ps : List Int) (ws : List Way) : Bool := decide (1 ≤ ps.length ∧ ps.length ≤ 4 ∧ ws.length ≤ 10) && ps.all countOk && ws.all (wayOk ps.length)
def sp_see_way (K : PySem.W.Frag) (C : Cs) : Sp := fun vs H Q E => ∃ (a : Addr) (x : Way) (n : Int), vs = [.ref a, .int n] ∧ WayAt H a x ∧ (wayOk n x = true → Q .non H) ∧ (wayOk n x = false → E (.ref C.BadHouse) none H)
def hF (a b : Addr) : List (Str × V) := [("held", .ref a), ("laid", .ref b)]
theorem hl_ : ¬ (("held" : Str) = "laid") := by decide +kernel
theorem hF_eq (a b : Addr) : putF "laid" (.ref b) (putF "held" (.ref a) []) = hF a b := by
  show (if ("held" : Str) = "laid" then [(("held" : Str), V.ref b)] else (("held" : Str), V.ref a) :: putF "laid" (V.ref b) []) = _
  rw [if_neg hl_]
  rfl
theorem hF_held (a b : Addr) : (hF a b).lookup ("held" : Str) = some (.ref a) := by
  rw [← hF_eq, lookup_putF, if_neg hl_, lookup_putF, if_pos rfl]
theorem hF_laid (a b : Addr) : (hF a b).lookup ("laid" : Str) = some (.ref b) := by
  rw [← hF_eq, lookup_putF, if_pos rfl]
theorem hF_no (a b : Addr) {m : Str} (h1 : ¬ m = "laid") (h2 : ¬ m = "held") : (hF a b).lookup m = none := by
  rw [← hF_eq, lookup_putF, if_neg h1, lookup_putF, if_neg h2]
  rfl
structure HouseIn (C : Cs) (H : Hp) (h dx hl wl : Addr) (as : List Addr) (ps : List Int) (ws : List Way) : Prop where
  ob : H h = some (.ins C.House dx (hF hl wl))
  hd : H hl = some (.lst (ps.map V.int))
  ld : H wl = some (.lst (as.map V.ref))
  ws : WaysAt H as ws
theorem HouseIn.same {C : Cs} {H H' : Hp} {h dx hl wl : Addr} {as : List Addr} {ps : List Int} {ws : List Way} (x : HouseIn C H h dx hl wl as ps ws) (e : Same H H') : HouseIn C H' h dx hl wl as ps ws := ⟨e _ _ x.ob, e _ _ x.hd, e _ _ x.ld, x.ws.same e⟩
/-- a house stands at h -/
def HouseAt (C : Cs) (H : Hp) (h : Addr) (as : List Addr) (ps : List Int) (ws : List Way) : Prop := ∃ dx hl wl, HouseIn C H h dx hl wl as ps ws
theorem HouseAt.same {C : Cs} {H H' : Hp} {h : Addr} {as : List Addr} {ps : List Int} {ws : List Way} (x : HouseAt C H h as ps ws) (e : Same H H') : HouseAt C H' h as ps ws := let ⟨dx, hl, wl, y⟩ := x; ⟨dx, hl, wl, y.same e⟩
def sp_House_init (K : PySem.W.Frag) (C : Cs) : Sp := fun vs H Q E => ∃ (h dx pl wl : Addr) (as : List Addr) (ps : List Int) (ws : List Way), vs = [.ref h, .ref pl, .ref wl] ∧ H h = some (.ins C.House dx []) ∧ H pl = some (.lst (ps.map V.int)) ∧ H wl = some (.lst (as.map V.ref)) ∧ WaysAt H as ws ∧
  ps.length ≤ 1000 ∧ ws.length ≤ 1000 ∧
  (houseOk ps ws = true → ∀ H', (∃ l1 l2, H l1 = none ∧ H l2 = none ∧ HouseIn C H' h dx l1 l2 as ps ws) → (∀ b o, H b = some o → b ≠ h → H' b = some o) → Q .non H') ∧ (houseOk ps ws = false → ∀ H', Same H H' → E (.ref C.BadHouse) none H')
def sp_House_people (K : PySem.W.Frag) (C : Cs) : Sp := fun vs H Q _ => ∃ (h : Addr) (as : List Addr) (ps : List Int) (ws : List Way), vs = [.ref h] ∧ HouseAt C H h as ps ws ∧ RetInts ps H Q
def RetWays (as : List Addr) (H : Hp) (Q : VK) : Prop := ∀ p H', H p = none → Same H H' → H' p = some (.lst (as.map V.ref)) → Q (.ref p) H'
def sp_House_ways (K : PySem.W.Frag) (C : Cs) : Sp := fun vs H Q _ => ∃ (h : Addr) (as : List Addr) (ps : List Int) (ws : List Way), vs = [.ref h] ∧ HouseAt C H h as ps ws ∧ RetWays as H Q
def sp_House_total (K : PySem.W.Frag) (C : Cs) : Sp := fun vs H Q _ => ∃ (h : Addr) (as : List Addr) (ps : List Int) (ws : List Way), vs = [.ref h] ∧ HouseAt C H h as ps ws ∧ Q (.int ps.sum) H
theorem v_sum {K : PySem.W.Frag} {σ : St} {H : Hp} {ta : TE} {p : Addr} {ns : List Int} (ha : Val ta σ H (.ref p)) (h : SqL K H p (ns.map V.int)) : Val (tCB (rSum K) (tCons ta tNil)) σ H (.int ns.sum) := fun _ q => ha _ ⟨p, ns, rfl, h, q⟩
section
variable {P : Program} {w : World} {K : PySem.W.Frag} {mg : Str → Option Value} {base : Heap} {C : Cs}
abbrev N_see_way : List PySem.Str := ["way", "rooms"]
theorem sc_see_way : FnScope N_see_way ["way", "rooms"] (defScope s_see_way) := ⟨rfl, rfl, rfl, by decide +kernel, rfl, by decide +kernel, by decide +kernel⟩
theorem c_see_way {f fd} (D : FnP K "see_way" "see_way" s_see_way f fd) (hm : mg "see_way" = some (.ref f)) (G : Bn mg) (X_BadHouse : Xc K mg "BadHouse" C.BadHouse) : Cal P w K mg base (L2.CX P w) 1 "see_way" (sp_see_way K C) := by
  refine cal_of D hm (D.ok sc_see_way (fun vs H Q E h => ?_) (fun cdv A outer s H vs Q E hr h => ?_)) (fun _ _ _ _ _ _ us hl => match us, hl with | [_, _], _ => rfl)
  · obtain ⟨a, x, n, rfl, hW, q, e⟩ := h
    rfl
  · obtain ⟨a, x, n, rfl, hW, q, e⟩ := h
    have hu := hu_of hr
    refine ⟨_, (pss_cons (ps_if (PW.pt (pw_or (pt_not (pt_chain op_le op_le pe_int (pe_ix (ix_tupK (K := K) rfl) (pv 0) pe_int (fun _ _ => rfl)) (pv 1))) (pw_or (pt_not (pt_chain op_le op_le pe_int (pe_ix (ix_tupK (K := K) rfl) (pv 0) pe_int (fun _ _ => rfl)) (pv 1))) (pw_or1 (pt_cmpR op_eq (pe_ix (ix_tupK (K := K) rfl) (pv 0) pe_int (fun _ _ => rfl)) (pe_ix (ix_tupK (K := K) rfl) (pv 0) pe_int (fun _ _ => rfl)) (nomark _))))))
          (pss_one (ps_raise rfl (takes_of rfl rfl rfl rfl) (pmk_own PySem.F.excBase_ValueError X_BadHouse.xi X_BadHouse.g X_BadHouse.k (raises_own X_BadHouse.b X_BadHouse.t) rfl)))
          pss_nil)
        (pss_one (ps_if (PW.pt (pw_or (pt_not (pt_chain op_le op_le pe_int (pe_ix (ix_tupK (K := K) rfl) (pv 0) pe_int (fun _ _ => rfl)) pe_int)) (pw_or1 (pt_not (pt_chain op_le op_le pe_int (pe_ix (ix_tupK (K := K) rfl) (pv 0) pe_int (fun _ _ => rfl)) pe_int)))))
          (pss_one (ps_raise rfl (takes_of rfl rfl rfl rfl) (pmk_own PySem.F.excBase_ValueError X_BadHouse.xi X_BadHouse.g X_BadHouse.k (raises_own X_BadHouse.b X_BadHouse.t) rfl)))
          pss_nil))), ?_⟩
    have hW : H a = some (.tup [.int x.s, .int x.e, .int x.w, .int x.l]) := hW
    l_intsC
    · intro hb
      refine e ?_
      simp [wayOk] at hb ⊢
      omega
    · intro hb
      refine s_if (b := !(decide (1 ≤ x.w) && decide (x.w ≤ 9)) || !(decide (1 ≤ x.l) && decide (x.l ≤ 6))) (by kbt_split) (fun hc => ?_) (fun hc => ?_)
      · refine e ?_
        simp [wayOk] at hb hc ⊢
        omega
      · refine q ?_
        simp [wayOk] at hb hc ⊢
        omega
abbrev N_House_init : List PySem.Str := ["self", "people", "ways", "way", "count"]
theorem sc_House_init : FnScope N_House_init ["self", "people", "ways"] (defScope s_House_init) := ⟨rfl, rfl, rfl, by decide +kernel, rfl, by decide +kernel, by decide +kernel⟩
theorem c_House_init {f fd} (D : FnP K "__init__" "House.__init__" s_House_init f fd) (hm : mg "House" = some (.ref C.House)) (hk : Mk K C.House f) (G : Bn mg) (HC : HouseC K C) (X_BadHouse : Xc K mg "BadHouse" C.BadHouse) (c_see_way : Cal P w K mg base (L2.CX P w) 1 "see_way" (sp_see_way K C)) : Mak P w K mg base (L2.CX P w) 2 "House" C.House (sp_House_init K C) := by
  refine mak_of D hm hk (D.ok sc_House_init (fun vs H Q E h => ?_) (fun cdv A outer s H vs Q E hr h => ?_)) (fun _ _ _ _ _ _ us hl => match us, hl with | [_, _, _], _ => rfl)
  · obtain ⟨h, dx, pl, wl, as, ps, ws, rfl, ho, hp, hl, hW, hz1, hz2, q, e⟩ := h
    rfl
  · obtain ⟨h, dx, pl, wl, as, ps, ws, rfl, ho, hp, hl, hW, hz1, hz2, q, e⟩ := h
    have hu := hu_of hr
    refine ⟨_, (pss_cons (ps_if (PW.pt (pw_or (pt_not (pt_chain op_le op_le pe_int (pe_callB (id := "len") (call_len_seqK (K := K) rfl) (by rfl) G.len_ (by decide +kernel) (pa_cons (pv 1) pa_nil)) pe_int)) (pw_or1 (pt_cmpR op_gt (pe_callB (id := "len") (call_len_seqK (K := K) rfl) (by rfl) G.len_ (by decide +kernel) (pa_cons (pv 2) pa_nil)) pe_int (nomark _)))))
          (pss_one (ps_raise rfl (takes_of rfl rfl rfl rfl) (pmk_own PySem.F.excBase_ValueError X_BadHouse.xi X_BadHouse.g X_BadHouse.k (raises_own X_BadHouse.b X_BadHouse.t) rfl)))
          pss_nil)
        (pss_cons (ps_if (pt_cmpR (op_neDK (K := K) rfl hr.units) (pe_lc (own := [("count", 4)]) (g := gName 4) rfl sc_House_init.nd (pi_listK (K := K) rfl (pv 1)) (blkOk_by (own := [("count", 4)]) (N := N_House_init) (sc := defScope s_House_init) (by decide +kernel)) (fun _ _ _ _ _ => pg_name (i := 4) sc_House_init.nd rfl (Or.inl rfl)) (fun _ _ _ _ _ => (pts_one (pt_not (pt_chain op_le op_le pe_int (pv 4) pe_int)))) (fun _ _ _ _ _ => (pv 4))) (pe_lst pa_nil) (nomark _))
          (pss_one (ps_raise rfl (takes_of rfl rfl rfl rfl) (pmk_own PySem.F.excBase_ValueError X_BadHouse.xi X_BadHouse.g X_BadHouse.k (raises_own X_BadHouse.b X_BadHouse.t) rfl)))
          pss_nil)
        (pss_cons (ps_for (passes_of rfl) rfl (pi_listK (K := K) rfl (pv 2)) (pg_name (i := 3) sc_House_init.nd rfl (Or.inl rfl))
          (pss_one (ps_expr (pe_c c_see_way hr (by decide) (passes_call (takes_of rfl rfl rfl rfl) (fun _ _ _ _ h => h)) rfl (pa_cons (pv 3) (pa_cons (pe_callB (id := "len") (call_len_seqK (K := K) rfl) (by rfl) G.len_ (by decide +kernel) (pa_cons (pv 1) pa_nil)) pa_nil))))))
        (pss_cons (ps_fldK (K := K) rfl (pv 0) (pe_callTy (T := "list") (call_list_ofK (K := K) rfl) (by rfl) G.list_ (by decide +kernel) (pa_cons (pv 1) pa_nil)) rfl)
        (pss_one (ps_fldK (K := K) rfl (pv 0) (pe_lc (own := [("way", 3)]) (g := gName 3) rfl sc_House_init.nd (pi_listK (K := K) rfl (pv 2)) (blkOk_by (own := [("way", 3)]) (N := N_House_init) (sc := defScope s_House_init) (by decide +kernel)) (fun _ _ _ _ _ => pg_name (i := 3) sc_House_init.nd rfl (Or.inl rfl)) (fun _ _ _ _ _ => pts_nil) (fun _ _ _ _ _ => (pe_callTy (T := "tuple") (call_tupleTK (K := K) rfl) (by rfl) G.tuple_ (by decide +kernel) (pa_cons (pv 3) pa_nil)))) rfl)))))), ?_⟩
    have hlen := hW.len
    have hal : (as.map V.ref).length = ws.length := by simp [hlen]
    have hpl : (ps.map V.int).length = ps.length := by simp
    have nh : ∀ b, H b = none → b ≠ h := fun b hb z => by
      rw [z, ho] at hb
      cases hb
    refine q_when (b := !(decide (1 ≤ (((ps.map V.int).length : Nat) : Int)) && decide ((((ps.map V.int).length : Nat) : Int) ≤ 4)) || decide ((10 : Int) < (((as.map V.ref).length : Nat) : Int))) (by kbt_split) (fun hb => ?_) (fun hb => ?_)
    · refine e ?_ H (Same.refl H)
      rw [hal, hpl] at hb
      simp [houseOk] at hb ⊢
      intro h1 h2 h3
      omega
    rw [hal, hpl] at hb
    have hsz : 1 ≤ ps.length ∧ ps.length ≤ 4 ∧ ws.length ≤ 10 := by
      simp at hb
      omega
    refine q_whenG (b := !PyData.eqv (intsD ((ps.filter fun x => !countOk x).map id)) (.list [])) (ag_test (g_neDH (P := fun v H' => ∃ D, v = .ref D ∧ H D = none ∧ Same H H' ∧ H' D = some (.lst ((ps.filter fun x => !countOk x).map V.int)))
      (h_lcF ps V.int V.int (fun x => !countOk x) (by kbo_bools) (SqL.of hp) (by omega) (fun _ => rfl) (fun x H' _ _ => ag_of (Ans.to (by kbt_split) (by simp [countOk]))) (fun x H' _ _ _ => g_of (by kbo_bools))) (fun v H' hv => ?_) (shaped_ints _) shaped_nil)) (fun hb2 H1 e1 => ?_) (fun hb2 H1 e1 => ?_)
    · obtain ⟨D, rfl, h1, h2, h3⟩ := hv
      refine ⟨h2, ValH.imp h_nil fun y H2 z => ⟨z.1, ?_, z.2⟩⟩
      rw [List.map_id]
      exact dp_ints (z.1 _ _ h3)
    · refine e ?_ H1 e1
      rw [eqv_ints_nil, List.map_id] at hb2
      simp [houseOk] at hb2 ⊢
      intro h1 h2 h3 h4
      obtain ⟨x, hx, hx2⟩ := hb2
      rw [h4 x hx] at hx2
      cases hx2
    rw [eqv_ints_nil, List.map_id] at hb2
    have hps : ∀ x ∈ ps, countOk x = true := by
      intro x hx
      simp at hb2
      exact hb2 x hx
    have hl1 := e1 _ _ hl
    have hW1 := hW.same e1
    refine q_forL (xs := as.map V.ref) (by kbo_bools) (SqL.of hl1) (fun i σ' H' => ∃ v, σ' = [some (.ref h), some (.ref pl), some (.ref wl), v, none] ∧ H' = H1 ∧ ∀ k x, k < i → ws[k]? = some x → wayOk ps.length x = true) ⟨none, rfl, rfl, fun k x hk => by omega⟩
      (fun i σ' H' _ ⟨_, _, e, _⟩ => by rw [e]; exact SqL.of hl1) ?_ ?_
    · rintro i x σ' H' hi ⟨v, rfl, rfl, hk⟩
      rw [List.getElem?_map] at hi
      cases ea : as[i]? with
      | none =>
        rw [ea] at hi
        cases hi
      | some a =>
        rw [ea] at hi
        have hi : V.ref a = x := Option.some.inj hi
        subst hi
        obtain ⟨y, hy, hya⟩ := All2.get' hW1 ea
        refine ⟨_, rfl, _, rfl, pl, ps.map V.int, rfl, .inl (SqL.of (e1 _ _ hp)), a, y, ps.length, ?_, hya, fun hok => ?_, fun hno => ?_⟩
        · rw [hpl]
          rfl
        · refine ⟨_, rfl, rfl, fun k x hk2 hx => ?_⟩
          by_cases hki : k = i
          · subst hki
            rw [hy] at hx
            cases hx
            exact hok
          · exact hk k x (by omega) hx
        · refine e ?_ _ e1
          have : ws.all (wayOk ps.length) = false := by
            rw [Bool.eq_false_iff]
            intro h4
            rw [List.all_eq_true] at h4
            rw [h4 y (List.mem_of_getElem? hy)] at hno
            cases hno
          simp only [houseOk, this, Bool.and_false]
    · rintro σ' H' ⟨v, rfl, rfl, hk⟩
      have hok : houseOk ps ws = true := by
        simp only [houseOk, Bool.and_eq_true, decide_eq_true_eq, List.all_eq_true]
        refine ⟨⟨hsz, hps⟩, fun x hx => ?_⟩
        obtain ⟨i, hi⟩ := List.getElem?_of_mem hx
        refine hk i x ?_ hi
        have := (List.getElem?_eq_some_iff.mp hi).1
        rw [hal]
        exact this
      have ho1 := e1 _ _ ho
      have hp1 := e1 _ _ hp
      refine q_fldH (p := h) (h_list (by kbo_bools) (SqL.of hp1)) fun v H2 hv => ⟨by kbo_bools, ?_⟩
      obtain ⟨l1, rfl, hl1', rfl⟩ := hv
      have n1 : h ≠ l1 := ne_none ho1 hl1'
      refine ⟨C.House, dx, [], by rw [upd_ne n1]; exact ho1, HC.cl, HC.held, by show 0 < 1000; decide, ?_⟩
      have nl1 : ∀ b o, H' b = some o → b ≠ l1 := fun b o hb => ne_none hb hl1'
      have hn1 : wl ≠ h := ne_of hl1 ho1 (by intro z; cases z)
      have hl3 : (upd (upd H' l1 (.lst (ps.map V.int))) h (.ins C.House dx (putF "held" (.ref l1) []))) wl = some (.lst (as.map V.ref)) := by
        rw [upd_ne hn1, upd_ne (nl1 _ _ hl1)]
        exact hl1
      have hW3 : WaysAt (upd (upd H' l1 (.lst (ps.map V.int))) h (.ins C.House dx (putF "held" (.ref l1) []))) as ws := All2.imp hW1 fun a x hax => by
        have hax : H' a = some (.tup (wayV x)) := hax
        show (upd (upd H' l1 _) h _) a = _
        rw [upd_ne (ne_of hax ho1 (by intro z; cases z)), upd_ne (nl1 _ _ hax)]
        exact hax
      refine s_fldH (p := h) (h_lcF as V.ref V.ref (fun _ => true) (by kbo_bools) (SqL.of hl3) (by omega) (fun _ => rfl) (fun _ _ _ _ => ag_yes) (fun a H4 ha _ e4 => ?_)) fun v H4 hv => ⟨by kbo_bools, ?_⟩
      · obtain ⟨i, hi⟩ := List.getElem?_of_mem ha
        obtain ⟨x, _, hx⟩ := All2.get' hW3 hi
        exact g_of (v_tupT (by kbo_bools) (e4 _ _ hx))
      · obtain ⟨l2, rfl, hl2, e4, h4⟩ := hv
        refine ⟨C.House, dx, _, e4 _ _ upd_same, HC.cl, HC.laid, by show 1 < 1000; decide, ?_⟩
        have hl2' : H' l2 = none := by
          cases z : H' l2 with
          | none => rfl
          | some o =>
            by_cases zz : l2 = h
            · rw [zz, upd_same] at hl2
              cases hl2
            · rw [upd_ne zz] at hl2
              by_cases z2 : l2 = l1
              · rw [z2, upd_same] at hl2
                cases hl2
              · rw [upd_ne z2, z] at hl2
                cases hl2
        have n2 : l2 ≠ h := fun z => by
          rw [z, ho1] at hl2'
          cases hl2'
        rw [hF_eq]
        refine q hok _ ⟨l1, l2, e1.free hl1', e1.free hl2', upd_same, ?_, ?_, ?_⟩ fun b o hb hbh => ?_
        · rw [upd_ne n1.symm]
          refine e4 _ _ ?_
          rw [upd_ne n1.symm, upd_same]
        · rw [upd_ne n2, h4, List.filter_eq_self.mpr (fun _ _ => rfl)]
        · refine All2.imp hW3 fun a x hax => ?_
          have hax : _ = some (HO.tup (wayV x)) := hax
          have := e4 _ _ hax
          show (upd H4 h _) a = _
          rw [upd_ne (ne_of this (e4 _ _ upd_same) (by intro z; cases z))]
          exact this
        · rw [upd_ne hbh]
          refine e4 _ _ ?_
          have hb1 := e1 _ _ hb
          rw [upd_ne hbh, upd_ne (nl1 _ _ hb1)]
          exact hb1
abbrev N_House_people : List PySem.Str := ["self"]
theorem sc_House_people : FnScope N_House_people ["self"] (defScope s_House_people) := ⟨rfl, rfl, rfl, by decide +kernel, rfl, by decide +kernel, by decide +kernel⟩
theorem c_House_people {f fd} (D : FnP K "people" "House.people" s_House_people f fd) (hc : Cls K C.House) (hm : Meth K C.House "people" f) (G : Bn mg) (HC : HouseC K C) : Met P w K mg base CX0 1 C.House "people" (sp_House_people K C) := by
  refine met_of D hc hm (D.ok sc_House_people (fun vs H Q E h => ?_) (fun cdv A outer s H vs Q E hr h => ?_)) (fun _ _ _ _ _ _ us hl => match us, hl with | [_], _ => rfl)
  · obtain ⟨h, as, ps, ws, rfl, ⟨dx, hl, wl, hI⟩, q⟩ := h
    rfl
  · obtain ⟨h, as, ps, ws, rfl, ⟨dx, hl, wl, hI⟩, q⟩ := h
    have hu := hu_of hr
    refine ⟨_, PSs.nox (pss_one (ps_ret (pe_callTy (T := "list") (call_list_ofK (K := K) rfl) (by rfl) G.list_ (by decide +kernel) (pa_cons (pe_fldK (K := K) rfl (pv 0) rfl) pa_nil)))), ?_⟩
    refine s_retH (h_list (v_fld (by kbo_bools) hI.ob HC.cl HC.held (hF_held _ _)) (SqL.of hI.hd)) ?_
    rintro v H' ⟨p, rfl, hp, rfl⟩
    exact q p _ hp (same_upd hp) upd_same
abbrev N_House_ways : List PySem.Str := ["self"]
theorem sc_House_ways : FnScope N_House_ways ["self"] (defScope s_House_ways) := ⟨rfl, rfl, rfl, by decide +kernel, rfl, by decide +kernel, by decide +kernel⟩
theorem c_House_ways {f fd} (D : FnP K "ways" "House.ways" s_House_ways f fd) (hc : Cls K C.House) (hm : Meth K C.House "ways" f) (G : Bn mg) (HC : HouseC K C) : Met P w K mg base CX0 1 C.House "ways" (sp_House_ways K C) := by
  refine met_of D hc hm (D.ok sc_House_ways (fun vs H Q E h => ?_) (fun cdv A outer s H vs Q E hr h => ?_)) (fun _ _ _ _ _ _ us hl => match us, hl with | [_], _ => rfl)
  · obtain ⟨h, as, ps, ws, rfl, ⟨dx, hl, wl, hI⟩, q⟩ := h
    rfl
  · obtain ⟨h, as, ps, ws, rfl, ⟨dx, hl, wl, hI⟩, q⟩ := h
    have hu := hu_of hr
    refine ⟨_, PSs.nox (pss_one (ps_ret (pe_callTy (T := "list") (call_list_ofK (K := K) rfl) (by rfl) G.list_ (by decide +kernel) (pa_cons (pe_fldK (K := K) rfl (pv 0) rfl) pa_nil)))), ?_⟩
    refine s_retH (h_list (v_fld (by kbo_bools) hI.ob HC.cl HC.laid (hF_laid _ _)) (SqL.of hI.ld)) ?_
    rintro v H' ⟨p, rfl, hp, rfl⟩
    exact q p _ hp (same_upd hp) upd_same
end
/-! ### a drawn house is one -/
theorem folk_len (ns : List Int) : (folkZ ns).length = (roomsZ ns).toNat := by simp [folkZ, peopleZ]
theorem rooms_b (ns : List Int) : 1 ≤ roomsZ ns ∧ roomsZ ns ≤ 4 := by
  unfold roomsZ
  have := draw_nn ns 1
  omega
theorem many_b (ns : List Int) : 0 ≤ manyZ ns ∧ manyZ ns ≤ 10 := by
  have := draw_nn ns 7
  unfold manyZ
  split <;> omega
theorem folk_ok (ns : List Int) : ∀ x ∈ folkZ ns, countOk x = true := by
  intro x hx
  simp only [folkZ, peopleZ, List.mem_map] at hx
  obtain ⟨k, _, rfl⟩ := hx
  have h := most_pos ns
  have h1 := Int.emod_nonneg (drawZ ns (3 + (k : Int))) (b := mostZ ns) (by omega)
  have h2 := Int.emod_lt_of_pos (drawZ ns (3 + (k : Int))) h.1
  simp only [countOk, decide_eq_true_eq]
  omega
theorem way_ok (ns : List Int) (k n : Int) (hn : 1 ≤ n) : wayOk n (wayZ ns k n) = true := by
  have hw := wide_b ns
  have hl := long_b ns
  have a1 := Int.emod_nonneg (drawZ ns (10 + k)) (b := n) (by omega)
  have a2 := Int.emod_lt_of_pos (drawZ ns (10 + k)) (b := n) (by omega)
  have b1 := Int.emod_nonneg (drawZ ns (21 + k)) (b := n + 1) (by omega)
  have b2 := Int.emod_lt_of_pos (drawZ ns (21 + k)) (b := n + 1) (by omega)
  have c1 := Int.emod_nonneg (drawZ ns (32 + k)) (b := wideZ ns) (by omega)
  have c2 := Int.emod_lt_of_pos (drawZ ns (32 + k)) (b := wideZ ns) (by omega)
  have d1 := Int.emod_nonneg (drawZ ns (43 + k)) (b := longZ ns) (by omega)
  have d2 := Int.emod_lt_of_pos (drawZ ns (43 + k)) (b := longZ ns) (by omega)
  unfold wayOk wayZ
  refine decide_eq_true ?_
  dsimp only
  generalize drawZ ns (10 + k) % n = xa at *
  generalize drawZ ns (21 + k) % (n + 1) = xb at *
  generalize drawZ ns (32 + k) % wideZ ns = xc at *
  generalize drawZ ns (43 + k) % longZ ns = xd at *
  by_cases he : xb = 1 + xa
  · simp only [if_pos he]
    omega
  · simp only [if_neg he]
    omega
theorem ways0_ok (ns : List Int) : ∀ x ∈ ways0Z ns, wayOk (roomsZ ns) x = true := by
  intro x hx
  simp only [ways0Z, List.mem_map] at hx
  obtain ⟨k, _, rfl⟩ := hx
  exact way_ok ns k _ (rooms_b ns).1
theorem ways_ok (ns : List Int) : ∀ x ∈ waysZ ns, wayOk (roomsZ ns) x = true := by
  intro x hx
  unfold waysZ at hx
  split at hx
  · rename_i h
    rcases List.mem_or_eq_of_mem_set hx with h1 | h1
    · exact ways0_ok ns x h1
    · obtain ⟨w0, ws0, hw0⟩ := List.exists_cons_of_ne_nil h.1
      rw [h1, hw0]
      exact ways0_ok ns w0 (by rw [hw0]; exact List.mem_cons_self ..)
  · exact ways0_ok ns x hx
theorem ways_len (ns : List Int) : (waysZ ns).length = (manyZ ns).toNat := by
  unfold waysZ
  split <;> simp [ways0Z]
theorem house_ok (ns : List Int) : houseOk (folkZ ns) (waysZ ns) = true := by
  have h1 := rooms_b ns
  have h2 := many_b ns
  have e : ((folkZ ns).length : Int) = roomsZ ns := by rw [folk_len]; omega
  simp only [houseOk, Bool.and_eq_true, decide_eq_true_eq, List.all_eq_true, e]
  rw [ways_len]
  exact ⟨⟨⟨by omega, by omega, by omega⟩, folk_ok ns⟩, ways_ok ns⟩
/-! ### which error -/
def sp_law_alone (K : PySem.W.Frag) (C : Cs) : Sp := fun vs H Q _ => ∃ (a D : Addr) (i : Nat), vs = [.ref a] ∧ i < 4 ∧ AloneC K C D i ∧ H a = some (ExK (.ref D) a) ∧ ∀ H', Same H H' → Q (.int i) H'
def fourB (i : Nat) : List Bool := [decide (i = 0), decide (i = 1), decide (i = 2), decide (i = 3)]
theorem four_count : ∀ i : Nat, i < 4 → (((fourB i).map PyData.bool).countP fun z => PyData.eqv z (.bool true)) = 1
  | 0, _ => by simp [fourB, PyData.eqv]
  | 1, _ => by simp [fourB, PyData.eqv]
  | 2, _ => by simp [fourB, PyData.eqv]
  | 3, _ => by simp [fourB, PyData.eqv]
  | n + 4, h => by omega
theorem dp_bools {K : PySem.W.Frag} {H : Hp} : ∀ bs : List Bool, DpAll K H (bs.map V.bl) (bs.map PyData.bool)
  | [] => .nil
  | b :: bs => .cons (.bl b) (dp_bools bs)
section
variable {P : Program} {w : World} {K : PySem.W.Frag} {mg : Str → Option Value} {base : Heap} {C : Cs}
abbrev N_law_alone : List PySem.Str := ["e", "found"]
theorem sc_law_alone : FnScope N_law_alone ["e"] (defScope s_law_alone) := ⟨rfl, rfl, rfl, by decide +kernel, rfl, by decide +kernel, by decide +kernel⟩
theorem c_law_alone {f fd} (D : FnP K "_law_alone" "_law_alone" s_law_alone f fd) (hm : mg "_law_alone" = some (.ref f)) (G : Bn mg) (XG : ExcG mg C) : Cal P w K mg base CX0 1 "_law_alone" (sp_law_alone K C) := by
  refine cal_of D hm (D.ok sc_law_alone (fun vs H Q E h => ?_) (fun cdv A outer s H vs Q E hr h => ?_)) (fun _ _ _ _ _ _ us hl => match us, hl with | [_], _ => rfl)
  · obtain ⟨a, D0, i, rfl, hi, hA, hE, q⟩ := h
    rfl
  · obtain ⟨a, D0, i, rfl, hi, hA, hE, q⟩ := h
    have hu := hu_of hr
    refine ⟨_, PSs.nox (pss_cons (ps_set (i := 1) sc_law_alone.nd rfl (Or.inl rfl) (pe_lst (pa_cons (pe_callB (id := "isinstance") (call_isKK (K := K) rfl) (by rfl) G.isinstance_ (by decide +kernel) (pa_cons (pv 0) (pa_cons (pe_glob (v := .ref C.BadHouse) rfl XG.BadHouse rfl) pa_nil))) (pa_cons (pe_callB (id := "isinstance") (call_isKK (K := K) rfl) (by rfl) G.isinstance_ (by decide +kernel) (pa_cons (pv 0) (pa_cons (pe_glob (v := .ref C.NoWalk) rfl XG.NoWalk rfl) pa_nil))) (pa_cons (pe_callB (id := "isinstance") (call_isKK (K := K) rfl) (by rfl) G.isinstance_ (by decide +kernel) (pa_cons (pv 0) (pa_cons (pe_glob (v := .ref C.BadPaper) rfl XG.BadPaper rfl) pa_nil))) (pa_cons (pe_callB (id := "isinstance") (call_isKK (K := K) rfl) (by rfl) G.isinstance_ (by decide +kernel) (pa_cons (pv 0) (pa_cons (pe_glob (v := .ref C.NoText) rfl XG.NoText rfl) pa_nil))) pa_nil))))))
        (pss_cons (ps_if (PW.pt (pw_or (pt_not (pt_val (pe_callB (id := "isinstance") (call_isKK (K := K) rfl) (by rfl) G.isinstance_ (by decide +kernel) (pa_cons (pv 0) (pa_cons (pe_glob (v := .ref C.HallError) rfl XG.HallError rfl) pa_nil))))) (pw_or (pt_not (pt_val (pe_callB (id := "isinstance") (call_isKK (K := K) rfl) (by rfl) G.isinstance_ (by decide +kernel) (pa_cons (pv 0) (pa_cons (pe_bltn (v := .ty "ValueError") (by rfl) G.ValueError_ (by decide +kernel) rfl) pa_nil))))) (pw_or1 (pt_cmpR op_ne (pe_bmK (K := K) rfl PySem.F.plainAttrs_list PySem.F.slot_list_count PySem.F.type_list_count (mt_countD (K := K) rfl (room65 hr)) (pv 1) (pa_cons pe_bl pa_nil)) pe_int (nomark _))))))
          (pss_one (ps_ret (pe_un un_neg pe_int)))
          pss_nil)
        (pss_one (ps_ret (pe_bmK (K := K) rfl PySem.F.plainAttrs_list PySem.F.slot_list_index PySem.F.type_list_index (mt_indexK (K := K) rfl) (pv 1) (pa_cons pe_bl pa_nil)))))), ?_⟩
    refine q_setH (h_lst (xs := (fourB i).map V.bl) (av_cons (v_isK (by kbo_bools) v_c hE hA.ex (.own _) hA.k0) (av_cons (v_isK (by kbo_bools) v_c hE hA.ex (.own _) hA.k1) (av_cons (v_isK (by kbo_bools) v_c hE hA.ex (.own _) hA.k2) (av_cons (v_isK (by kbo_bools) v_c hE hA.ex (.own _) hA.k3) av_nil)))) (by show 4 ≤ sizeLine; decide)) ?_
    rintro v H1 ⟨p, rfl, hp, rfl⟩
    have e1 := same_upd (o := .lst ((fourB i).map V.bl)) hp
    have hE1 := e1 _ _ hE
    have hL : (upd H p (.lst ((fourB i).map V.bl))) p = some (.lst ((fourB i).map V.bl)) := upd_same
    have hc : Val (tBM K "list" (rCntD K) (tVar 1) (tCons (tC (.bl true)) tNil)) [some (.ref a), some (.ref p)] (upd H p (.lst ((fourB i).map V.bl))) (.int 1) := fun Q q => by
      refine ⟨_, rfl, .inl ⟨rfl, _, SqL.of hL⟩, p, .bl true, .bool true, (fourB i).map PyData.bool, rfl, rfl, .lst (SqL.of hL) (dp_bools _), .bl true, ?_, ?_, ?_⟩
      · simp [SeqAt.shaped, fourB, PyData.canLay0, PyData.canLayAll0, PyData.depth, PyData.depthAll]
      · simp [SeqAt.shaped, PyData.canLay0, PyData.depth]
      · rw [four_count i hi]
        exact q
    refine q_when (b := !true || (!true || (!decide (V.int 1 = V.int 1)))) (a_or (a_not (a_B (v_isK (by kbo_bools) v_c hE1 hA.ex (.own _) hA.kh))) fun _ => a_or (a_not (a_B (v_isK (by kbo_bools) v_c hE1 hA.ex (.ty _) hA.kv))) fun _ => a_test (v_ne hc v_c rfl)) (fun hb => by simp at hb) (fun _ => ?_)
    refine s_ret (v := .int i) (fun Q q => ⟨_, rfl, .inl ⟨rfl, _, SqL.of hL⟩, p, (fourB i).map V.bl, .bl true, i, .bl true, rfl, rfl, SqL.of hL, rfl, ?_, ?_, rfl, ?_, q⟩) (q _ e1)
    · rfl
    · match i, hi with
      | 0, _ => rfl
      | 1, _ => rfl
      | 2, _ => rfl
      | 3, _ => rfl
    · intro m z' hm hz
      match i, hi with
      | 0, _ => omega
      | 1, _ =>
        match m, hm with
        | 0, _ => cases hz; rfl
      | 2, _ =>
        match m, hm with
        | 0, _ => cases hz; rfl
        | 1, _ => cases hz; rfl
      | 3, _ =>
        match m, hm with
        | 0, _ => cases hz; rfl
        | 1, _ => cases hz; rfl
        | 2, _ => cases hz; rfl
end
/-! ### a spoiled way -/
def b1 (y : Way) (f far n : Int) : Way := if f = 0 ∨ f = 1 then { y with s := if f = 0 then 0 else n + 1 + far } else y
def b2 (y : Way) (f far n : Int) : Way := if f = 2 ∨ f = 3 then { y with e := if f - 2 = 0 then -1 - far else n + 1 + far } else y
def b3 (y : Way) (f : Int) : Way := if f = 4 then { y with e := y.s } else y
def b4 (y : Way) (f far : Int) : Way := if f = 5 ∨ f = 6 then { y with w := if f - 5 = 0 then 0 - far else 10 + far } else y
def b5 (y : Way) (f far : Int) : Way := if f = 7 ∨ f = 8 then { y with l := if f - 7 = 0 then 0 - far else 7 + far } else y
def b6 (y : Way) (f far : Int) : Way := if f = 9 then { y with s := -1 - far } else y
def badZ (y : Way) (f far n : Int) : Way := b6 (b5 (b4 (b3 (b2 (b1 y f far n) f far n) f) f far) f far) f far
theorem badZ_no {y : Way} {f far n : Int} (hf : 0 ≤ f ∧ f < 10) (h : 0 ≤ far) (hn : 1 ≤ n) (hy : wayOk n y = true) : wayOk n (badZ y f far n) = false := by
  have hy : 1 ≤ y.s ∧ y.s ≤ n ∧ 0 ≤ y.e ∧ y.e ≤ n ∧ y.s ≠ y.e ∧ 1 ≤ y.w ∧ y.w ≤ 9 ∧ 1 ≤ y.l ∧ y.l ≤ 6 := by simpa [wayOk] using hy
  have : f = 0 ∨ f = 1 ∨ f = 2 ∨ f = 3 ∨ f = 4 ∨ f = 5 ∨ f = 6 ∨ f = 7 ∨ f = 8 ∨ f = 9 := by omega
  rw [wayOk, decide_eq_false_iff_not]
  rcases this with rfl | rfl | rfl | rfl | rfl | rfl | rfl | rfl | rfl | rfl <;> simp [badZ, b1, b2, b3, b4, b5, b6] <;> omega
theorem h_listT {K : PySem.W.Frag} {σ : St} {H : Hp} {ta : TE} {p : Addr} {xs : List V} (ha : Val ta σ H (.ref p)) (h : SqT K H p xs) : ValH (tCB (rListQ K) (tCons ta tNil)) σ H (NewL H xs) := fun Q q => ha _ ⟨p, xs, rfl, .inr h, fun l hl => q _ _ ⟨l, rfl, hl, rfl⟩⟩
def sp_law_bad_way (K : PySem.W.Frag) (C : Cs) : Sp := fun vs H Q _ => ∃ (a : Addr) (x : Way) (f far n : Int), vs = [.ref a, .int f, .int far, .int n] ∧ WayAt H a x ∧ (0 ≤ f ∧ f < 10) ∧ RetWay (badZ x f far n) H Q
def RowAt (H : Hp) (σ0 : Option V → St) (y : Way) (σ' : St) (H' : Hp) : Prop := ∃ r, σ' = σ0 (some (.ref r)) ∧ H r = none ∧ Same H H' ∧ H' r = some (.lst (wayV y))
section
variable {P : Program} {w : World} {K : PySem.W.Frag} {mg : Str → Option Value} {base : Heap} {C : Cs}
abbrev N_law_bad_way : List PySem.Str := ["way", "fault", "far", "rooms", "row"]
theorem sc_law_bad_way : FnScope N_law_bad_way ["way", "fault", "far", "rooms"] (defScope s_law_bad_way) := ⟨rfl, rfl, rfl, by decide +kernel, rfl, by decide +kernel, by decide +kernel⟩
theorem c_law_bad_way {f fd} (D : FnP K "_law_bad_way" "_law_bad_way" s_law_bad_way f fd) (hm : mg "_law_bad_way" = some (.ref f)) (G : Bn mg) : Cal P w K mg base CX0 1 "_law_bad_way" (sp_law_bad_way K C) := by
  refine cal_of D hm (D.ok sc_law_bad_way (fun vs H Q E h => ?_) (fun cdv A outer s H vs Q E hr h => ?_)) (fun _ _ _ _ _ _ us hl => match us, hl with | [_, _, _, _], _ => rfl)
  · obtain ⟨a, x, f, far, n, rfl, hW, hf, q⟩ := h
    rfl
  · obtain ⟨a, x, f, far, n, rfl, hW, hf, q⟩ := h
    have hu := hu_of hr
    refine ⟨_, PSs.nox (pss_cons (ps_set (i := 4) sc_law_bad_way.nd rfl (Or.inl rfl) (pe_callTy (T := "list") (call_list_ofK (K := K) rfl) (by rfl) G.list_ (by decide +kernel) (pa_cons (pv 0) pa_nil)))
        (pss_cons (ps_if (PW.pt (pw_or (pt_cmpR op_eq (pv 1) pe_int (nomark _)) (pw_or1 (pt_cmpR op_eq (pv 1) pe_int (nomark _)))))
          (pss_one (ps_asg (pe_ix (ix_listK (K := K) rfl) (pe_lst (pa_cons pe_int (pa_cons (pe_op op_add (pe_op op_add (pv 3) pe_int) (pv 2)) pa_nil))) (pv 1) (fun _ _ => rfl)) (pg_sub (pv 4) pe_int set_list)))
          pss_nil)
        (pss_cons (ps_if (PW.pt (pw_or (pt_cmpR op_eq (pv 1) pe_int (nomark _)) (pw_or1 (pt_cmpR op_eq (pv 1) pe_int (nomark _)))))
          (pss_one (ps_asg (pe_ix (ix_listK (K := K) rfl) (pe_lst (pa_cons (pe_op op_sub (pe_un un_neg pe_int) (pv 2)) (pa_cons (pe_op op_add (pe_op op_add (pv 3) pe_int) (pv 2)) pa_nil))) (pe_op op_sub (pv 1) pe_int) (fun _ _ => rfl)) (pg_sub (pv 4) pe_int set_list)))
          pss_nil)
        (pss_cons (ps_if (pt_cmpR op_eq (pv 1) pe_int (nomark _))
          (pss_one (ps_asg (pe_ix (ix_listK (K := K) rfl) (pv 4) pe_int (fun _ _ => rfl)) (pg_sub (pv 4) pe_int set_list)))
          pss_nil)
        (pss_cons (ps_if (PW.pt (pw_or (pt_cmpR op_eq (pv 1) pe_int (nomark _)) (pw_or1 (pt_cmpR op_eq (pv 1) pe_int (nomark _)))))
          (pss_one (ps_asg (pe_ix (ix_listK (K := K) rfl) (pe_lst (pa_cons (pe_op op_sub pe_int (pv 2)) (pa_cons (pe_op op_add pe_int (pv 2)) pa_nil))) (pe_op op_sub (pv 1) pe_int) (fun _ _ => rfl)) (pg_sub (pv 4) pe_int set_list)))
          pss_nil)
        (pss_cons (ps_if (PW.pt (pw_or (pt_cmpR op_eq (pv 1) pe_int (nomark _)) (pw_or1 (pt_cmpR op_eq (pv 1) pe_int (nomark _)))))
          (pss_one (ps_asg (pe_ix (ix_listK (K := K) rfl) (pe_lst (pa_cons (pe_op op_sub pe_int (pv 2)) (pa_cons (pe_op op_add pe_int (pv 2)) pa_nil))) (pe_op op_sub (pv 1) pe_int) (fun _ _ => rfl)) (pg_sub (pv 4) pe_int set_list)))
          pss_nil)
        (pss_cons (ps_if (pt_cmpR op_eq (pv 1) pe_int (nomark _))
          (pss_one (ps_asg (pe_op op_sub (pe_un un_neg pe_int) (pv 2)) (pg_sub (pv 4) pe_int set_list)))
          pss_nil)
        (pss_one (ps_ret (pe_callTy (T := "tuple") (call_tuple_ofK (K := K) rfl) (by rfl) G.tuple_ (by decide +kernel) (pa_cons (pv 4) pa_nil))))))))))), ?_⟩
    refine q_setH (h_listT (by kbo_bools) (SqT.of hW)) ?_
    rintro v H1 ⟨r, rfl, hr, rfl⟩
    have st0 : RowAt H (fun r => [some (.ref a), some (.int f), some (.int far), some (.int n), r]) x [some (.ref a), some (.int f), some (.int far), some (.int n), some (.ref r)] (upd H r (.lst (wayV x))) := ⟨r, rfl, hr, same_upd hr, upd_same⟩
    revert st0
    generalize (upd H r (.lst (wayV x))) = H1
    intro st0
    obtain ⟨r, eσ, h1, h2, h3⟩ := st0
    cases eσ
    refine q_ifM (RowAt H (fun r => [some (.ref a), some (.int f), some (.int far), some (.int n), r]) (b1 x f far n)) (b := decide (f = 0 ∨ f = 1)) (ag_of (Ans.to (by kbt_split) (by simp))) (fun N k hb H2 e2 => ?_) (fun hb H2 e2 => ⟨r, rfl, h1, h2.trans e2, by rw [b1, if_neg (by simpa using hb)]; exact e2 _ _ h3⟩) ?_
    · have hb : f = 0 ∨ f = 1 := by simpa using hb
      refine s_setLG (e2 _ _ h3) (g_ixLst (i := f) (by kxs_still) (by show 2 ≤ 1000; decide) (fun H' e => by kbo_bools) (at2 hb)) (fun _ _ => by kbo_bools) (fun _ _ => v_c) (n := 0) rfl fun H3 e3 => k _ _ ⟨r, rfl, h1, same_mut ((h2.trans e2).trans e3) h1, ?_⟩
      rw [upd_same, b1, if_pos hb]
      rfl
    rintro σ1 H1 ⟨r, rfl, h1, h2, h3⟩
    refine q_ifM (RowAt H (fun r => [some (.ref a), some (.int f), some (.int far), some (.int n), r]) (b2 (b1 x f far n) f far n)) (b := decide (f = 2 ∨ f = 3)) (ag_of (Ans.to (by kbt_split) (by simp))) (fun N k hb H2 e2 => ?_) (fun hb H2 e2 => ⟨r, rfl, h1, h2.trans e2, by rw [b2, if_neg (by simpa using hb)]; exact e2 _ _ h3⟩) ?_
    · have hb : f = 2 ∨ f = 3 := by simpa using hb
      refine s_setLG (e2 _ _ h3) (g_ixLst (i := f - 2) (by kxs_still) (by show 2 ≤ 1000; decide) (fun H' e => by kbo_bools) (at2 (by omega))) (fun _ _ => by kbo_bools) (fun _ _ => v_c) (n := 1) rfl fun H3 e3 => k _ _ ⟨r, rfl, h1, same_mut ((h2.trans e2).trans e3) h1, ?_⟩
      rw [upd_same, b2, if_pos hb]
      rfl
    rintro σ1 H1 ⟨r, rfl, h1, h2, h3⟩
    generalize hy2 : b2 (b1 x f far n) f far n = y2 at h3 ⊢
    refine q_ifM (RowAt H (fun r => [some (.ref a), some (.int f), some (.int far), some (.int n), r]) (b3 y2 f)) (b := decide (f = 4)) (ag_of (Ans.to (by kbt_split) (by simp))) (fun N k hb H2 e2 => ?_) (fun hb H2 e2 => ⟨r, rfl, h1, h2.trans e2, by rw [b3, if_neg (by simpa using hb)]; exact e2 _ _ h3⟩) ?_
    · have hb : f = 4 := by simpa using hb
      refine s_setLG (v := .int y2.s) (e2 _ _ h3) (g_of (v_ixL (i := 0) (by kbo_bools) (by kbo_bools) (SqL.of (e2 _ _ h3)) rfl)) (fun _ _ => by kbo_bools) (fun _ _ => v_c) (n := 1) rfl fun H3 e3 => k _ _ ⟨r, rfl, h1, same_mut ((h2.trans e2).trans e3) h1, ?_⟩
      rw [upd_same, b3, if_pos hb]
      rfl
    rintro σ1 H1 ⟨r, rfl, h1, h2, h3⟩
    generalize hy3 : b3 y2 f = y3 at h3 ⊢
    refine q_ifM (RowAt H (fun r => [some (.ref a), some (.int f), some (.int far), some (.int n), r]) (b4 y3 f far)) (b := decide (f = 5 ∨ f = 6)) (ag_of (Ans.to (by kbt_split) (by simp))) (fun N k hb H2 e2 => ?_) (fun hb H2 e2 => ⟨r, rfl, h1, h2.trans e2, by rw [b4, if_neg (by simpa using hb)]; exact e2 _ _ h3⟩) ?_
    · have hb : f = 5 ∨ f = 6 := by simpa using hb
      refine s_setLG (e2 _ _ h3) (g_ixLst (i := f - 5) (by kxs_still) (by show 2 ≤ 1000; decide) (fun H' e => by kbo_bools) (at2 (by omega))) (fun _ _ => by kbo_bools) (fun _ _ => v_c) (n := 2) rfl fun H3 e3 => k _ _ ⟨r, rfl, h1, same_mut ((h2.trans e2).trans e3) h1, ?_⟩
      rw [upd_same, b4, if_pos hb]
      rfl
    rintro σ1 H1 ⟨r, rfl, h1, h2, h3⟩
    generalize hy4 : b4 y3 f far = y4 at h3 ⊢
    refine q_ifM (RowAt H (fun r => [some (.ref a), some (.int f), some (.int far), some (.int n), r]) (b5 y4 f far)) (b := decide (f = 7 ∨ f = 8)) (ag_of (Ans.to (by kbt_split) (by simp))) (fun N k hb H2 e2 => ?_) (fun hb H2 e2 => ⟨r, rfl, h1, h2.trans e2, by rw [b5, if_neg (by simpa using hb)]; exact e2 _ _ h3⟩) ?_
    · have hb : f = 7 ∨ f = 8 := by simpa using hb
      refine s_setLG (e2 _ _ h3) (g_ixLst (i := f - 7) (by kxs_still) (by show 2 ≤ 1000; decide) (fun H' e => by kbo_bools) (at2 (by omega))) (fun _ _ => by kbo_bools) (fun _ _ => v_c) (n := 3) rfl fun H3 e3 => k _ _ ⟨r, rfl, h1, same_mut ((h2.trans e2).trans e3) h1, ?_⟩
      rw [upd_same, b5, if_pos hb]
      rfl
    rintro σ1 H1 ⟨r, rfl, h1, h2, h3⟩
    generalize hy5 : b5 y4 f far = y5 at h3 ⊢
    refine q_ifM (RowAt H (fun r => [some (.ref a), some (.int f), some (.int far), some (.int n), r]) (b6 y5 f far)) (b := decide (f = 9)) (ag_of (Ans.to (by kbt_split) (by simp))) (fun N k hb H2 e2 => ?_) (fun hb H2 e2 => ⟨r, rfl, h1, h2.trans e2, by rw [b6, if_neg (by simpa using hb)]; exact e2 _ _ h3⟩) ?_
    · have hb : f = 9 := by simpa using hb
      refine s_setLG (v := .int (-1 - far)) (e2 _ _ h3) (g_of (by kbo_bools)) (fun _ _ => by kbo_bools) (fun _ _ => v_c) (n := 0) rfl fun H3 e3 => k _ _ ⟨r, rfl, h1, same_mut ((h2.trans e2).trans e3) h1, ?_⟩
      rw [upd_same, b6, if_pos hb]
      rfl
    rintro σ1 H1 ⟨r, rfl, h1, h2, h3⟩
    refine ⟨_, rfl, r, _, rfl, .inl ⟨SqL.of h3, fun l hl => q l _ (h2.free hl) (h2.trans (same_upd hl)) ?_⟩⟩
    have : badZ x f far n = b6 y5 f far := by rw [← hy5, ← hy4, ← hy3, ← hy2]; rfl
    rw [this]
    exact upd_same
end
/-! ### people and ways told -/
def ToldAt (H : Hp) (d pl wl : Addr) (as : List Addr) (ps : List Int) (ws : List Way) : Prop := H d = some (.lst [.ref pl, .ref wl]) ∧ H pl = some (.lst (ps.map V.int)) ∧ H wl = some (.lst (as.map V.ref)) ∧ WaysAt H as ws
theorem ToldAt.same {H H' : Hp} {d pl wl : Addr} {as : List Addr} {ps : List Int} {ws : List Way} (h : ToldAt H d pl wl as ps ws) (e : Same H H') : ToldAt H' d pl wl as ps ws := ⟨e _ _ h.1, e _ _ h.2.1, e _ _ h.2.2.1, h.2.2.2.same e⟩
def RetTold (ps : List Int) (ws : List Way) (H : Hp) (Q : VK) : Prop := ∀ d pl wl as H', H d = none → Same H H' → ToldAt H' d pl wl as ps ws → Q (.ref d) H'
theorem WaysAt.updL {H : Hp} {as : List Addr} {ws : List Way} {l : Addr} {xs : List V} {o : HO} (h : WaysAt H as ws) (hl : H l = some (.lst xs)) : WaysAt (upd H l o) as ws := All2.imp h fun a w q => by
  have q : H a = some (.tup (wayV w)) := q
  show (upd H l o) a = _
  rw [upd_ne (ne_of q hl (by intro z; cases z))]
  exact q
def ToldV (H : Hp) (ps : List Int) (ws : List Way) : V → Hp → Prop := fun v H' => ∃ d pl wl as, v = .ref d ∧ H d = none ∧ Same H H' ∧ ToldAt H' d pl wl as ps ws
def WaysV (H : Hp) (ws : List Way) : V → Hp → Prop := fun v H' => ∃ D as, v = .ref D ∧ H D = none ∧ Same H H' ∧ H' D = some (.lst (as.map V.ref)) ∧ WaysAt H' as ws
def AVW (t : TA) (σ : St) (H : Hp) (ws : List Way) : Prop := ∀ Q : List V → Hp → Prop, (∀ as H', Same H H' → WaysAt H' as ws → Q (as.map V.ref) H') → t σ H Q
section
variable {σ : St} {H : Hp} {ta tb : TE} {tr : TA}
theorem avw_nil : AVW tNil σ H [] := fun Q q => q [] H (Same.refl H) .nil
theorem avw_cons {w : Way} {ws : List Way} (ha : ValH ta σ H (NewT H (wayV w))) (hr : ∀ H', Same H H' → AVW tr σ H' ws) : AVW (tCons ta tr) σ H (w :: ws) := fun Q q => ha _ fun v H1 z => by
  obtain ⟨p, rfl, hp, rfl⟩ := z
  exact hr _ (same_upd hp) _ fun as H2 e2 hw => q (p :: as) H2 ((same_upd hp).trans e2) (.cons (e2 _ _ upd_same) hw)
theorem h_ways {ws : List Way} (h : AVW tr σ H ws) (hz : ws.length ≤ 1000) : ValH (tLst tr) σ H (WaysV H ws) := fun Q q => h _ fun as H1 e1 hw => by
  have := hw.len
  exact ⟨sz_ok (by simp; omega), fun p hp => q _ _ ⟨p, as, rfl, e1.free hp, e1.trans (same_upd hp), upd_same, hw.same (same_upd hp)⟩⟩
theorem h_waysRep {w : Way} {n : Nat} (ha : ValH ta σ H (WaysV H [w])) (hb : ∀ H', Val tb σ H' (.int n)) (hn : n ≤ 1000) : ValH (tOp rRep ta tb) σ H (WaysV H (List.replicate n w)) := fun Q q => ha _ fun v H1 z => by
  obtain ⟨D, as, rfl, hD, e1, h1, hw⟩ := z
  cases hw with
  | cons hw ht =>
    rename_i a as
    cases ht
    refine hb H1 _ ⟨D, n, [.ref a], rfl, rfl, h1, by omega, by omega, sz_ok (by simp; omega), fun p hp => q _ _ ⟨p, List.replicate n a, rfl, e1.free hp, e1.trans (same_upd hp), ?_, ?_⟩⟩
    · rw [upd_same]
      simp
    · refine All2.of_get (by simp) fun i x y hx hy => ?_
      rw [List.getElem?_replicate] at hx hy
      split at hx
      · rename_i hi
        rw [if_pos hi] at hy
        cases hx
        cases hy
        exact same_upd hp _ _ hw
      · cases hx
theorem h_told {ps : List Int} {ws : List Way} (ha : ValH ta σ H (NewL H (ps.map V.int))) (hb : ∀ H', Same H H' → ValH tb σ H' (WaysV H' ws)) : ValH (tLst (tCons ta (tCons tb tNil))) σ H (ToldV H ps ws) := fun Q q => ha _ fun v H1 z => by
  obtain ⟨p, rfl, hp, rfl⟩ := z
  have e1 := same_upd (o := .lst (ps.map V.int)) hp
  refine hb _ e1 _ fun v H2 z => ?_
  obtain ⟨D, as, rfl, hD, e2, h2, hw⟩ := z
  exact ⟨by show 2 ≤ sizeLine; decide, fun d hd => q _ _ ⟨d, p, D, as, rfl, e1.free (e2.free hd), (e1.trans e2).trans (same_upd hd), upd_same, same_upd hd _ _ (e2 _ _ upd_same), same_upd hd _ _ h2, hw.same (same_upd hd)⟩⟩
end
def farZ (c : Int) : Int := c / 20 % 9
def w1011 : Way := ⟨1, 0, 1, 1⟩
def ws0 (ws : List Way) : List Way := if ws = [] then [w1011] else ws
def sw1 (ps : List Int) (ws : List Way) (f c : Int) : List Way := if f < 10 then (ws0 ws).set (c % (ws0 ws).length).toNat (badZ ((ws0 ws).getD (c % (ws0 ws).length).toNat default) f (farZ c) ps.length) else ws
def sp2 (ps : List Int) (f c : Int) : List Int := if f = 10 ∨ f = 11 then ps.set (c % ps.length).toNat (if f - 10 = 0 then -1 - farZ c else 10 + farZ c) else ps
def sp3 (ps : List Int) (f : Int) : List Int := if f = 12 then [] else ps
def sw3 (ws : List Way) (f : Int) : List Way := if f = 12 then [] else ws
def sp4 (ps : List Int) (f c : Int) : List Int := if f = 13 then ps ++ List.replicate (5 - (ps.length : Int) + farZ c % 2).toNat 0 else ps
def sw5 (ws : List Way) (f c : Int) : List Way := if f = 14 then ws ++ List.replicate (11 - (ws.length : Int) + farZ c % 2).toNat w1011 else ws
def folkS (ps : List Int) (f c : Int) : List Int := sp4 (sp3 (sp2 ps f c) f) f c
def waysS (ps : List Int) (ws : List Way) (f c : Int) : List Way := sw5 (sw3 (sw1 ps ws f c) f) f c
theorem ws0_pos (ws : List Way) : 0 < (ws0 ws).length := by
  unfold ws0
  split
  · decide
  · rename_i h
    exact List.length_pos_iff.mpr h
/-- the state between the clauses -/
def SpAt (H : Hp) (p : Addr) (f c : Int) (ps : List Int) (ws : List Way) (σ' : St) (H' : Hp) : Prop := ∃ pl wl as m, σ' = [some (.ref p), some (.int f), some (.int c), some (.ref pl), some (.ref wl), some (.int (farZ c)), m, none] ∧ H pl = none ∧ H wl = none ∧ pl ≠ wl ∧ Same H H' ∧ H' pl = some (.lst (ps.map V.int)) ∧ H' wl = some (.lst (as.map V.ref)) ∧ WaysAt H' as ws
theorem SpAt.same {H : Hp} {p : Addr} {f c : Int} {ps : List Int} {ws : List Way} {σ' : St} {H1 H2 : Hp} (h : SpAt H p f c ps ws σ' H1) (e : Same H1 H2) : SpAt H p f c ps ws σ' H2 := by
  obtain ⟨pl, wl, as, m, h0, h1, h2, h3, h4, h5, h6, h7⟩ := h
  exact ⟨pl, wl, as, m, h0, h1, h2, h3, h4.trans e, e _ _ h5, e _ _ h6, h7.same e⟩
theorem h_cat {σ : St} {H : Hp} {ta tb : TE} {l : Addr} {xs zs : List V} (ha : Val ta σ H (.ref l)) (hl : H l = some (.lst xs)) (hb : ValH tb σ H (fun v H' => ∃ b, v = .ref b ∧ H b = none ∧ Same H H' ∧ H' b = some (.lst zs))) (hz : xs.length + zs.length ≤ 100000) :
    ValH (tOp rCat ta tb) σ H (fun v H' => ∃ p, v = .ref p ∧ H p = none ∧ Same H H' ∧ H' p = some (.lst (xs ++ zs))) := fun Q q => ha _ (hb _ fun y H1 p1 => by
  obtain ⟨b, rfl, hb0, e1, hb1⟩ := p1
  exact ⟨l, b, xs, zs, rfl, rfl, e1 _ _ hl, hb1, sz_ok (by omega), fun p hp => q _ _ ⟨p, rfl, e1.free hp, e1.trans (same_upd hp), upd_same⟩⟩)
theorem All2.append {α β : Type} {R : α → β → Prop} : ∀ {as : List α} {bs : List β} {cs : List α} {ds : List β}, All2 R as bs → All2 R cs ds → All2 R (as ++ cs) (bs ++ ds)
  | _, _, _, _, .nil, h => h
  | _, _, _, _, .cons r t, h => .cons r (All2.append t h)
theorem h_catW {σ : St} {H : Hp} {ta tb : TE} {l : Addr} {as : List Addr} {ws2 : List Way} (ha : Val ta σ H (.ref l)) (hl : H l = some (.lst (as.map V.ref))) (hb : ValH tb σ H (fun v H' => ∃ D as2, v = .ref D ∧ H D = none ∧ Same H H' ∧ H' D = some (.lst (as2.map V.ref)) ∧ WaysAt H' as2 ws2)) (hz : as.length + ws2.length ≤ 100000) :
    ValH (tOp rCat ta tb) σ H (fun v H' => ∃ x as2, v = .ref x ∧ H x = none ∧ Same H H' ∧ H' x = some (.lst ((as ++ as2).map V.ref)) ∧ WaysAt H' as2 ws2) := fun Q q => ha _ (hb _ fun y H1 p1 => by
  obtain ⟨b, as2, rfl, hb0, e1, hb1, hw⟩ := p1
  have := hw.len
  exact ⟨l, b, _, _, rfl, rfl, e1 _ _ hl, hb1, sz_ok (by simp; omega), fun p hp => q _ _ ⟨p, as2, rfl, e1.free hp, e1.trans (same_upd hp), by rw [upd_same, List.map_append], hw.same (same_upd hp)⟩⟩)
theorem map_ref_get {as : List Addr} {i : Nat} {a : Addr} (h : as[i]? = some a) : atI (as.map V.ref) (i : Int) = some (.ref a) := atI_nat (by rw [List.getElem?_map, h]; rfl)
def sp_law_spoiled (K : PySem.W.Frag) (C : Cs) : Sp := fun vs H Q _ => ∃ (p pl wl : Addr) (as : List Addr) (ps : List Int) (ws : List Way) (f c : Int), vs = [.ref p, .int f, .int c] ∧ PlotAt H p pl wl as ps ws ∧ 0 ≤ f ∧ 0 ≤ c ∧ (1 ≤ ps.length ∧ ps.length ≤ 4) ∧ ws.length ≤ 10 ∧ RetTold (folkS ps f c) (waysS ps ws f c) H Q
section
variable {P : Program} {w : World} {K : PySem.W.Frag} {mg : Str → Option Value} {base : Heap} {C : Cs}
abbrev N_law_spoiled : List PySem.Str := ["plot", "fault", "cell", "people", "ways", "far", "at", "k"]
theorem sc_law_spoiled : FnScope N_law_spoiled ["plot", "fault", "cell"] (defScope s_law_spoiled) := ⟨rfl, rfl, rfl, by decide +kernel, rfl, by decide +kernel, by decide +kernel⟩
theorem c_law_spoiled {f fd} (D : FnP K "_law_spoiled" "_law_spoiled" s_law_spoiled f fd) (hm : mg "_law_spoiled" = some (.ref f)) (G : Bn mg) (c_law_bad_way : Cal P w K mg base CX0 1 "_law_bad_way" (sp_law_bad_way K C)) : Cal P w K mg base CX0 2 "_law_spoiled" (sp_law_spoiled K C) := by
  refine cal_of D hm (D.ok sc_law_spoiled (fun vs H Q E h => ?_) (fun cdv A outer s H vs Q E hr h => ?_)) (fun _ _ _ _ _ _ us hl => match us, hl with | [_, _, _], _ => rfl)
  · obtain ⟨p, pl0, wl0, as0, ps, ws, f, c, rfl, ⟨hp, hpl, hwl, hW⟩, hf, hc, hz1, hz2, q⟩ := h
    rfl
  · obtain ⟨p, pl0, wl0, as0, ps, ws, f, c, rfl, ⟨hp, hpl, hwl, hW⟩, hf, hc, hz1, hz2, q⟩ := h
    have hu := hu_of hr
    refine ⟨_, PSs.nox (pss_cons (ps_set (i := 3) sc_law_spoiled.nd rfl (Or.inl rfl) (pe_callTy (T := "list") (call_list_ofK (K := K) rfl) (by rfl) G.list_ (by decide +kernel) (pa_cons (pe_ix (ix_tupK (K := K) rfl) (pv 0) pe_int (fun _ _ => rfl)) pa_nil)))
        (pss_cons (ps_set (i := 4) sc_law_spoiled.nd rfl (Or.inl rfl) (pe_callTy (T := "list") (call_list_ofK (K := K) rfl) (by rfl) G.list_ (by decide +kernel) (pa_cons (pe_ix (ix_tupK (K := K) rfl) (pv 0) pe_int (fun _ _ => rfl)) pa_nil)))
        (pss_cons (ps_set (i := 5) sc_law_spoiled.nd rfl (Or.inl rfl) (pe_op op_mod (pe_op op_fdiv (pv 2) pe_int) pe_int))
        (pss_cons (ps_if (pt_cmpR op_lt (pv 1) pe_int (nomark _))
          (pss_cons (ps_if (pt_cmpR (op_eqDK (K := K) rfl hr.units) (pv 4) (pe_lst pa_nil) (nomark _))
              (pss_one (ps_set (i := 4) sc_law_spoiled.nd rfl (Or.inl rfl) (pe_lst (pa_cons (pe_tup (pa_cons pe_int (pa_cons pe_int (pa_cons pe_int (pa_cons pe_int pa_nil))))) pa_nil))))
              pss_nil)
            (pss_cons (ps_set (i := 6) sc_law_spoiled.nd rfl (Or.inl rfl) (pe_op op_mod (pv 2) (pe_callB (id := "len") (call_len_seqK (K := K) rfl) (by rfl) G.len_ (by decide +kernel) (pa_cons (pv 4) pa_nil))))
            (pss_one (ps_asg (pe_c c_law_bad_way hr (by decide) pass0 rfl (pa_cons (pe_ix (ix_listK (K := K) rfl) (pv 4) (pv 6) (fun _ _ => rfl)) (pa_cons (pv 1) (pa_cons (pv 5) (pa_cons (pe_callB (id := "len") (call_len_seqK (K := K) rfl) (by rfl) G.len_ (by decide +kernel) (pa_cons (pv 3) pa_nil)) pa_nil))))) (pg_sub (pv 4) (pv 6) set_list)))))
          pss_nil)
        (pss_cons (ps_if (PW.pt (pw_or (pt_cmpR op_eq (pv 1) pe_int (nomark _)) (pw_or1 (pt_cmpR op_eq (pv 1) pe_int (nomark _)))))
          (pss_one (ps_asg (pe_ix (ix_listK (K := K) rfl) (pe_lst (pa_cons (pe_op op_sub (pe_un un_neg pe_int) (pv 5)) (pa_cons (pe_op op_add pe_int (pv 5)) pa_nil))) (pe_op op_sub (pv 1) pe_int) (fun _ _ => rfl)) (pg_sub (pv 3) (pe_op op_mod (pv 2) (pe_callB (id := "len") (call_len_seqK (K := K) rfl) (by rfl) G.len_ (by decide +kernel) (pa_cons (pv 3) pa_nil))) set_list)))
          pss_nil)
        (pss_cons (ps_if (pt_cmpR op_eq (pv 1) pe_int (nomark _))
          (pss_cons (ps_set (i := 3) sc_law_spoiled.nd rfl (Or.inl rfl) (pe_lst pa_nil))
            (pss_one (ps_set (i := 4) sc_law_spoiled.nd rfl (Or.inl rfl) (pe_lst pa_nil))))
          pss_nil)
        (pss_cons (ps_if (pt_cmpR op_eq (pv 1) pe_int (nomark _))
          (pss_one (ps_set (i := 3) sc_law_spoiled.nd rfl (Or.inl rfl) (pe_op op_cat (pv 3) (pe_lc (own := [("k", 7)]) (g := gName 7) rfl sc_law_spoiled.nd (pi_range1 rfl G.range_ (pa_cons (pe_op op_add (pe_op op_sub pe_int (pe_callB (id := "len") (call_len_seqK (K := K) rfl) (by rfl) G.len_ (by decide +kernel) (pa_cons (pv 3) pa_nil))) (pe_op op_mod (pv 5) pe_int)) pa_nil)) (blkOk_by (own := [("k", 7)]) (N := N_law_spoiled) (sc := defScope s_law_spoiled) (by decide +kernel)) (fun _ _ _ _ _ => pg_name (i := 7) sc_law_spoiled.nd rfl (Or.inl rfl)) (fun _ _ _ _ _ => pts_nil) (fun _ _ _ _ _ => pe_int)))))
          pss_nil)
        (pss_cons (ps_if (pt_cmpR op_eq (pv 1) pe_int (nomark _))
          (pss_one (ps_set (i := 4) sc_law_spoiled.nd rfl (Or.inl rfl) (pe_op op_cat (pv 4) (pe_lc (own := [("k", 7)]) (g := gName 7) rfl sc_law_spoiled.nd (pi_range1 rfl G.range_ (pa_cons (pe_op op_add (pe_op op_sub pe_int (pe_callB (id := "len") (call_len_seqK (K := K) rfl) (by rfl) G.len_ (by decide +kernel) (pa_cons (pv 4) pa_nil))) (pe_op op_mod (pv 5) pe_int)) pa_nil)) (blkOk_by (own := [("k", 7)]) (N := N_law_spoiled) (sc := defScope s_law_spoiled) (by decide +kernel)) (fun _ _ _ _ _ => pg_name (i := 7) sc_law_spoiled.nd rfl (Or.inl rfl)) (fun _ _ _ _ _ => pts_nil) (fun _ _ _ _ _ => (pe_tup (pa_cons pe_int (pa_cons pe_int (pa_cons pe_int (pa_cons pe_int pa_nil))))))))))
          pss_nil)
        (pss_one (ps_ret (pe_lst (pa_cons (pv 3) (pa_cons (pv 4) pa_nil))))))))))))), ?_⟩
    refine q_setH (h_list (v_ixT (by kbo_bools) (by kbo_bools) hp rfl) (SqL.of hpl)) ?_
    rintro v H1 ⟨pl, rfl, n1, rfl⟩
    have e1 := same_upd (o := .lst (ps.map V.int)) n1
    refine q_setH (h_list (v_ixT (by kbo_bools) (by kbo_bools) (e1 _ _ hp) rfl) (SqL.of (e1 _ _ hwl))) ?_
    rintro v H1 ⟨wl, rfl, n2, rfl⟩
    have e2 := same_upd (o := .lst (as0.map V.ref)) n2
    refine q_set (v := .int (c / 20 % 9)) (by kbo_bools) ?_
    have s0 : SpAt H p f c ps ws [some (.ref p), some (.int f), some (.int c), some (.ref pl), some (.ref wl), some (.int (farZ c)), none, none] (upd (upd H pl (.lst (ps.map V.int))) wl (.lst (as0.map V.ref))) :=
      ⟨pl, wl, as0, none, rfl, n1, e1.free n2, ne_none upd_same n2, e1.trans e2, e2 _ _ upd_same, upd_same, hW.same (e1.trans e2)⟩
    revert s0
    generalize (upd (upd H pl (.lst (ps.map V.int))) wl (.lst (as0.map V.ref))) = H1
    intro s0
    have y1 : (sw1 ps ws f c).length ≤ 10 := by
      unfold sw1 ws0
      split
      · rw [List.length_set]
        split
        · decide
        · exact hz2
      · exact hz2
    unfold folkS waysS at q
    -- a way
    refine q_ifM (SpAt H p f c ps (sw1 ps ws f c)) (b := decide (f < 10)) (ag_of (by kbt_split)) (fun N k hb H2 e2 => ?_) (fun hb H2 e2 => ?_) ?_
    · have hb : f < 10 := by simpa using hb
      have s1 := s0.same e2
      obtain ⟨pl, wl, as, m, eσ, g1, g2, g3, g4, g5, g6, g7⟩ := s1
      cases eσ
      refine q_ifM (SpAt H p f c ps (ws0 ws)) (b := PyData.eqv (waysD ws) (.list [])) (ag_test (g_eqD (g_of (v := .ref wl) (by kbo_bools)) (fun H' e => ValH.imp h_nil fun y H2 z => ⟨z.1, dp_ways (z.1 _ _ (e _ _ g6)) ((g7.same e).same z.1), z.2⟩) (shaped_ways _) shaped_nil)) (fun N2 k2 hb2 H3 e3 => ?_) (fun hb2 H3 e3 => ?_) ?_
      · rw [eqv_ways_nil] at hb2
        have hb2 : ws = [] := by simpa using hb2
        refine s_setH (P := WaysV H3 [w1011]) (h_ways (avw_cons (h_tup (by show AV _ _ _ [.int 1, .int 0, .int 1, .int 1]; kxs_still) (by decide)) fun _ _ => avw_nil) (by show 1 ≤ 1000; decide)) fun v H' z => ?_
        obtain ⟨r, as3, rfl, hr, e4, h5, h6⟩ := z
        refine k2 _ _ ⟨pl, r, as3, _, rfl, g1, g4.free (e3.free hr), ne_none (e3 _ _ g5) hr, (g4.trans e3).trans e4, e4 _ _ (e3 _ _ g5), h5, ?_⟩
        rw [ws0, if_pos hb2]
        exact h6
      · rw [eqv_ways_nil] at hb2
        have hb2 : ¬ ws = [] := by simpa using hb2
        rw [ws0, if_neg hb2]
        exact SpAt.same ⟨pl, wl, as, _, rfl, g1, g2, g3, g4, g5, g6, g7⟩ e3
      · rintro σ3 H3 ⟨pl, wl, as, m, rfl, g1, g2, g3, g4, g5, g6, g7⟩
        have hlen := g7.len
        have hpos := ws0_pos ws
        have ei : (c % (((as.map V.ref).length : Nat) : Int)) = (((c % ((ws0 ws).length : Int)).toNat : Nat) : Int) := by
          rw [List.length_map, hlen]
          have := Int.emod_nonneg c (b := ((ws0 ws).length : Int)) (by omega)
          omega
        have hlt : (c % ((ws0 ws).length : Int)).toNat < (ws0 ws).length := by
          have := Int.emod_nonneg c (b := ((ws0 ws).length : Int)) (by omega)
          have := Int.emod_lt_of_pos c (b := ((ws0 ws).length : Int)) (by omega)
          omega
        refine q_set (v := .int (c % (((as.map V.ref).length : Nat) : Int))) (v_I (by kbo_bools) (by kbo_bools) (by show (0 : Int) < _; simp; omega)) ?_
        rw [ei]
        generalize hi : (c % ((ws0 ws).length : Int)).toNat = i at hlt ⊢
        obtain ⟨a, ha1, ha2⟩ := All2.get (i := i) g7 (List.getElem?_eq_getElem hlt)
        have hal : i < as.length := by omega
        refine s_setLH (l := wl) (n := i) g6 (P := fun v H' => ∃ r, v = .ref r ∧ H3 r = none ∧ Same H3 H' ∧ WayAt H' r (badZ (ws0 ws)[i] f (farZ c) ps.length)) (h_call (vs := [.ref a, .int f, .int (farZ c), .int (ps.map V.int).length]) (av_cons (v_ixL (i := (i : Int)) (by kbo_bools) (by kbo_bools) (SqL.of g6) (map_ref_get ha1)) (by kxs_still)) fun Q q => ⟨a, _, f, farZ c, ps.length, by simp, ha2, ⟨hf, hb⟩, fun r H' h1 h2 h3 => q _ _ ⟨r, rfl, h1, h2, h3⟩⟩) (fun v H' z => by obtain ⟨_, _, _, z, _⟩ := z; exact z) (fun _ _ => by kbo_bools) (fun _ _ => by kbo_bools) (by rw [ix_nn (by omega) (by simp; omega)]; simp) (fun v H' z => ?_)
        obtain ⟨r, rfl, hr, e5, h5⟩ := z
        refine k _ _ ⟨pl, wl, as.set i r, _, rfl, g1, g2, g3, same_mut (g4.trans e5) g2, ?_, ?_, ?_⟩
        · rw [upd_ne g3]
          exact e5 _ _ g5
        · rw [upd_same, List.map_set]
        · rw [sw1, if_pos hb, hi]
          have : (ws0 ws).getD i default = (ws0 ws)[i] := by simp [List.getD_eq_getElem?_getD, List.getElem?_eq_getElem hlt]
          rw [this]
          refine All2.set ?_ i ((g7.same e5).updL (e5 _ _ g6))
          show (upd H' wl _) r = _
          rw [upd_ne (ne_of h5 (e5 _ _ g6) (by intro z; cases z))]
          exact h5
    · have hb : ¬ f < 10 := by simpa using hb
      rw [sw1, if_neg hb]
      exact s0.same e2
    generalize sw1 ps ws f c = w1 at *
    rintro σ1 H1 ⟨pl, wl, as, m, rfl, g1, g2, g3, g4, g5, g6, g7⟩
    -- people
    refine q_ifM (SpAt H p f c (sp2 ps f c) w1) (b := decide (f = 10 ∨ f = 11)) (ag_of (Ans.to (by kbt_split) (by simp))) (fun N k hb H2 e2 => ?_) (fun hb H2 e2 => ?_) ?_
    · have hb : f = 10 ∨ f = 11 := by simpa using hb
      have g5' := e2 _ _ g5
      have hpos : (0 : Int) < (((ps.map V.int).length : Nat) : Int) := by rw [List.length_map]; omega
      refine s_setLG g5' (g_ixLst (i := f - 10) (by kxs_still) (by show 2 ≤ 1000; decide) (fun H' e => by kbo_bools) (at2 (by omega))) (fun _ _ => by kbo_bools) (i := c % (((ps.map V.int).length : Nat) : Int)) (fun H' e => ?_) (n := (c % ps.length).toNat) ?_ fun H3 e3 => k _ _ ⟨pl, wl, as, _, rfl, g1, g2, g3, same_mut ((g4.trans e2).trans e3) g1, ?_, ?_, ?_⟩
      · have := e _ _ g5'
        exact v_I (by kbo_bools) (by kbo_bools) hpos
      · rw [ix_nn (Int.emod_nonneg _ (by omega)) (Int.emod_lt_of_pos _ hpos), List.length_map]
      · rw [upd_same, sp2, if_pos hb, List.map_set]
      · rw [upd_ne g3.symm]
        exact e3 _ _ (e2 _ _ g6)
      · exact ((g7.same e2).same e3).updL (e3 _ _ g5')
    · have hb : ¬ (f = 10 ∨ f = 11) := by simpa using hb
      rw [sp2, if_neg hb]
      exact SpAt.same ⟨pl, wl, as, _, rfl, g1, g2, g3, g4, g5, g6, g7⟩ e2
    have z2 : (sp2 ps f c).length = ps.length := by unfold sp2; split <;> simp
    have zf : 0 ≤ farZ c ∧ farZ c ≤ 8 := by unfold farZ; omega
    generalize sp2 ps f c = p2 at *
    rintro σ1 H1 ⟨pl, wl, as, m, rfl, g1, g2, g3, g4, g5, g6, g7⟩
    -- none
    refine q_ifM (SpAt H p f c (sp3 p2 f) (sw3 w1 f)) (b := decide (f = 12)) (ag_of (Ans.to (by kbt_split) (by simp))) (fun N k hb H2 e2 => ?_) (fun hb H2 e2 => ?_) ?_
    · have hb : f = 12 := by simpa using hb
      refine q_setH (h_lst (xs := []) (by kxs_still) (by show 0 ≤ sizeLine; decide)) ?_
      rintro v H3 ⟨x, rfl, hx, rfl⟩
      refine s_setH (h_lst (xs := []) (by kxs_still) (by show 0 ≤ sizeLine; decide)) ?_
      rintro v H3 ⟨y, rfl, hy, rfl⟩
      refine k _ _ ⟨x, y, [], _, rfl, (g4.trans e2).free hx, (g4.trans e2).free ((same_upd hx).free hy), ne_none upd_same hy, ((g4.trans e2).trans (same_upd hx)).trans (same_upd hy), ?_, ?_, ?_⟩
      · rw [sp3, if_pos hb]
        exact same_upd hy _ _ upd_same
      · exact upd_same
      · rw [sw3, if_pos hb]
        exact .nil
    · have hb : ¬ f = 12 := by simpa using hb
      rw [sp3, if_neg hb, sw3, if_neg hb]
      exact SpAt.same ⟨pl, wl, as, _, rfl, g1, g2, g3, g4, g5, g6, g7⟩ e2
    have z3 : (sp3 p2 f).length ≤ 4 := by unfold sp3; split <;> (try simp) <;> omega
    have y3 : (sw3 w1 f).length ≤ 10 := by unfold sw3; split <;> (try simp) <;> omega
    generalize sp3 p2 f = p3 at *
    generalize sw3 w1 f = w3 at *
    rintro σ1 H1 ⟨pl, wl, as, m, rfl, g1, g2, g3, g4, g5, g6, g7⟩
    -- more rooms
    refine q_ifM (SpAt H p f c (sp4 p3 f c) w3) (b := decide (f = 13)) (ag_of (Ans.to (by kbt_split) (by simp))) (fun N k hb H2 e2 => ?_) (fun hb H2 e2 => ?_) ?_
    · have hb : f = 13 := by simpa using hb
      have g5' := e2 _ _ g5
      refine s_setH (h_cat (zs := (List.replicate (5 - (p3.length : Int) + farZ c % 2).toNat (0 : Int)).map V.int) (by kbo_bools) g5' (ValH.imp (h_lcR (n := 5 - (((p3.map V.int).length : Nat) : Int) + farZ c % 2) (by kxs_still) (by rw [List.length_map]; omega) (fun _ => rfl) (fun i x _ => x = .int 0) (fun _ => noList_c) fun i H' hi e => ValH.imp (Val.h' v_c) ?_) ?_) ?_) ?_
      · rintro v H2 ⟨rfl, rfl⟩
        exact ⟨Same.refl _, rfl⟩
      · rintro v H3 hv
        obtain ⟨D, rfl, h1, h2, h3⟩ := made_eq (f := fun _ => V.int 0) hv
        refine ⟨D, rfl, h1, h2, ?_⟩
        rw [h3]
        simp [List.map_const']
      · simp
        omega
      · rintro v H3 ⟨x, rfl, hx, e3, h3⟩
        refine k _ _ ⟨x, wl, as, _, rfl, (g4.trans e2).free hx, g2, (ne_none (e2 _ _ g6) hx).symm, (g4.trans e2).trans e3, ?_, e3 _ _ (e2 _ _ g6), (g7.same e2).same e3⟩
        rw [h3, sp4, if_pos hb, List.map_append]
    · have hb : ¬ f = 13 := by simpa using hb
      rw [sp4, if_neg hb]
      exact SpAt.same ⟨pl, wl, as, _, rfl, g1, g2, g3, g4, g5, g6, g7⟩ e2
    generalize sp4 p3 f c = p4 at *
    rintro σ1 H1 ⟨pl, wl, as, m, rfl, g1, g2, g3, g4, g5, g6, g7⟩
    -- more ways
    refine q_ifM (SpAt H p f c p4 (sw5 w3 f c)) (b := decide (f = 14)) (ag_of (Ans.to (by kbt_split) (by simp))) (fun N k hb H2 e2 => ?_) (fun hb H2 e2 => ?_) ?_
    · have hb : f = 14 := by simpa using hb
      have g6' := e2 _ _ g6
      have hlen := g7.len
      refine s_setH (h_catW (by kbo_bools) g6' (ValH.imp (h_lcR (n := 11 - (((as.map V.ref).length : Nat) : Int) + farZ c % 2) (by kxs_still) (by rw [List.length_map]; omega) (fun _ => rfl) (fun i x H2 => ∃ p, x = .ref p ∧ WayAt H2 p w1011) (fun _ => noList_tup (P := fun _ => True)) fun i H' hi e => ValH.imp (h_tup (xs := wayV w1011) (by show AV _ _ _ [.int 1, .int 0, .int 1, .int 1]; kxs_still) (by decide)) ?_) fun v H3 hv => made_ways (f := fun _ => w1011) hv) (by simp; omega)) ?_
      · rintro v H2 ⟨r, rfl, hr, rfl⟩
        exact ⟨same_upd hr, r, rfl, upd_same⟩
      · rintro v H3 ⟨x, as2, rfl, hx, e3, h3, hw2⟩
        refine k _ _ ⟨pl, x, as ++ as2, _, rfl, g1, (g4.trans e2).free hx, ne_none (e2 _ _ g5) hx, (g4.trans e2).trans e3, e3 _ _ (e2 _ _ g5), h3, ?_⟩
        rw [sw5, if_pos hb]
        refine All2.append ((g7.same e2).same e3) ?_
        rw [List.map_const', List.length_range, List.length_map, hlen] at hw2
        exact hw2
    · have hb : ¬ f = 14 := by simpa using hb
      rw [sw5, if_neg hb]
      exact SpAt.same ⟨pl, wl, as, _, rfl, g1, g2, g3, g4, g5, g6, g7⟩ e2
    rintro σ1 H1 ⟨pl, wl, as, m, rfl, g1, g2, g3, g4, g5, g6, g7⟩
    refine s_retH (h_lst (xs := [.ref pl, .ref wl]) (by kxs_still) (by show 2 ≤ sizeLine; decide)) ?_
    rintro v H' ⟨d, rfl, hd, rfl⟩
    have e5 := same_upd (o := .lst [.ref pl, .ref wl]) hd
    exact q d pl wl as _ (g4.free hd) (g4.trans e5) ⟨upd_same, e5 _ _ g5, e5 _ _ g6, g7.same e5⟩
end
theorem houseOk_of {ps : List Int} {ws : List Way} : houseOk ps ws = true ↔ (1 ≤ ps.length ∧ ps.length ≤ 4 ∧ ws.length ≤ 10) ∧ (∀ x ∈ ps, countOk x = true) ∧ ∀ x ∈ ws, wayOk ps.length x = true := by
  simp only [houseOk, Bool.and_eq_true, decide_eq_true_eq, List.all_eq_true]
  exact ⟨fun h => ⟨h.1.1, h.1.2, h.2⟩, fun h => ⟨⟨h.1, h.2.1⟩, h.2.2⟩⟩
theorem spoiled_no {ps : List Int} {ws : List Way} {f c : Int} (hf : 0 ≤ f ∧ f < 15) (hc : 0 ≤ c) (h : houseOk ps ws = true) : houseOk (folkS ps f c) (waysS ps ws f c) = false := by
  obtain ⟨⟨h1, h2, h3⟩, h4, h5⟩ := houseOk_of.mp h
  have zf : 0 ≤ farZ c ∧ farZ c ≤ 8 := by unfold farZ; omega
  rw [← Bool.not_eq_true]
  intro ho
  obtain ⟨⟨o1, o2, o3⟩, o4, o5⟩ := houseOk_of.mp ho
  by_cases c1 : f < 10
  · have ef : folkS ps f c = ps := by
      unfold folkS sp4 sp3 sp2
      rw [if_neg (by omega), if_neg (by omega), if_neg (by omega)]
    have ew : waysS ps ws f c = sw1 ps ws f c := by
      unfold waysS sw5 sw3
      rw [if_neg (by omega), if_neg (by omega)]
    rw [ef, ew] at o5
    have hpos := ws0_pos ws
    have a1 := Int.emod_nonneg c (b := ((ws0 ws).length : Int)) (by omega)
    have a2 := Int.emod_lt_of_pos c (b := ((ws0 ws).length : Int)) (by omega)
    have hlt : (c % ((ws0 ws).length : Int)).toNat < (ws0 ws).length := by omega
    unfold sw1 at o5
    rw [if_pos c1] at o5
    generalize (c % ((ws0 ws).length : Int)).toNat = i at hlt o5
    have hm : badZ ((ws0 ws).getD i default) f (farZ c) ps.length ∈ (ws0 ws).set i (badZ ((ws0 ws).getD i default) f (farZ c) ps.length) := List.mem_set hlt _
    have e := o5 _ hm
    have hg : (ws0 ws).getD i default = (ws0 ws)[i] := by simp [List.getD_eq_getElem?_getD, List.getElem?_eq_getElem hlt]
    rw [hg] at e
    have hok : wayOk ps.length (ws0 ws)[i] = true := by
      have hmem : (ws0 ws)[i] ∈ ws0 ws := List.getElem_mem hlt
      generalize (ws0 ws)[i] = y at hmem
      unfold ws0 at hmem
      split at hmem
      · rw [List.mem_singleton] at hmem
        subst hmem
        simp [wayOk, w1011]
        omega
      · exact h5 _ hmem
    rw [badZ_no ⟨hf.1, c1⟩ zf.1 (by omega) hok] at e
    cases e
  by_cases c2 : f = 10 ∨ f = 11
  · have ef : folkS ps f c = sp2 ps f c := by
      unfold folkS sp4 sp3
      rw [if_neg (by omega), if_neg (by omega)]
    rw [ef, sp2, if_pos c2] at o4
    have a1 := Int.emod_nonneg c (b := (ps.length : Int)) (by omega)
    have a2 := Int.emod_lt_of_pos c (b := (ps.length : Int)) (by omega)
    have := o4 _ (List.mem_set (l := ps) (i := (c % (ps.length : Int)).toNat) (by omega) _)
    simp only [countOk, decide_eq_true_eq] at this
    split at this <;> omega
  by_cases c3 : f = 12
  · subst c3
    simp [folkS, sp4, sp3] at o1
  by_cases c4 : f = 13
  · subst c4
    simp [folkS, sp4, sp3, sp2] at o2
    omega
  · have c5 : f = 14 := by omega
    subst c5
    simp [waysS, sw5, sw3, sw1] at o3
    omega
theorem spoiled_same {ps : List Int} {ws : List Way} {f c : Int} (hf : 15 ≤ f) : folkS ps f c = ps ∧ waysS ps ws f c = ws := by
  unfold folkS waysS sp4 sp3 sp2 sw5 sw3 sw1
  rw [if_neg (by omega), if_neg (by omega), if_neg (by omega), if_neg (by omega), if_neg (by omega), if_neg (by omega)]
  exact ⟨rfl, rfl⟩
/-! ### bounds just reached -/
def rP : Nat → List Int
  | 0 => [9, 0, 9, 0]
  | 1 => [0]
  | 2 => [1]
  | _ => [0, 9]
def rW : Nat → List Way
  | 0 => List.replicate 10 ⟨4, 1, 9, 6⟩
  | 1 => []
  | 2 => [w1011]
  | _ => [⟨2, 1, 9, 1⟩, ⟨1, 2, 1, 6⟩]
theorem r_ok : ∀ i, houseOk (rP i) (rW i) = true
  | 0 => by decide
  | 1 => by decide
  | 2 => by decide
  | n + 3 => by show houseOk [0, 9] [⟨2, 1, 9, 1⟩, ⟨1, 2, 1, 6⟩] = true; decide
def finP (ns : List Int) (f c : Int) : List Int := if 16 < f then rP (f % 4).toNat else folkS (folkZ ns) f c
def finW (ns : List Int) (f c : Int) : List Way := if 16 < f then rW (f % 4).toNat else waysS (folkZ ns) (waysZ ns) f c
theorem fin_ok (ns : List Int) {f c : Int} (hf : 0 ≤ f) (hc : 0 ≤ c) : houseOk (finP ns f c) (finW ns f c) = decide (15 ≤ f) := by
  unfold finP finW
  by_cases h : 16 < f
  · rw [if_pos h, if_pos h, r_ok, decide_eq_true (by omega)]
  · rw [if_neg h, if_neg h]
    by_cases h2 : 15 ≤ f
    · rw [(spoiled_same (ps := folkZ ns) (ws := waysZ ns) (c := c) h2).1, (spoiled_same (ps := folkZ ns) (ws := waysZ ns) (c := c) h2).2, house_ok, decide_eq_true h2]
    · rw [spoiled_no ⟨hf, by omega⟩ hc (house_ok ns), decide_eq_false h2]
def sp_law_reached (K : PySem.W.Frag) (C : Cs) : Sp := fun vs H Q _ => ∃ f : Int, vs = [.int f] ∧ 0 ≤ f ∧ RetTold (rP (f % 4).toNat) (rW (f % 4).toNat) H Q
def sp_law_made (K : PySem.W.Frag) (C : Cs) : Sp := fun vs H Q _ => ∃ (d pl wl : Addr) (as : List Addr) (ps : List Int) (ws : List Way), vs = [.ref d] ∧ ToldAt H d pl wl as ps ws ∧ ps.length ≤ 1000 ∧ ws.length ≤ 1000 ∧
  (houseOk ps ws = true → ∀ h H', Same H H' → HouseAt C H' h as ps ws → Q (.ref h) H') ∧ (houseOk ps ws = false → ∀ a H', Same H H' → H' a = some (ExK (.ref C.BadHouse) a) → Q (.ref a) H')
theorem avh_cons {σ : St} {H : Hp} {ta : TE} {tr : TA} {P : V → Hp → Prop} {Q : List V → Hp → Prop} (h : ValH ta σ H P) (k : ∀ v H', P v H' → tr σ H' fun vs H2 => Q (v :: vs) H2) : tCons ta tr σ H Q := h _ k
theorem q_lst {σ : St} {H : Hp} {tr : TA} {Q : VK} (h : tr σ H fun xs H' => xs.length ≤ sizeLine ∧ ∀ p, H' p = none → Q (.ref p) (upd H' p (.lst xs))) : tLst tr σ H Q := h
theorem s_setMakeS {D : Ends} {σ : St} {H : Hp} {n : Nat} {tr : TA} {vs : List V} {C : Addr} {sp : Sp} {E : St → XK} (ht : AV tr σ H vs)
   (hs : ∀ x dx, H x = none → H dx = none → dx ≠ x → sp (.ref x :: vs) (upd (upd H dx (.own x)) x (.ins C dx [])) (fun v H2 => v = .non ∧ D.nx (σ.set n (some (.ref x))) H2) (E σ)) : tAsg (tMakeS C sp E tr) (gName n) D σ H := ht _ hs
section
variable {P : Program} {w : World} {K : PySem.W.Frag} {mg : Str → Option Value} {base : Heap} {C : Cs}
abbrev N_law_reached : List PySem.Str := ["fault", "some"]
theorem sc_law_reached : FnScope N_law_reached ["fault"] (defScope s_law_reached) := ⟨rfl, rfl, rfl, by decide +kernel, rfl, by decide +kernel, by decide +kernel⟩
theorem c_law_reached {f fd} (D : FnP K "_law_reached" "_law_reached" s_law_reached f fd) (hm : mg "_law_reached" = some (.ref f)) (G : Bn mg) : Cal P w K mg base CX0 1 "_law_reached" (sp_law_reached K C) := by
  refine cal_of D hm (D.ok sc_law_reached (fun vs H Q E h => ?_) (fun cdv A outer s H vs Q E hr h => ?_)) (fun _ _ _ _ _ _ us hl => match us, hl with | [_], _ => rfl)
  · obtain ⟨f, rfl, hf, q⟩ := h
    rfl
  · obtain ⟨f, rfl, hf, q⟩ := h
    have hu := hu_of hr
    refine ⟨_, PSs.nox (pss_cons (ps_set (i := 1) sc_law_reached.nd rfl (Or.inl rfl) (pe_lst (pa_cons (pe_lst (pa_cons (pe_lst (pa_cons pe_int (pa_cons pe_int (pa_cons pe_int (pa_cons pe_int pa_nil))))) (pa_cons (pe_op op_rep (pe_lst (pa_cons (pe_tup (pa_cons pe_int (pa_cons pe_int (pa_cons pe_int (pa_cons pe_int pa_nil))))) pa_nil)) pe_int) pa_nil))) (pa_cons (pe_lst (pa_cons (pe_lst (pa_cons pe_int pa_nil)) (pa_cons (pe_lst pa_nil) pa_nil))) (pa_cons (pe_lst (pa_cons (pe_lst (pa_cons pe_int pa_nil)) (pa_cons (pe_lst (pa_cons (pe_tup (pa_cons pe_int (pa_cons pe_int (pa_cons pe_int (pa_cons pe_int pa_nil))))) pa_nil)) pa_nil))) pa_nil)))))
        (pss_cons (ps_expr (pe_bmK (K := K) rfl PySem.F.plainAttrs_list PySem.F.slot_list_append PySem.F.type_list_append mt_append (pv 1) (pa_cons (pe_lst (pa_cons (pe_lst (pa_cons pe_int (pa_cons pe_int pa_nil))) (pa_cons (pe_lst (pa_cons (pe_tup (pa_cons pe_int (pa_cons pe_int (pa_cons pe_int (pa_cons pe_int pa_nil))))) (pa_cons (pe_tup (pa_cons pe_int (pa_cons pe_int (pa_cons pe_int (pa_cons pe_int pa_nil))))) pa_nil))) pa_nil))) pa_nil)))
        (pss_one (ps_ret (pe_ix (ix_listK (K := K) rfl) (pv 1) (pe_op op_mod (pv 0) pe_int) (fun _ _ => rfl)))))), ?_⟩
    refine q_setH (P := fun v H1 => ∃ S d0 d1 d2 pl0 pl1 pl2 wl0 wl1 wl2 as0 as1 as2, v = .ref S ∧ H S = none ∧ Same H H1 ∧ H1 S = some (.lst [.ref d0, .ref d1, .ref d2]) ∧ H d0 = none ∧ H d1 = none ∧ H d2 = none ∧ ToldAt H1 d0 pl0 wl0 as0 (rP 0) (rW 0) ∧ ToldAt H1 d1 pl1 wl1 as1 (rP 1) (rW 1) ∧ ToldAt H1 d2 pl2 wl2 as2 (rP 2) (rW 2)) ?_ ?_
    · intro Q q
      refine q_lst (avh_cons (h_told (ps := rP 0) (ws := rW 0) (h_lst (by show AV _ _ _ [.int 9, .int 0, .int 9, .int 0]; kxs_still) (by show 4 ≤ sizeLine; decide)) (fun H' e => h_waysRep (w := ⟨4, 1, 9, 6⟩) (n := 10) (h_ways (avw_cons (h_tup (by show AV _ _ _ [.int 4, .int 1, .int 9, .int 6]; kxs_still) (by show 4 ≤ sizeLine; decide)) fun _ _ => avw_nil) (by show 1 ≤ 1000; decide)) (fun _ => v_c) (by decide))) ?_)
      rintro v H1 ⟨d0, pl0, wl0, as0, rfl, n0, e1, t0⟩
      refine avh_cons (h_told (ps := rP 1) (ws := rW 1) (h_lst (by show AV _ _ _ [.int 0]; kxs_still) (by show 1 ≤ sizeLine; decide)) (fun H' e => h_ways avw_nil (by show 0 ≤ 1000; decide))) ?_
      rintro v H2 ⟨d1, pl1, wl1, as1, rfl, n1, e2, t1⟩
      refine avh_cons (h_told (ps := rP 2) (ws := rW 2) (h_lst (by show AV _ _ _ [.int 1]; kxs_still) (by show 1 ≤ sizeLine; decide)) (fun H' e => h_ways (avw_cons (h_tup (by show AV _ _ _ [.int 1, .int 0, .int 1, .int 1]; kxs_still) (by show 4 ≤ sizeLine; decide)) fun _ _ => avw_nil) (by show 1 ≤ 1000; decide))) ?_
      rintro v H3 ⟨d2, pl2, wl2, as2, rfl, n2, e3, t2⟩
      exact ⟨by show 3 ≤ sizeLine; decide, fun S hS => q _ _ ⟨S, d0, d1, d2, pl0, pl1, pl2, wl0, wl1, wl2, as0, as1, as2, rfl, e1.free (e2.free (e3.free hS)), ((e1.trans e2).trans e3).trans (same_upd hS), upd_same, n0, e1.free n1, e1.free (e2.free n2), ((t0.same e2).same e3).same (same_upd hS), (t1.same e3).same (same_upd hS), t2.same (same_upd hS)⟩⟩
    rintro v H1 ⟨S, d0, d1, d2, pl0, pl1, pl2, wl0, wl1, wl2, as0, as1, as2, rfl, hS, e1, h1, n0, n1, n2, t0, t1, t2⟩
    refine q_appH (l := S) h1 (by kbo_bools) (P := ToldV H1 (rP 3) (rW 3)) (h_told (ps := rP 3) (ws := rW 3) (h_lst (by show AV _ _ _ [.int 0, .int 9]; kxs_still) (by show 2 ≤ sizeLine; decide)) (fun H' e => h_ways (avw_cons (h_tup (by show AV _ _ _ [.int 2, .int 1, .int 9, .int 1]; kxs_still) (by show 4 ≤ sizeLine; decide)) fun _ _ => avw_cons (h_tup (by show AV _ _ _ [.int 1, .int 2, .int 1, .int 6]; kxs_still) (by show 4 ≤ sizeLine; decide)) fun _ _ => avw_nil) (by show 2 ≤ 1000; decide))) (by show 3 ≤ 1000000; decide) (fun v H' z => by obtain ⟨_, _, _, _, _, _, z, _⟩ := z; exact z) ?_
    rintro v H2 ⟨d3, pl3, wl3, as3, rfl, n3, e2, t3⟩
    have mv : ∀ {d pl wl as ps ws}, ToldAt H2 d pl wl as ps ws → d ≠ S → pl ≠ S → wl ≠ S → ToldAt (upd H2 S (.lst [.ref d0, .ref d1, .ref d2, .ref d3])) d pl wl as ps ws := fun t a1 a2 a3 => ⟨by rw [upd_ne a1]; exact t.1, by rw [upd_ne a2]; exact t.2.1, by rw [upd_ne a3]; exact t.2.2.1, t.2.2.2.updL (e2 _ _ h1)⟩
    have hx : Same H (upd H2 S (.lst [.ref d0, .ref d1, .ref d2, .ref d3])) := same_mut (e1.trans e2) hS
    have fin : ∀ (i : Nat) (d pl wl : Addr) (as : List Addr), (i : Int) = f % 4 → [V.ref d0, .ref d1, .ref d2, .ref d3][i]? = some (.ref d) → H d = none → d ≠ S → pl ≠ S → wl ≠ S → ToldAt H2 d pl wl as (rP i) (rW i) →
        tRet (tOp (rIxL K) (tVar 1) (tOp (rI (fun _ j => (0 : Int) < j) fun i j => V.int (i % j)) (tVar 0) (tC (.int 4)))) { nx := fun x H' => Q V.non H', rt := Q } [some (.int f), some (.ref S)] (upd H2 S (.lst [.ref d0, .ref d1, .ref d2, .ref d3])) := by
      intro i d pl wl as hi hd hn a1 a2 a3 t
      refine s_ret (v := .ref d) (v_ixL (i := (i : Int)) (by kbo_bools) (by rw [hi]; kbo_bools) (SqL.of upd_same) (atI_nat hd)) ?_
      have := q d pl wl as _ hn hx
      rw [← hi, Int.toNat_natCast] at this
      exact this (mv t a1 a2 a3)
    have lne : ∀ {a : Addr} {ys : List V}, H2 a = some (.lst ys) → ys.length ≠ 3 → a ≠ S := fun h z => ne_of h (e2 _ _ h1) (by
      intro k
      cases k
      exact z rfl)
    have hf4 : f % 4 = 0 ∨ f % 4 = 1 ∨ f % 4 = 2 ∨ f % 4 = 3 := by omega
    have s0 := t0.same e2
    have s1 := t1.same e2
    have s2 := t2.same e2
    have wl_ : ∀ {d pl wl as i}, ToldAt H2 d pl wl as (rP i) (rW i) → wl ≠ S := fun {d pl wl as i} t => lne t.2.2.1 (by
      rw [List.length_map, t.2.2.2.len]
      match i with
      | 0 => decide
      | 1 => decide
      | 2 => decide
      | n + 3 => show 2 ≠ 3; decide)
    rcases hf4 with e | e | e | e
    · exact fin 0 d0 pl0 wl0 as0 e.symm rfl n0 (lne s0.1 (by simp)) (lne s0.2.1 (by decide)) (wl_ s0) s0
    · exact fin 1 d1 pl1 wl1 as1 e.symm rfl n1 (lne s1.1 (by simp)) (lne s1.2.1 (by decide)) (wl_ s1) s1
    · exact fin 2 d2 pl2 wl2 as2 e.symm rfl n2 (lne s2.1 (by simp)) (lne s2.2.1 (by decide)) (wl_ s2) s2
    · exact fin 3 d3 pl3 wl3 as3 e.symm rfl (e1.free n3) (lne t3.1 (by simp)) (lne t3.2.1 (by decide)) (wl_ t3) t3
abbrev N_law_made : List PySem.Str := ["told", "found", "e"]
theorem sc_law_made : FnScope N_law_made ["told"] (defScope s_law_made) := ⟨rfl, rfl, rfl, by decide +kernel, rfl, by decide +kernel, by decide +kernel⟩
theorem c_law_made {f fd} (D : FnP K "_law_made" "_law_made" s_law_made f fd) (hm : mg "_law_made" = some (.ref f)) (G : Bn mg) (g_HallError : mg "HallError" = some (.ref C.HallError)) (mx_BadHouse_HallError : PySem.W.exmOne K (.ref C.BadHouse) (.ref C.HallError) = some true) (c_House_init : Mak P w K mg base (L2.CX P w) 2 "House" C.House (sp_House_init K C)) : Cal P w K mg base CX0 4 "_law_made" (sp_law_made K C) := by
  refine cal_of D hm (D.ok sc_law_made (fun vs H Q E h => ?_) (fun cdv A outer s H vs Q E hr h => ?_)) (fun _ _ _ _ _ _ us hl => match us, hl with | [_], _ => rfl)
  · obtain ⟨d, pl, wl, as, ps, ws, rfl, hT, hz1, hz2, qh, qe⟩ := h
    rfl
  · obtain ⟨d, pl, wl, as, ps, ws, rfl, hT, hz1, hz2, qh, qe⟩ := h
    have hu := hu_of hr
    refine ⟨_, PSs.nox (pss_cons (ps_set (i := 1) sc_law_made.nd rfl (Or.inl rfl) pe_non)
        (pss_cons (ps_try_keep (K := K) (i := 2) (Wout := fun _ _ _ _ => False) rfl rfl rfl rfl sc_law_made.nd rfl rfl ⟨rfl, by decide, Or.inl g_HallError⟩ takes0
          (fun W pn xe tk _ => (pss_one (ps_set (i := 1) sc_law_made.nd rfl (Or.inl rfl) (pe_mkS c_House_init hr (by decide) (fun σ => passAt tk σ) rfl (pa_cons (pe_ix (ix_listK (K := K) rfl) (pv 0) pe_int (fun _ _ => rfl)) (pa_cons (pe_ix (ix_listK (K := K) rfl) (pv 0) pe_int (fun _ _ => rfl)) pa_nil))))))
          (fun a oe cls d pn hz hf => (pss_one (ps_set (i := 1) sc_law_made.nd rfl (Or.inl rfl) (pv 2)))))
        (pss_one (ps_ret (pv 1))))), ?_⟩
    kopn_word
    refine q_seq ?_
    refine s_setMakeS (vs := [.ref pl, .ref wl]) (av_cons (v_ixL (by kbo_bools) (by kbo_bools) (SqL.of hT.1) rfl) (av_cons (v_ixL (by kbo_bools) (by kbo_bools) (SqL.of hT.1) rfl) av_nil)) ?_
    intro h dx nh ndx ne
    have s1 : Same H (upd (upd H dx (.own h)) h (.ins C.House dx [])) := same_mut (same_upd ndx) nh
    refine ⟨h, dx, pl, wl, as, ps, ws, rfl, upd_same, s1 _ _ hT.2.1, s1 _ _ hT.2.2.1, hT.2.2.2.same s1, hz1, hz2, fun hok H' hh hk => ⟨rfl, ?_⟩, fun hno H' e => ?_⟩
    · obtain ⟨l1, l2, n1, n2, hI⟩ := hh
      show tRet (tVar 1) _ _ _
      exact s_ret (v := .ref h) (by kbo_bools) (qh hok h H' (fun b o hb => hk b o (s1 b o hb) (ne_none hb nh)) ⟨dx, l1, l2, hI⟩)
    · refine ⟨true, mx_BadHouse_HallError, fun _ => ⟨rfl, fun a ha => ?_⟩, fun z => nomatch z⟩
      refine s_set (v := .ref a) (by kbo_bools) ?_
      show tRet (tVar 1) _ _ _
      exact s_ret (v := .ref a) (by kbo_bools) (qe hno a _ ((s1.trans e).trans (same_upd ha)) upd_same)
end
def sp_law (K : PySem.W.Frag) (C : Cs) : Sp := fun vs H Q _ => ∃ (a : Addr) (ns : List Int), vs = [.ref a] ∧ SqL K H a (ns.map V.int) ∧ ns.length ≤ 63 ∧ ∀ H', Q (.bl true) H'
theorem len_folkS {ps : List Int} {f c : Int} (h : ps.length ≤ 10) : (folkS ps f c).length ≤ 100 := by
  have zf : 0 ≤ farZ c ∧ farZ c ≤ 8 := by unfold farZ; omega
  unfold folkS sp4 sp3 sp2
  repeat' split
  all_goals simp
  all_goals omega
theorem len_waysS {ps : List Int} {ws : List Way} {f c : Int} (h : ws.length ≤ 10) : (waysS ps ws f c).length ≤ 100 := by
  have zf : 0 ≤ farZ c ∧ farZ c ≤ 8 := by unfold farZ; omega
  unfold waysS sw5 sw3 sw1 ws0
  repeat' split
  all_goals simp
  all_goals omega
section
variable {P : Program} {w : World} {K : PySem.W.Frag} {mg : Str → Option Value} {base : Heap} {C : Cs}
abbrev N_law : List PySem.Str := ["script", "plot", "fault", "told", "kept", "turn", "found"]
theorem sc_law : FnScope N_law ["script"] (defScope s_law) := ⟨rfl, rfl, rfl, by decide +kernel, rfl, by decide +kernel, by decide +kernel⟩
theorem ok_law {f fd} (D : FnP K "law" "law" s_law f fd) (G : Bn mg) (g_House : mg "House" = some (.ref C.House)) (XH : C8.InsC K C.House) (A_BadHouse : AloneC K C C.BadHouse 0) (c_law_house : Cal P w K mg base CX0 4 "_law_house" (sp_law_house K C)) (c_law_spoiled : Cal P w K mg base CX0 2 "_law_spoiled" (sp_law_spoiled K C)) (c_law_draw : Cal P w K mg base CX0 2 "_law_draw" (sp_law_draw K C)) (c_law_reached : Cal P w K mg base CX0 1 "_law_reached" (sp_law_reached K C)) (c_law_made : Cal P w K mg base CX0 4 "_law_made" (sp_law_made K C)) (c_law_alone : Cal P w K mg base CX0 1 "_law_alone" (sp_law_alone K C)) : FnOk P w K mg base CX0 5 f fd ["script"] (sp_law K C) := by
  refine D.ok sc_law (fun vs H Q E h => ?_) (fun cdv A outer s H vs Q E hr h => ?_)
  · obtain ⟨a, ns, rfl, hS, hz, q⟩ := h
    rfl
  · obtain ⟨a, ns, rfl, hS, hz, q⟩ := h
    have hu := hu_of hr
    refine ⟨_, PSs.nox (pss_cons (ps_set (i := 1) sc_law.nd rfl (Or.inl rfl) (pe_c c_law_house hr (by decide) pass0 rfl (pa_cons (pv 0) pa_nil)))
        (pss_cons (ps_set (i := 2) sc_law.nd rfl (Or.inl rfl) (pe_op op_mod (pe_c c_law_draw hr (by decide) pass0 rfl (pa_cons (pv 0) (pa_cons pe_int pa_nil))) pe_int))
        (pss_cons (ps_set (i := 3) sc_law.nd rfl (Or.inl rfl) (pe_c c_law_spoiled hr (by decide) pass0 rfl (pa_cons (pv 1) (pa_cons (pv 2) (pa_cons (pe_c c_law_draw hr (by decide) pass0 rfl (pa_cons (pv 0) (pa_cons pe_int pa_nil))) pa_nil)))))
        (pss_cons (ps_if (pt_cmpR op_gt (pv 2) pe_int (nomark _))
          (pss_one (ps_set (i := 3) sc_law.nd rfl (Or.inl rfl) (pe_c c_law_reached hr (by decide) pass0 rfl (pa_cons (pv 2) pa_nil))))
          pss_nil)
        (pss_cons (ps_set (i := 4) sc_law.nd rfl (Or.inl rfl) (pe_lst (pa_cons (pe_callTy (T := "list") (call_list_ofK (K := K) rfl) (by rfl) G.list_ (by decide +kernel) (pa_cons (pe_ix (ix_listK (K := K) rfl) (pv 3) pe_int (fun _ _ => rfl)) pa_nil)) (pa_cons (pe_callTy (T := "list") (call_list_ofK (K := K) rfl) (by rfl) G.list_ (by decide +kernel) (pa_cons (pe_ix (ix_listK (K := K) rfl) (pv 3) pe_int (fun _ _ => rfl)) pa_nil)) pa_nil))))
        (pss_cons (ps_for PassesOwn.never rfl (pi_range1 rfl G.range_ (pa_cons pe_int pa_nil)) (pg_name (i := 5) sc_law.nd rfl (Or.inl rfl))
          (pss_cons (ps_set (i := 6) sc_law.nd rfl (Or.inl rfl) (pe_c c_law_made hr (by decide) pass0 rfl (pa_cons (pv 3) pa_nil)))
            (pss_cons (ps_if (pt_cmpR (op_neDK (K := K) rfl hr.units) (pv 3) (pv 4) (nomark _))
              (pss_one (ps_ret pe_bl))
              pss_nil)
            (pss_cons (ps_if (PW.pt (pw_and (pt_cmpR op_lt (pv 2) pe_int (nomark _)) (pw_and1 (pt_cmpR op_ne (pe_c c_law_alone hr (by decide) pass0 rfl (pa_cons (pv 6) pa_nil)) pe_int (nomark _)))))
              (pss_one (ps_ret pe_bl))
              pss_nil)
            (pss_one (ps_if (PW.pt (pw_and (pt_cmpR op_ge (pv 2) pe_int (nomark _)) (pw_and1 (pt_not (pt_val (pe_callB (id := "isinstance") (call_isCK (K := K) rfl XH) (by rfl) G.isinstance_ (by decide +kernel) (pa_cons (pv 6) (pa_cons (pe_glob (v := .ref C.House) rfl g_House rfl) pa_nil))))))))
              (pss_one (ps_ret pe_bl))
              pss_nil))))))
        (pss_one (ps_ret pe_bl)))))))), ?_⟩
    have hok := house_ok ns
    have hfl : 1 ≤ (folkZ ns).length ∧ (folkZ ns).length ≤ 4 := by
      have := rooms_b ns
      rw [folk_len]
      omega
    have hwl : (waysZ ns).length ≤ 10 := by
      have := many_b ns
      rw [ways_len]
      omega
    refine q_setH (P := fun v H1 => ∃ p pl wl as, v = .ref p ∧ Same H H1 ∧ PlotAt H1 p pl wl as (folkZ ns) (waysZ ns)) (h_call (vs := [.ref a]) (by kxs_still) fun Q q => ⟨a, ns, rfl, hS, fun p pl wl as H' _ e h => q _ _ ⟨p, pl, wl, as, rfl, e, h⟩⟩) ?_
    rintro v H1 ⟨p, pl, wl, as, rfl, e1, hp1⟩
    have hS := Evl.ex_l e1 hS
    have hf0 := draw_nn ns 91
    have hc0 := draw_nn ns 92
    refine q_set (v := .int (drawZ ns 91 % 21)) (by kbo_bools) ?_
    have hfb : 0 ≤ drawZ ns 91 % 21 ∧ drawZ ns 91 % 21 < 21 := by omega
    generalize drawZ ns 91 % 21 = f at hfb ⊢
    refine q_setH (P := ToldV H1 (folkS (folkZ ns) f (drawZ ns 92)) (waysS (folkZ ns) (waysZ ns) f (drawZ ns 92))) (h_call (vs := [.ref p, .int f, .int (drawZ ns 92)]) (by kxs_still) fun Q q => ⟨p, pl, wl, as, _, _, f, _, rfl, hp1, hfb.1, hc0, hfl, hwl, fun d pl wl as H' h1 h2 h3 => q _ _ ⟨d, pl, wl, as, rfl, h1, h2, h3⟩⟩) ?_
    rintro v H2 ⟨d, tl, ul, bs, rfl, hd, e2, hT⟩
    generalize drawZ ns 92 = c at *
    refine q_ifM (fun σ' H' => ∃ d tl ul bs, σ' = [some (.ref a), some (.ref p), some (.int f), some (.ref d), none, none, none] ∧ Same H2 H' ∧ ToldAt H' d tl ul bs (finP ns f c) (finW ns f c)) (b := decide (16 < f)) (ag_of (by kbt_split)) (fun N k hb H3 e3 => ?_) (fun hb H3 e3 => ?_) ?_
    · have hb : 16 < f := by simpa using hb
      refine s_setH (P := ToldV H3 (rP (f % 4).toNat) (rW (f % 4).toNat)) (h_call (vs := [.int f]) (by kxs_still) fun Q q => ⟨f, rfl, hfb.1, fun d pl wl as H' h1 h2 h3 => q _ _ ⟨d, pl, wl, as, rfl, h1, h2, h3⟩⟩) ?_
      rintro v H4 ⟨d, tl, ul, bs, rfl, hd, e4, hT⟩
      refine k _ _ ⟨d, tl, ul, bs, rfl, e3.trans e4, ?_⟩
      rw [finP, finW, if_pos hb, if_pos hb]
      exact hT
    · have hb : ¬ 16 < f := by simpa using hb
      refine ⟨d, tl, ul, bs, rfl, e3, ?_⟩
      rw [finP, finW, if_neg hb, if_neg hb]
      exact hT.same e3
    rintro σ1 H3 ⟨d, tl, ul, bs, rfl, e3, hT⟩
    have hfin := fin_ok ns (f := f) (c := c) hfb.1 hc0
    have hl1 : (finP ns f c).length ≤ 100 := by
      unfold finP
      split
      · have := r_ok (f % 4).toNat
        have := (houseOk_of.mp this).1
        omega
      · exact len_folkS (by omega)
    have hl2 : (finW ns f c).length ≤ 100 := by
      unfold finW
      split
      · have := r_ok (f % 4).toNat
        have := (houseOk_of.mp this).1
        omega
      · exact len_waysS (by omega)
    generalize finP ns f c = ps at *
    generalize finW ns f c = ws at *
    -- kept
    refine q_setH (P := fun v H4 => ∃ k k0 k1, v = .ref k ∧ Same H3 H4 ∧ H4 k = some (.lst [.ref k0, .ref k1]) ∧ H4 k0 = some (.lst (ps.map V.int)) ∧ H4 k1 = some (.lst (bs.map V.ref))) ?_ ?_
    · intro Q q
      refine h_list (p := tl) (xs := ps.map V.int) (v_ixL (by kbo_bools) (by kbo_bools) (SqL.of hT.1) rfl) (SqL.of hT.2.1) _ ?_
      rintro v H4 ⟨k0, rfl, n0, rfl⟩
      have s0 := same_upd (o := .lst (ps.map V.int)) n0
      have hT' := hT.same s0
      refine h_list (p := ul) (xs := bs.map V.ref) (v_ixL (by kbo_bools) (by kbo_bools) (SqL.of hT'.1) rfl) (SqL.of hT'.2.2.1) _ ?_
      rintro v H4 ⟨k1, rfl, n1, rfl⟩
      have s1 := same_upd (o := .lst (bs.map V.ref)) n1
      exact ⟨by show 2 ≤ sizeLine; decide, fun k nk => q _ _ ⟨k, k0, k1, rfl, (s0.trans s1).trans (same_upd nk), upd_same, same_upd nk _ _ (s1 _ _ upd_same), same_upd nk _ _ upd_same⟩⟩
    rintro v H4 ⟨k, k0, k1, rfl, e4, hk, hk0, hk1⟩
    have hT4 := hT.same e4
    refine q_forR1 (n := 2) (by kxs_still) (by omega) (fun i σ' H' => ∃ u v, σ' = [some (.ref a), some (.ref p), some (.int f), some (.ref d), some (.ref k), u, v] ∧ Same H4 H') ⟨none, none, rfl, Same.refl _⟩ ?_ ?_
    · rintro i σ' H' hi ⟨u, v, rfl, e5⟩
      have hT5 := hT4.same e5
      refine q_setH (P := fun v H6 => ∃ x, v = .ref x ∧ Same H' H6 ∧ (15 ≤ f → HouseAt C H6 x bs ps ws) ∧ (f < 15 → H6 x = some (ExK (.ref C.BadHouse) x))) (h_call (vs := [.ref d]) (by kxs_still) fun Q q => ⟨d, tl, ul, bs, ps, ws, rfl, hT5, by omega, by omega, fun ho h H6 e6 hh => q _ _ ⟨h, rfl, e6, fun _ => hh, fun z => ?_⟩, fun ho x H6 e6 hh => q _ _ ⟨x, rfl, e6, fun z => ?_, fun _ => hh⟩⟩) ?_
      · rw [hfin, decide_eq_false (by omega)] at ho
        cases ho
      · rw [hfin, decide_eq_true z] at ho
        cases ho
      rintro v H6 ⟨x, rfl, e6, hx1, hx2⟩
      have hT6 := hT5.same e6
      have e46 := e5.trans e6
      refine q_whenG (b := !PyData.eqv (.list [intsD ps, waysD ws]) (.list [intsD ps, waysD ws])) (ag_test (g_neD (g_of (v := .ref d) (by kbo_bools)) (fun H7 e7 => ?_) (shaped_pair (shaped_ints _) (shaped_ways _) (dep_intsD _) (dep_waysD _)) (shaped_pair (shaped_ints _) (shaped_ways _) (dep_intsD _) (dep_waysD _)))) (fun hb => ?_) (fun _ H7 e7 => ?_)
      · have hT7 := hT6.same e7
        have e' := e46.trans e7
        refine ValH.imp (Val.h' (v := .ref k) (by kbo_bools)) ?_
        rintro y H3 ⟨rfl, rfl⟩
        exact ⟨Same.refl _, .lst (SqL.of hT7.1) (.cons (dp_ints hT7.2.1) (.cons (dp_ways hT7.2.2.1 hT7.2.2.2) .nil)), .lst (SqL.of (e' _ _ hk)) (.cons (dp_ints (e' _ _ hk0)) (.cons (dp_ways (e' _ _ hk1) hT7.2.2.2) .nil))⟩
      · rw [eqv_refl (shaped_pair (shaped_ints _) (shaped_ways _) (dep_intsD _) (dep_waysD _))] at hb
        cases hb
      refine q_whenG (b := decide (f < 15) && !decide (V.int 0 = V.int 0)) (ag_and (ag_of (by kbt_split)) fun hb H8 e8 => ag_test ?_) (fun hb => by simp at hb) (fun _ H8 e8 => ?_)
      · have hb : f < 15 := by simpa using hb
        have hx := e8 _ _ (e7 _ _ (hx2 hb))
        exact g_neS (g_call (vs := [.ref x]) (v := .int 0) (by kxs_still) fun Q q => ⟨x, C.BadHouse, 0, rfl, by decide, A_BadHouse, hx, fun H' e => q H' e⟩) (fun _ _ => g_of v_c) rfl
      have s8 : Same H4 H8 := (e46.trans e7).trans e8
      refine s_if (D := _) (b := decide (15 ≤ f) && !true) (a_and (by kbt_split) fun hb => ?_) (fun hb => by simp at hb) (fun _ => ⟨_, _, rfl, s8⟩)
      have hb : 15 ≤ f := by simpa using hb
      obtain ⟨dx, l1, l2, hI⟩ := hx1 hb
      exact a_not (a_B (v_isH (by kbo_bools) v_c ((e7.trans e8) _ _ hI.ob)))
    · rintro σ' H' ⟨u, v, rfl, e5⟩
      exact s_ret v_c (q H')
end
set_option maxHeartbeats 0
def CsOf (K : PySem.W.Frag) : Cs := { House := He.ga K "House", Flow := 0, BadHouse := He.ga K "BadHouse", NoWalk := He.ga K "NoWalk", BadPaper := He.ga K "BadPaper", NoText := He.ga K "NoText", HallError := He.ga K "HallError" }
def exB : PySem.W.Frag → Bool := fun K => (aloneB K (CsOf K) (CsOf K).BadHouse 0) && (insB K (CsOf K).House)
abbrev R : PySem.W.OpenRow := PySem.W.OpenLaw.row PySem.Challenge.rw_emptyhall_k02_houses_refused
abbrev hk : PySem.W.Hook := hookX 4 fa fn exB
def ob (s : PySem.W.SharedT) : AlX := obsXG 4 fa fn exB (HandSHeadRun.getT s)
theorem ob_eq (s : PySem.W.SharedT) : ob s = hk.obs s.abs := obsXG_eq (HandSHeadRun.getT_eq s)
theorem run (w : World) : HandSHeadRun.RunEq R (PySem.W.view R.prog [22]) hk ob 4000 loose w := by
  intro os
  kernel_rfl
theorem facts {P : Program} {w : World} {K : PySem.W.Frag} {h : Heap} {mg : Str → Option Value} {fL : Addr} (X : K.In h) (G0 : h.Ns mainGlobals mg) (hfa : mg ("law" : Str) = some (.ref fL)) (c : SaysX fa fn exB K) :
    ∃ (C : Cs) (fd : FuncData), (∀ (s : Shared) (v : Value), BindsTo s fd ⟨[v], []⟩ [("script", v)]) ∧ ∀ base : Heap, K.In base → base.Ns mainGlobals mg → FnOk P w K mg base CX0 5 fL fd ["script"] (sp_law K C) := by
  let C : Cs := CsOf K
  have G : Bn mg := { len_ := He.free_ok X G0 (c.d.fact 13 (f := .free "len") rfl), list_ := He.free_ok X G0 (c.d.fact 14 (f := .free "list") rfl), tuple_ := He.free_ok X G0 (c.d.fact 15 (f := .free "tuple") rfl), range_ := He.free_ok X G0 (c.d.fact 16 (f := .free "range") rfl), sum_ := He.free_ok X G0 (c.d.fact 17 (f := .free "sum") rfl), min_ := He.free_ok X G0 (c.d.fact 18 (f := .free "min") rfl), max_ := He.free_ok X G0 (c.d.fact 19 (f := .free "max") rfl), isinstance_ := He.free_ok X G0 (c.d.fact 20 (f := .free "isinstance") rfl), str_ := He.free_ok X G0 (c.d.fact 21 (f := .free "str") rfl), int_ := He.free_ok X G0 (c.d.fact 22 (f := .free "int") rfl), bool_ := He.free_ok X G0 (c.d.fact 23 (f := .free "bool") rfl), enumerate_ := He.free_ok X G0 (c.d.fact 24 (f := .free "enumerate") rfl), ValueError_ := He.free_ok X G0 (c.d.fact 25 (f := .free "ValueError") rfl) }
  have g_HallError : mg "HallError" = some (.ref C.HallError) := He.glo_ok X G0 (c.d.fact 26 (f := .glo "HallError") rfl)
  have X_HallError : Xc K mg "HallError" C.HallError := ⟨(He.exc_ok (c.d.fact 27 (f := .exc "HallError") rfl)).1, g_HallError, (He.exc_ok (c.d.fact 27 (f := .exc "HallError") rfl)).2.1, (He.exc_ok (c.d.fact 27 (f := .exc "HallError") rfl)).2.2.1, (He.exc_ok (c.d.fact 27 (f := .exc "HallError") rfl)).2.2.2⟩
  have g_BadHouse : mg "BadHouse" = some (.ref C.BadHouse) := He.glo_ok X G0 (c.d.fact 28 (f := .glo "BadHouse") rfl)
  have X_BadHouse : Xc K mg "BadHouse" C.BadHouse := ⟨(He.exc_ok (c.d.fact 29 (f := .exc "BadHouse") rfl)).1, g_BadHouse, (He.exc_ok (c.d.fact 29 (f := .exc "BadHouse") rfl)).2.1, (He.exc_ok (c.d.fact 29 (f := .exc "BadHouse") rfl)).2.2.1, (He.exc_ok (c.d.fact 29 (f := .exc "BadHouse") rfl)).2.2.2⟩
  have g_NoWalk : mg "NoWalk" = some (.ref C.NoWalk) := He.glo_ok X G0 (c.d.fact 30 (f := .glo "NoWalk") rfl)
  have X_NoWalk : Xc K mg "NoWalk" C.NoWalk := ⟨(He.exc_ok (c.d.fact 31 (f := .exc "NoWalk") rfl)).1, g_NoWalk, (He.exc_ok (c.d.fact 31 (f := .exc "NoWalk") rfl)).2.1, (He.exc_ok (c.d.fact 31 (f := .exc "NoWalk") rfl)).2.2.1, (He.exc_ok (c.d.fact 31 (f := .exc "NoWalk") rfl)).2.2.2⟩
  have g_BadPaper : mg "BadPaper" = some (.ref C.BadPaper) := He.glo_ok X G0 (c.d.fact 32 (f := .glo "BadPaper") rfl)
  have X_BadPaper : Xc K mg "BadPaper" C.BadPaper := ⟨(He.exc_ok (c.d.fact 33 (f := .exc "BadPaper") rfl)).1, g_BadPaper, (He.exc_ok (c.d.fact 33 (f := .exc "BadPaper") rfl)).2.1, (He.exc_ok (c.d.fact 33 (f := .exc "BadPaper") rfl)).2.2.1, (He.exc_ok (c.d.fact 33 (f := .exc "BadPaper") rfl)).2.2.2⟩
  have g_NoText : mg "NoText" = some (.ref C.NoText) := He.glo_ok X G0 (c.d.fact 34 (f := .glo "NoText") rfl)
  have X_NoText : Xc K mg "NoText" C.NoText := ⟨(He.exc_ok (c.d.fact 35 (f := .exc "NoText") rfl)).1, g_NoText, (He.exc_ok (c.d.fact 35 (f := .exc "NoText") rfl)).2.1, (He.exc_ok (c.d.fact 35 (f := .exc "NoText") rfl)).2.2.1, (He.exc_ok (c.d.fact 35 (f := .exc "NoText") rfl)).2.2.2⟩
  have g_House : mg "House" = some (.ref C.House) := He.glo_ok X G0 (c.d.fact 36 (f := .glo "House") rfl)
  have cl_House : Cls K C.House := He.cls_ok (c.d.fact 37 (f := .cls "House") rfl)
  have mk_House : Mk K C.House (He.ma K C.House "__init__") := He.mkr_ok (c.d.fact 38 (f := .mkr "House") rfl)
  have HC : HouseC K C := ⟨cl_House, He.noat_ok (c.d.fact 39 (f := .noat "House" "held") rfl), He.noat_ok (c.d.fact 40 (f := .noat "House" "laid") rfl)⟩
  have XG : ExcG mg C := ⟨g_BadHouse, g_NoWalk, g_BadPaper, g_NoText, g_HallError⟩
  have hx : exB K = true := c.x
  rw [exB, Bool.and_eq_true] at hx
  have A_BadHouse : AloneC K C C.BadHouse 0 := aloneB_ok hx.1
  have XH : C8.InsC K C.House := insB_ok cl_House hx.2
  have mx_BadHouse_HallError := He.exm_ok (c.d.fact 44 (f := .exm "BadHouse" "HallError" true) rfl)
  obtain ⟨fd0, F0⟩ := c.d.def_ 0 (d := d_see_way) rfl
  obtain ⟨fd1, F1⟩ := c.d.def_ 1 (d := d_House_init) rfl
  obtain ⟨fd2, F2⟩ := c.d.def_ 2 (d := d_House_people) rfl
  obtain ⟨fd3, F3⟩ := c.d.def_ 3 (d := d_House_ways) rfl
  obtain ⟨fd4, F4⟩ := c.d.def_ 4 (d := d_law_cell_at) rfl
  obtain ⟨fd5, F5⟩ := c.d.def_ 5 (d := d_law_draw) rfl
  obtain ⟨fd6, F6⟩ := c.d.def_ 6 (d := d_law_whole) rfl
  obtain ⟨fd7, F7⟩ := c.d.def_ 7 (d := d_law_people) rfl
  obtain ⟨fd8, F8⟩ := c.d.def_ 8 (d := d_law_way) rfl
  obtain ⟨fd9, F9⟩ := c.d.def_ 9 (d := d_law_house) rfl
  obtain ⟨fd10, F10⟩ := c.d.def_ 10 (d := d_law_alone) rfl
  obtain ⟨fd11, F11⟩ := c.d.def_ 11 (d := d_law_bad_way) rfl
  obtain ⟨fd12, F12⟩ := c.d.def_ 12 (d := d_law_spoiled) rfl
  obtain ⟨fd13, F13⟩ := c.d.def_ 13 (d := d_law_reached) rfl
  obtain ⟨fd14, F14⟩ := c.d.def_ 14 (d := d_law_made) rfl
  obtain ⟨fd15, F15⟩ := c.d.def_ 15 (d := d_law) rfl
  have m_see_way := He.glo_ok X G0 (c.d.fact 0 (f := .glo "see_way") rfl)
  have m_law_cell_at := He.glo_ok X G0 (c.d.fact 1 (f := .glo "_law_cell_at") rfl)
  have m_law_draw := He.glo_ok X G0 (c.d.fact 2 (f := .glo "_law_draw") rfl)
  have m_law_whole := He.glo_ok X G0 (c.d.fact 3 (f := .glo "_law_whole") rfl)
  have m_law_people := He.glo_ok X G0 (c.d.fact 4 (f := .glo "_law_people") rfl)
  have m_law_way := He.glo_ok X G0 (c.d.fact 5 (f := .glo "_law_way") rfl)
  have m_law_house := He.glo_ok X G0 (c.d.fact 6 (f := .glo "_law_house") rfl)
  have m_law_alone := He.glo_ok X G0 (c.d.fact 7 (f := .glo "_law_alone") rfl)
  have m_law_bad_way := He.glo_ok X G0 (c.d.fact 8 (f := .glo "_law_bad_way") rfl)
  have m_law_spoiled := He.glo_ok X G0 (c.d.fact 9 (f := .glo "_law_spoiled") rfl)
  have m_law_reached := He.glo_ok X G0 (c.d.fact 10 (f := .glo "_law_reached") rfl)
  have m_law_made := He.glo_ok X G0 (c.d.fact 11 (f := .glo "_law_made") rfl)
  have e := hfa.symm.trans (He.glo_ok X G0 (c.d.fact 12 (f := .glo "law") rfl))
  cases e
  refine ⟨C, fd15, fun s v => FunD.bindsA (ps := ["script"]) F15 (fun _ _ _ _ _ _ us hl => match us, hl with | [_], _ => rfl) s [v] rfl, fun base _ _ => ?_⟩
  have c_law_cell_at : Cal P w K mg base CX0 1 "_law_cell_at" (sp_law_cell_at K C) := c_law_cell_at F4 m_law_cell_at G
  have c_law_draw : Cal P w K mg base CX0 2 "_law_draw" (sp_law_draw K C) := c_law_draw F5 m_law_draw G c_law_cell_at
  have c_law_way : Cal P w K mg base CX0 3 "_law_way" (sp_law_way K C) := c_law_way F8 m_law_way G c_law_draw
  have c_law_people : Cal P w K mg base CX0 3 "_law_people" (sp_law_people K C) := c_law_people F7 m_law_people G c_law_draw
  have c_law_house : Cal P w K mg base CX0 4 "_law_house" (sp_law_house K C) := c_law_house F9 m_law_house G c_law_draw c_law_way c_law_people
  have c_law_bad_way : Cal P w K mg base CX0 1 "_law_bad_way" (sp_law_bad_way K C) := c_law_bad_way F11 m_law_bad_way G
  have c_law_spoiled : Cal P w K mg base CX0 2 "_law_spoiled" (sp_law_spoiled K C) := c_law_spoiled F12 m_law_spoiled G c_law_bad_way
  have c_law_reached : Cal P w K mg base CX0 1 "_law_reached" (sp_law_reached K C) := c_law_reached F13 m_law_reached G
  have c_see_way : Cal P w K mg base (L2.CX P w) 1 "see_way" (sp_see_way K C) := c_see_way F0 m_see_way G X_BadHouse
  have c_House_init : Mak P w K mg base (L2.CX P w) 2 "House" C.House (sp_House_init K C) := c_House_init F1 g_House mk_House G HC X_BadHouse c_see_way
  have c_law_made : Cal P w K mg base CX0 4 "_law_made" (sp_law_made K C) := c_law_made F14 m_law_made G g_HallError mx_BadHouse_HallError c_House_init
  have c_law_alone : Cal P w K mg base CX0 1 "_law_alone" (sp_law_alone K C) := c_law_alone F10 m_law_alone G XG
  exact ok_law F15 G g_House XH A_BadHouse c_law_house c_law_spoiled c_law_draw c_law_reached c_law_made c_law_alone
end EH
open PySem PySem.W PySem.Calls PyProof.Rows
theorem PySem.Challenge.cw_emptyhall_k02_houses_refused_holds : PySem.Challenge.rw_emptyhall_k02_houses_refused.Holds := by
  w_on; o_law
  refine HandSHeadRun.head_any (r := OpenLaw.row PySem.Challenge.rw_emptyhall_k02_houses_refused) (q := view (OpenLaw.row PySem.Challenge.rw_emptyhall_k02_houses_refused).prog [22]) (H := EH.hk) (ob := EH.ob) (M := 4000) (loose := EH.loose) (d := HandSHeadRun.topDef (OpenLaw.row PySem.Challenge.rw_emptyhall_k02_houses_refused).prog 22) (kwd := []) EH.ob_eq
    (by kernel_rfl) (fun s => by kernel_rfl) EH.run (by kernel_rfl) (by kernel_rfl) (by kernel_rfl) (by rfl) (by first | assumption | decide +kernel) (by decide +kernel) ⟨rfl, rfl, rfl, rfl, rfl, by decide +kernel⟩ ?hw ?hc
  case hw => w_witness2
  case hc =>
    refine L2.walk_ofE (l := PySem.Challenge.rw_emptyhall_k02_houses_refused) (n := 63) (k := 5) (x := "script") (CX := L2.CX0) rfl (by decide) (by kernel_rfl) ⟨rfl, by decide, by decide⟩ ?F (fun _ _ _ _ z => z)
    intro w mg fa h Y G hmg0
    obtain ⟨K, KX, c⟩ := Y
    have hmg : mg ("law" : PySem.Str) = some (.ref fa) := by
      have e : (HandSHeadRun.topDef (OpenLaw.row PySem.Challenge.rw_emptyhall_k02_houses_refused).prog 22).name = ("law" : PySem.Str) := by kernel_rfl
      rw [← e]
      exact hmg0
    obtain ⟨C, fd, hb, hF⟩ := EH.facts (P := (PySem.Challenge.rw_emptyhall_k02_houses_refused).prog) (w := w) KX G hmg c
    exact ⟨K, fd, EH.sp_law K C, KX, hb, fun H a ns hl _ hS => ⟨a, ns, rfl, hS, hl, fun _ => rfl⟩, hF⟩
#print axioms PySem.Challenge.cw_emptyhall_k02_houses_refused_holds

