import PyProof.Rows.All
import Wide.All
import OpenK.AllK
import Wide.FinOn
import HandS.ForMost
import HandS.ForExc
import HandS.ExcIs
import HandS.Evl
import HandS.IsInst
import HandS.Rev
import HandS.More
import HandS.Steps
import KE.KTupSum
import KE.GoesRaise
import KE.GoesComp
import HandS.SuiteRaise
import PySem.Challenge.RW_blockturn_k17_texts_refused
set_option Elab.async false
set_option linter.all false
set_option maxRecDepth 100000
set_option maxHeartbeats 4000000
namespace BT
open PySem PySem.Spec PyProof.Rows L2 Evl
/-! ### defs by name, defs that are called -/
structure DefAt (K : PySem.W.Frag) (mg : Str → Option Value) (x : String) (st : Stmt) (ps : List Str) (f : Addr) (fd : FuncData) : Prop where
  g : mg x = some (.ref f)
  F : Fun K x x st f fd
  b : Binds K fd ps []
structure CalE (P : Program) (w : World) (K : PySem.W.Frag) (mg : Str → Option Value) (base : Heap) (CX : CXT) (k : Nat) (x : Str) (ps : List Str) (sp : Sp) : Prop where
  ex : ∃ (f : Addr) (fd : FuncData), FnOk P w K mg base CX k f fd ps sp ∧ mg x = some (.ref f) ∧ PySem.W.keepIn K (.ref f) = true ∧ Binds K fd ps []

/-! ### what a reading evaluates to, some value of which P holds -/
def Mono (P : V → Hp → Prop) : Prop := ∀ v H H', Ex H H' → P v H → P v H'
def EvP (te : TE) (σ : L2.St) (H : Hp) (P : V → Hp → Prop) : Prop := ∀ H1, Ex H H1 → ∀ Q : VK, (∀ v H2, Ex H1 H2 → P v H2 → Q v H2) → te σ H1 Q
def EvLP (te : TE) (σ : L2.St) (H : Hp) (n : Nat) (P : Nat → V → Hp → Prop) : Prop :=
  ∀ H1, Ex H H1 → ∀ Q : VK, (∀ p H2 vs, H1 p = none → Ex H1 H2 → H2 p = some (.lst vs) → vs.length = n → (∀ i v, vs[i]? = some v → P i v H2) → Q (.ref p) H2) → te σ H1 Q
def RetP (P : V → Hp → Prop) (H : Hp) (Q : VK) : Prop := ∀ v H2, Ex H H2 → P v H2 → Q v H2
def SpP (sp : Sp) (vs : List V) (H : Hp) (P : V → Hp → Prop) : Prop := ∀ H1, Ex H H1 → ∀ Q : VK, RetP P H1 Q → ∀ E : XK, sp vs H1 Q E
section
variable {K : PySem.W.Frag} {σ : L2.St} {H H' : Hp} {ta tb te tx : TE} {t u : TT} {x y z v : V} {r : R2} {P : V → Hp → Prop}
theorem EvU.mono {xs : List V} (e : Ex H H') (h : EvU te σ H xs) : EvU te σ H' xs := fun H1 e1 => h H1 (e.trans e1)
theorem EvP.mono (e : Ex H H') (h : EvP te σ H P) : EvP te σ H' P := fun H1 e1 => h H1 (e.trans e1)
theorem ep_of (h : Ev te σ H v) (hp : ∀ H1, Ex H H1 → P v H1) : EvP te σ H P := fun H1 e Q q => h H1 e Q fun H2 e2 => q v H2 e2 (hp H2 (e.trans e2))
theorem ep_weak {P' : V → Hp → Prop} (h : EvP te σ H P) (hp : ∀ v H1, Ex H H1 → P v H1 → P' v H1) : EvP te σ H P' := fun H1 e Q q => h H1 e Q fun v H2 e2 p => q v H2 e2 (hp v H2 (e.trans e2) p)
theorem ep_call {sp : Sp} {dvs vs : List V} {E : XK} {ta : TA} (h : EvA ta σ H vs) (hs : SpP sp (vs ++ dvs) H P) : EvP (tCall sp dvs E ta) σ H P :=
  fun H1 e Q q => h H1 e _ fun H2 e2 => hs H2 (e.trans e2) Q (fun v H3 e3 p => q v H3 (e2.trans e3) p) E
/-- an argument some of whose facts are known -/
def EvAP (ta : TA) (σ : L2.St) (H : Hp) (P : List V → Hp → Prop) : Prop := ∀ H1, Ex H H1 → ∀ Q : List V → Hp → Prop, (∀ vs H2, Ex H1 H2 → P vs H2 → Q vs H2) → ta σ H1 Q
theorem eap_of {ta : TA} {vs : List V} {P : List V → Hp → Prop} (h : EvA ta σ H vs) (hp : ∀ H1, Ex H H1 → P vs H1) : EvAP ta σ H P := fun H1 e Q q => h H1 e Q fun H2 e2 => q vs H2 e2 (hp H2 (e.trans e2))
theorem eap_cons {ta : TA} {P : V → Hp → Prop} {R S : List V → Hp → Prop} (hm : Mono P) (h : EvP te σ H P) (hr : EvAP ta σ H R) (hs : ∀ v vs H1, Ex H H1 → P v H1 → R vs H1 → S (v :: vs) H1) : EvAP (tCons te ta) σ H S :=
  fun H1 e Q q => h H1 e _ fun v H2 e2 p => hr H2 (e.trans e2) _ fun vs H3 e3 p3 => q (v :: vs) H3 (e2.trans e3) (hs v vs H3 ((e.trans e2).trans e3) (hm v H2 H3 e3 p) p3)
theorem ep_callP {sp : Sp} {dvs : List V} {E : XK} {ta : TA} {R : List V → Hp → Prop} (h : EvAP ta σ H R) (hs : ∀ vs H1, Ex H H1 → R vs H1 → SpP sp (vs ++ dvs) H1 P) : EvP (tCall sp dvs E ta) σ H P :=
  fun H1 e Q q => h H1 e _ fun vs H2 e2 p => hs vs H2 (e.trans e2) p H2 (Ex.refl H2) Q (fun v H3 e3 p => q v H3 (e2.trans e3) p) E
theorem ev_opP {P2 : V → Hp → Prop} (m : Mono P) (ha : EvP ta σ H P) (hb : EvP tb σ H P2) (hr : ∀ v u H1, Ex H H1 → P v H1 → P2 u H1 → RV r v u H1 z) : Ev (tOp r ta tb) σ H z :=
  fun H1 e Q q => ha H1 e _ fun v H2 e2 p => hb H2 (e.trans e2) _ fun u H3 e3 p2 => hr v u H3 ((e.trans e2).trans e3) (m v H2 H3 e3 p) p2 H3 (Ex.refl H3) Q fun H4 e4 => q H4 ((e2.trans e3).trans e4)
theorem ep_opP {P2 P3 : V → Hp → Prop} (m : Mono P) (ha : EvP ta σ H P) (hb : EvP tb σ H P2) (hr : ∀ v u H1, Ex H H1 → P v H1 → P2 u H1 → ∀ Q : VK, (∀ z H2, Ex H1 H2 → P3 z H2 → Q z H2) → r v u H1 Q) : EvP (tOp r ta tb) σ H P3 :=
  fun H1 e Q q => ha H1 e _ fun v H2 e2 p => hb H2 (e.trans e2) _ fun u H3 e3 p2 => hr v u H3 ((e.trans e2).trans e3) (m v H2 H3 e3 p) p2 Q fun z H4 e4 => q z H4 ((e2.trans e3).trans e4)
theorem ep_if {b : Bool} (h : EvT t σ H b) (h1 : b = true → EvP ta σ H P) (h2 : b = false → EvP tb σ H P) : EvP (tIf t ta tb) σ H P := by
  intro H1 e Q q
  refine h H1 e _ fun H2 e2 => ?_
  cases b with
  | true => exact h1 rfl H2 (e.trans e2) Q fun v H3 e3 p => q v H3 (e2.trans e3) p
  | false => exact h2 rfl H2 (e.trans e2) Q fun v H3 e3 p => q v H3 (e2.trans e3) p
/-- a new tuple, a new list, as some value -/
theorem ep_U {xs : List V} (h : EvU te σ H xs) (hp : ∀ p H1, Ex H H1 → H1 p = some (.tup xs) → P (.ref p) H1) : EvP te σ H P := fun H1 e Q q => h H1 e Q fun p H2 _ e2 hp2 => q _ H2 e2 (hp p H2 (e.trans e2) hp2)
theorem ep_L {xs : List V} (h : EvL te σ H xs) (hp : ∀ p H1, Ex H H1 → H1 p = some (.lst xs) → P (.ref p) H1) : EvP te σ H P := fun H1 e Q q => h H1 e Q fun p H2 _ e2 hp2 => q _ H2 e2 (hp p H2 (e.trans e2) hp2)

/-! ### operators -/
theorem rv_mod {i j : Int} (h : 0 < j) : RV (rI (fun _ j => 0 < j) fun i j => .int (i % j)) (.int i) (.int j) H (.int (i % j)) := rv_I h
theorem rv_fdiv {i j : Int} (h : 0 < j) (h2 : j < 1073741824) : RV (rI CDiv fun i j => .int (i / j)) (.int i) (.int j) H (.int (i / j)) := rv_I ⟨h, h2⟩
theorem rv_mulR {i j : Int} (h : -18446744073709551616 < j) (h2 : j < 18446744073709551616) : RV (rI CMul fun i j => .int (i * j)) (.int i) (.int j) H (.int (i * j)) := rv_I (.inr ⟨h, h2⟩)
theorem rv_mulL {i j : Int} (h : -18446744073709551616 < i) (h2 : i < 18446744073709551616) : RV (rI CMul fun i j => .int (i * j)) (.int i) (.int j) H (.int (i * j)) := rv_I (.inl ⟨h, h2⟩)
theorem rv_pow {i j : Int} (h : CPow i j) : RV (rI CPow fun i j => .int (i ^ j.toNat)) (.int i) (.int j) H (.int (i ^ j.toNat)) := rv_I h
theorem dec_i (a b : Int) : decide (V.int a = V.int b) = decide (a = b) := by
  by_cases h : a = b
  · rw [decide_eq_true h, decide_eq_true (congrArg V.int h)]
  · rw [decide_eq_false h, decide_eq_false (fun z => h (V.int.inj z))]
theorem dec_s (a b : Str) : decide (V.str a = V.str b) = decide (a = b) := by
  by_cases h : a = b
  · rw [decide_eq_true h, decide_eq_true (congrArg V.str h)]
  · rw [decide_eq_false h, decide_eq_false (fun z => h (V.str.inj z))]
theorem dec_b (a b : Bool) : decide (V.bl a = V.bl b) = decide (a = b) := by
  by_cases h : a = b
  · rw [decide_eq_true h, decide_eq_true (congrArg V.bl h)]
  · rw [decide_eq_false h, decide_eq_false (fun z => h (V.bl.inj z))]
theorem rv_eqI {a b : Int} : RV rEq (.int a) (.int b) H (.bl (decide (a = b))) := by
  have := rv_eq (H := H) (x := V.int a) (y := V.int b) rfl
  rwa [dec_i] at this
theorem rv_neI {a b : Int} : RV rNe (.int a) (.int b) H (.bl (decide (a ≠ b))) := by
  have := rv_ne (H := H) (x := V.int a) (y := V.int b) rfl
  rw [dec_i, ← decide_not] at this
  exact this
theorem rv_eqS {a b : Str} : RV rEq (.str a) (.str b) H (.bl (decide (a = b))) := by
  have := rv_eq (H := H) (x := V.str a) (y := V.str b) rfl
  rwa [dec_s] at this
theorem rv_neS {a b : Str} : RV rNe (.str a) (.str b) H (.bl (decide (a ≠ b))) := by
  have := rv_ne (H := H) (x := V.str a) (y := V.str b) rfl
  rw [dec_s, ← decide_not] at this
  exact this
theorem rv_eqBl {a b : Bool} : RV rEq (.bl a) (.bl b) H (.bl (decide (a = b))) := by
  have := rv_eq (H := H) (x := V.bl a) (y := V.bl b) rfl
  rwa [dec_b] at this
/-- a test whose value is known to be a proposition's -/
theorem et_yes : EvT tYes σ H true := fun H1 _ Q q => q H1 (Ex.refl H1)

/-! ### items -/
def at0 (ns : List Int) (i : Int) : Int := ns.getD i.toNat 0
theorem atI_at0 {ns : List Int} {i : Int} (h0 : 0 ≤ i) (h1 : i < (ns.length : Int)) : atI (ns.map V.int) i = some (.int (at0 ns i)) := by
  obtain ⟨j, rfl⟩ := Int.eq_ofNat_of_zero_le h0
  have hj : j < ns.length := by omega
  refine atI_nat ?_
  rw [List.getElem?_map, List.getElem?_eq_getElem hj]
  unfold at0
  rw [List.getD_eq_getElem?_getD, Int.toNat_natCast, List.getElem?_eq_getElem hj]
  rfl
theorem ev_ixL {p : Addr} {xs : List V} {i : Int} (ha : Ev ta σ H (.ref p)) (hb : Ev tb σ H (.int i)) (h : SqL K H p xs) (hx : atI xs i = some v) : Ev (tOp (rIxL K) ta tb) σ H v := ev_op ha hb (rv_ixL h hx)
theorem ev_ixT {p : Addr} {xs : List V} {i : Int} (ha : Ev ta σ H (.ref p)) (hb : Ev tb σ H (.int i)) (h : SqT K H p xs) (hx : atI xs i = some v) : Ev (tOp (rIxT K) ta tb) σ H v := ev_op ha hb (rv_ixT h hx)
theorem ev_ixLI {p : Addr} {ns : List Int} {i : Int} (ha : Ev ta σ H (.ref p)) (hb : Ev tb σ H (.int i)) (h : SqL K H p (ns.map V.int)) (h0 : 0 ≤ i) (h1 : i < (ns.length : Int)) : Ev (tOp (rIxL K) ta tb) σ H (.int (at0 ns i)) :=
  ev_ixL ha hb h (atI_at0 h0 h1)
theorem ev_ixTI {p : Addr} {ns : List Int} {i : Int} (ha : Ev ta σ H (.ref p)) (hb : Ev tb σ H (.int i)) (h : SqT K H p (ns.map V.int)) (h0 : 0 ≤ i) (h1 : i < (ns.length : Int)) : Ev (tOp (rIxT K) ta tb) σ H (.int (at0 ns i)) :=
  ev_ixT ha hb h (atI_at0 h0 h1)
theorem ev_lenL {p : Addr} {xs : List V} (ha : Ev ta σ H (.ref p)) (h : SqL K H p xs) : Ev (tCB (rLenS K) (tCons ta tNil)) σ H (.int (xs.length : Int)) := ev_len ha h
theorem ev_lenT {p : Addr} {xs : List V} (ha : Ev ta σ H (.ref p)) (h : SqT K H p xs) : Ev (tCB (rLenS K) (tCons ta tNil)) σ H (.int (xs.length : Int)) :=
  fun H1 e Q q => ha H1 e _ fun H2 e2 => ⟨p, xs, rfl, .inr (ex_t (e.trans e2) h), q H2 e2⟩
theorem ev_lenLI {p : Addr} {ns : List Int} (ha : Ev ta σ H (.ref p)) (h : SqL K H p (ns.map V.int)) : Ev (tCB (rLenS K) (tCons ta tNil)) σ H (.int (ns.length : Int)) := by
  have := ev_lenL ha h
  rwa [List.length_map] at this
theorem ev_lenTI {p : Addr} {ns : List Int} (ha : Ev ta σ H (.ref p)) (h : SqT K H p (ns.map V.int)) : Ev (tCB (rLenS K) (tCons ta tNil)) σ H (.int (ns.length : Int)) := by
  have := ev_lenT ha h
  rwa [List.length_map] at this
theorem ev_lenLP {n : Nat} {P : Nat → V → Hp → Prop} (ha : EvLP ta σ H n P) : Ev (tCB (rLenS K) (tCons ta tNil)) σ H (.int (n : Int)) :=
  fun H1 e Q q => ha H1 e _ fun p H2 vs _ e2 h2 hl _ => ⟨p, vs, rfl, .inl (sq_of h2), by rw [hl]; exact q H2 e2⟩
theorem ev_sumL {p : Addr} {ns : List Int} (ha : Ev ta σ H (.ref p)) (h : SqL K H p (ns.map V.int)) : Ev (tCB (rSum K) (tCons ta tNil)) σ H (.int ns.sum) :=
  fun H1 e Q q => ha H1 e _ fun H2 e2 => ⟨p, ns, rfl, ex_l (e.trans e2) h, q H2 e2⟩
theorem ev_sumN {ns : List Int} (ha : EvL ta σ H (ns.map V.int)) : Ev (tCB (rSum K) (tCons ta tNil)) σ H (.int ns.sum) :=
  fun H1 e Q q => ha H1 e _ fun p H2 _ e2 h2 => ⟨p, ns, rfl, sq_of h2, q H2 e2⟩
def rMin2 : List V → Hp → VK → Prop := fun xs H Q => ∃ i j, xs = [.int i, .int j] ∧ Q (.int (if j < i then j else i)) H
theorem ev_min2 {i j : Int} (ha : Ev ta σ H (.int i)) (hb : Ev tb σ H (.int j)) : Ev (tCB rMin2 (tCons ta (tCons tb tNil))) σ H (.int (if j < i then j else i)) :=
  fun H1 e Q q => ha H1 e _ fun H2 e2 => hb H2 (e.trans e2) _ fun H3 e3 => ⟨i, j, rfl, q H3 (e2.trans e3)⟩
def rInt1 : List V → Hp → VK → Prop := fun xs H Q => (∃ i, xs = [.int i] ∧ Q (.int i) H) ∨ ∃ k, xs = [.bl k] ∧ Q (.int (if k then 1 else 0)) H
theorem ev_intB {k : Bool} (ha : Ev ta σ H (.bl k)) : Ev (tCB rInt1 (tCons ta tNil)) σ H (.int (if k then 1 else 0)) :=
  fun H1 e Q q => ha H1 e _ fun H2 e2 => .inr ⟨k, rfl, q H2 e2⟩
def rTupS (K : PySem.W.Frag) : List V → Hp → VK → Prop := fun xs H Q => ∃ p ys, xs = [.ref p] ∧ ((SqL K H p ys ∧ ∀ l, H l = none → Q (.ref l) (upd H l (.tup ys))) ∨ (SqT K H p ys ∧ Q (.ref p) H))
theorem eu_tupL {xs : List V} (ha : EvL ta σ H xs) : EvU (tCB (rTupS K) (tCons ta tNil)) σ H xs :=
  fun H1 e Q q => ha H1 e _ fun p H2 hp e2 h2 => ⟨p, xs, rfl, .inl ⟨sq_of h2, fun l hl => q l _ (fresh_back e2 hl) (e2.trans (Ex.new hl)) upd_same⟩⟩
theorem eu_tupV {p : Addr} {xs : List V} (ha : Ev ta σ H (.ref p)) (h : SqL K H p xs) : EvU (tCB (rTupS K) (tCons ta tNil)) σ H xs :=
  fun H1 e Q q => ha H1 e _ fun H2 e2 => ⟨p, xs, rfl, .inl ⟨ex_l (e.trans e2) h, fun l hl => q l _ (fresh_back e2 hl) (e2.trans (Ex.new hl)) upd_same⟩⟩
theorem eu_tupT {p : Addr} {xs : List V} (ha : Ev ta σ H (.ref p)) (h : SqT K H p xs) : Ev (tCB (rTupS K) (tCons ta tNil)) σ H (.ref p) :=
  fun H1 e Q q => ha H1 e _ fun H2 e2 => ⟨p, xs, rfl, .inr ⟨ex_t (e.trans e2) h, q H2 e2⟩⟩
theorem eu_rev {p : Addr} {xs : List V} (ha : Ev ta σ H (.ref p)) (h : SqL K H p xs) : EvU (RT.tTupRev K ta) σ H xs.reverse :=
  fun H1 e Q q => ha H1 e _ fun H2 e2 => ⟨p, xs, rfl, ex_l (e.trans e2) h, fun l hl => q l _ (fresh_back e2 hl) (e2.trans (Ex.new hl)) upd_same⟩
theorem el_listT {p : Addr} {xs : List V} (ha : Ev ta σ H (.ref p)) (h : SqT K H p xs) : EvL (tCB (rListS K) (tCons ta tNil)) σ H xs :=
  fun H1 e Q q => ha H1 e _ fun H2 e2 => ⟨p, xs, rfl, .inr (ex_t (e.trans e2) h), fun l hl => q l _ (fresh_back e2 hl) (e2.trans (Ex.new hl)) upd_same⟩
/-- a tuple made of a list of things -/
def TupP (K : PySem.W.Frag) (n : Nat) (P : Nat → V → Hp → Prop) (v : V) (H : Hp) : Prop := ∃ p vs, v = .ref p ∧ SqT K H p vs ∧ vs.length = n ∧ ∀ (i : Nat) (u : V), vs[i]? = some u → P i u H
theorem ep_tupLP {n : Nat} {P : Nat → V → Hp → Prop} (m : ∀ i, Mono (P i)) (ha : EvLP ta σ H n P) : EvP (tCB (rTupS K) (tCons ta tNil)) σ H (TupP K n P) :=
  fun H1 e Q q => ha H1 e _ fun p H2 vs _ e2 h2 hl hP => ⟨p, vs, rfl, .inl ⟨sq_of h2, fun l hl2 => q _ _ (e2.trans (Ex.new hl2)) ⟨l, vs, rfl, st_of upd_same, hl, fun i u hu => m i u _ _ (Ex.new hl2) (hP i u hu)⟩⟩⟩

/-! ### comprehensions -/
theorem given_all (n : Nat) (v : Nat → V) : given n (fun _ => true) v = (List.range n).map v := by
  unfold given
  rw [List.filter_eq_self.mpr (fun _ _ => rfl)]
theorem el_mapR {ta : TA} {j : Nat} {vs : List Nat} {n : Int} (v : Nat → V) (h : EvA ta σ H [.int n]) (hn : 0 ≤ n ∧ n ≤ 40000) (hw : ∀ x, wipe ((wipe σ vs).set j (some x)) vs = wipe σ vs)
    (he : ∀ (i : Nat), (i : Int) < n → Ev te ((wipe σ vs).set j (some (.int (i : Int)))) H (v i)) : EvL (tLc (iRng1 ta) (gName j) tYes te vs) σ H ((List.range n.toNat).map v) := by
  rw [← given_all]
  exact el_lcR1 _ v h hn hw (fun _ _ _ _ => et_yes) (fun i H1 e hi _ => (he i hi).mono e)
theorem given_map (xs : List V) (f : Nat → Bool) (v : Nat → V) : (given xs.length f v).length ≤ xs.length := given_len _ f v
/-- what stands besides lists -/
def ExI (H H' : Hp) : Prop := ∀ b o, H b = some o → (∀ xs, o ≠ .lst xs) → H' b = some o
theorem ExI.of (e : Ex H H') : ExI H H' := fun b o h _ => e b o h
theorem ExI.refl : ExI H H := fun _ _ h _ => h
theorem ExI.trans {H1 H2 H3 : Hp} (a : ExI H1 H2) (b : ExI H2 H3) : ExI H1 H3 := fun c o h n => b c o (a c o h n) n
theorem ExI.upd {l : Addr} {xs ys : List V} (h : H l = some (.lst xs)) : ExI H (upd H l (.lst ys)) := fun b o hb n => by
  rw [upd_ne (show b ≠ l from fun e => by rw [e, h] at hb; exact n xs (Option.some.inj hb).symm)]
  exact hb
theorem ExI.upd' {l : Addr} {xs ys : List V} (e : ExI H H') (h : H' l = some (.lst xs)) : ExI H (L2.upd H' l (.lst ys)) := e.trans (ExI.upd h)
def Imm (P : V → Hp → Prop) : Prop := ∀ v H H', ExI H H' → P v H → P v H'
theorem Imm.mono {P : V → Hp → Prop} (m : Imm P) : Mono P := fun v H H' e p => m v H H' (ExI.of e) p
theorem ExI.rd {a : Addr} {u : HO} (e : ExI H H') (h : Rd H a u) (n : ∀ xs, u ≠ .lst xs) : Rd H' a u := by
  rcases h with h | ⟨o, h⟩
  · exact .inl (e a u h n)
  · exact .inr ⟨o, e a _ h (by intro xs z; cases z)⟩
theorem ExI.seqT {a : Addr} {xs : List V} (e : ExI H H') (h : SqT K H a xs) : SqT K H' a xs := by
  rcases h with h | h
  · exact .inl (e.rd h (by intro ys z; cases z))
  · exact .inr h
def CwP (H : Hp) (P : Nat → V → Hp → Prop) (Dl : Addr) (i : Nat) (H' : Hp) : Prop := H Dl = none ∧ Ex H H' ∧ ∃ vs, H' Dl = some (.lst vs) ∧ vs.length = i ∧ ∀ (k : Nat) (v : V), vs[k]? = some v → P k v H'
theorem cwP_turn {H H' : Hp} {P : Nat → V → Hp → Prop} (m : ∀ i, Imm (P i)) {Dl : Addr} {i : Nat} {σ2 : L2.St} (p : CwP H P Dl i H') (hi : i < 50000) (he : EvP te σ2 H (P i)) :
    te σ2 H' fun y H4 => ∃ acc, H4 Dl = some (.lst acc) ∧ acc.length < sizeLine ∧ CwP H P Dl (i + 1) (upd H4 Dl (.lst (acc ++ [y]))) := by
  obtain ⟨p1, p2, vs, p3, p4, p5⟩ := p
  refine he H' p2 _ fun y H4 e4 hy => ⟨vs, e4 Dl _ p3, sz_lt (by omega), p1, Ex.mut (p2.trans e4) p1, vs ++ [y], upd_same, by rw [List.length_append, p4]; rfl, fun k v hk => ?_⟩
  have hu : ExI H4 (upd H4 Dl (.lst (vs ++ [y]))) := ExI.upd (e4 Dl _ p3)
  rcases Nat.lt_or_ge k vs.length with h | h
  · rw [List.getElem?_append_left h] at hk
    exact m k v _ _ hu (m k v _ _ (ExI.of e4) (p5 k v hk))
  · rw [List.getElem?_append_right h] at hk
    have hk0 : k = i := by
      have := (List.getElem?_eq_some_iff.mp hk).1
      simp only [List.length_singleton] at this
      omega
    subst hk0
    have hv : v = y := by
      rw [p4, Nat.sub_self] at hk
      exact (Option.some.inj hk).symm
    subst hv
    exact m k v _ _ hu hy
theorem elp_R {ta : TA} {j : Nat} {vs : List Nat} {n : Int} {P : Nat → V → Hp → Prop} (m : ∀ i, Imm (P i)) (h : EvA ta σ H [.int n]) (hn : 0 ≤ n ∧ n ≤ 40000) (hw : ∀ x, wipe ((wipe σ vs).set j (some x)) vs = wipe σ vs)
    (he : ∀ (i : Nat), (i : Int) < n → EvP te ((wipe σ vs).set j (some (.int (i : Int)))) H (P i)) : EvLP (tLc (iRng1 ta) (gName j) tYes te vs) σ H n.toNat P := fun H0 e Q q => h H0 e _ fun H1 e1 => ⟨n, rfl, by omega, by omega, fun Dl hD =>
  lc_range (lo := 0) (n := n.toNat) (CwP H1 P Dl) ⟨hD, Ex.new hD, [], upd_same, rfl, fun k v hk => by cases hk⟩ (fun i H' hi p => by
    have e0 : (0 : Int) + (i : Int) = (i : Int) := Int.zero_add _
    show wipe ((wipe σ vs).set j (some (.int ((0 : Int) + (i : Int))))) vs = wipe σ vs ∧ te ((wipe σ vs).set j (some (.int ((0 : Int) + (i : Int))))) H' fun y H4 => ∃ acc, H4 Dl = some (.lst acc) ∧ acc.length < sizeLine ∧ CwP H1 P Dl (i + 1) (upd H4 Dl (.lst (acc ++ [y])))
    rw [e0]
    exact ⟨hw _, cwP_turn m p (by omega) ((he i (by omega)).mono (e.trans e1))⟩) (fun H' ⟨p1, p2, ws, p3, p4, p5⟩ => q Dl H' ws (fresh_back e1 p1) (e1.trans p2) p3 p4 p5)⟩
theorem elp_T {a : Addr} {xs : List V} {tl : TE} {j : Nat} {vs : List Nat} {P : Nat → V → Hp → Prop} (m : ∀ i, Imm (P i)) (h : Ev tl σ H (.ref a)) (hx : SqT K H a xs) (hz : xs.length ≤ 40000) (hw : ∀ x, wipe ((wipe σ vs).set j (some x)) vs = wipe σ vs)
    (he : ∀ (i : Nat) (x : V), xs[i]? = some x → EvP te ((wipe σ vs).set j (some x)) H (P i)) : EvLP (tLc (iTup K tl) (gName j) tYes te vs) σ H xs.length P := fun H0 e Q q => h H0 e _ fun H1 e1 => ⟨a, rfl, ⟨xs, ex_t (e.trans e1) hx⟩, fun Dl hD =>
  lc_tup (xs := xs) (CwP H1 P Dl) ⟨hD, Ex.new hD, [], upd_same, rfl, fun k v hk => by cases hk⟩ (fun i H' _ p => ex_t ((e.trans e1).trans p.2.1) hx)
    (fun i x H' hi p => ⟨hw x, cwP_turn m p (by have := (List.getElem?_eq_some_iff.mp hi).1; omega) ((he i x hi).mono (e.trans e1))⟩) (fun H' ⟨p1, p2, ws, p3, p4, p5⟩ => q Dl H' ws (fresh_back e1 p1) (e1.trans p2) p3 p4 p5)⟩
theorem elp_L {a : Addr} {xs : List V} {tl : TE} {j : Nat} {vs : List Nat} {P : Nat → V → Hp → Prop} (m : ∀ i, Imm (P i)) (h : Ev tl σ H (.ref a)) (hx : SqL K H a xs) (hz : xs.length ≤ 40000) (hw : ∀ x, wipe ((wipe σ vs).set j (some x)) vs = wipe σ vs)
    (he : ∀ (i : Nat) (x : V), xs[i]? = some x → EvP te ((wipe σ vs).set j (some x)) H (P i)) : EvLP (tLc (iList K tl) (gName j) tYes te vs) σ H xs.length P := fun H0 e Q q => h H0 e _ fun H1 e1 => ⟨a, rfl, ⟨xs, ex_l (e.trans e1) hx⟩, fun Dl hD =>
  lc_list (xs := xs) (CwP H1 P Dl) ⟨hD, Ex.new hD, [], upd_same, rfl, fun k v hk => by cases hk⟩ (fun i H' _ p => ex_l ((e.trans e1).trans p.2.1) hx)
    (fun i x H' hi p => ⟨hw x, cwP_turn m p (by have := (List.getElem?_eq_some_iff.mp hi).1; omega) ((he i x hi).mono (e.trans e1))⟩) (fun H' ⟨p1, p2, ws, p3, p4, p5⟩ => q Dl H' ws (fresh_back e1 p1) (e1.trans p2) p3 p4 p5)⟩
/-- values over a tuple, with a test -/
theorem el_lcT {a : Addr} {xs : List V} {tl : TE} {j : Nat} {vs : List Nat} (f : Nat → Bool) (v : Nat → V) (h : Ev tl σ H (.ref a)) (hx : SqT K H a xs) (hz : xs.length ≤ 40000) (hw : ∀ x, wipe ((wipe σ vs).set j (some x)) vs = wipe σ vs)
    (ht : ∀ (i : Nat) (x : V) H1, Ex H H1 → xs[i]? = some x → EvT t ((wipe σ vs).set j (some x)) H1 (f i)) (he : ∀ (i : Nat) (x : V) H1, Ex H H1 → xs[i]? = some x → f i = true → Ev te ((wipe σ vs).set j (some x)) H1 (v i)) :
    EvL (tLc (iTup K tl) (gName j) t te vs) σ H (given xs.length f v) := fun H0 e Q q => h H0 e _ fun H1 e1 => ⟨a, rfl, ⟨xs, ex_t (e.trans e1) hx⟩, fun Dl hD =>
  lc_tup (xs := xs) (Cw H1 f v Dl) ⟨hD, Ex.new hD, upd_same⟩ (fun i H' _ p => ex_t ((e.trans e1).trans p.2.1) hx) (fun i x H' hi p => ⟨hw x, cw_turn p (by have := (List.getElem?_eq_some_iff.mp hi).1; omega) (ht i x H1 (e.trans e1) hi) (fun hf => he i x H1 (e.trans e1) hi hf)⟩)
    (fun H' p => q Dl H' (fresh_back e1 p.1) (e1.trans p.2.1) p.2.2)⟩
theorem given_none (n : Nat) (v : Nat → V) : given n (fun _ => false) v = [] := by
  unfold given
  rw [List.filter_eq_nil_iff.mpr (fun _ _ => by simp)]
  rfl
theorem map_at0 (ns : List Int) (g : Int → V) : (List.range ns.length).map (fun i : Nat => g (at0 ns (i : Int))) = ns.map g := by
  apply List.ext_getElem
  · simp
  · intro i h1 h2
    simp only [List.length_map] at h2
    simp [at0, h2]
theorem at0_of {ns : List Int} {i : Nat} {x : V} (h : (ns.map V.int)[i]? = some x) : x = .int (at0 ns (i : Int)) ∧ i < ns.length := by
  have hl := (List.getElem?_eq_some_iff.mp h).1
  rw [List.length_map] at hl
  rw [List.getElem?_map, List.getElem?_eq_getElem hl] at h
  refine ⟨?_, hl⟩
  rw [← Option.some.inj h]
  unfold at0
  rw [List.getD_eq_getElem?_getD, Int.toNat_natCast, List.getElem?_eq_getElem hl]
  rfl
theorem el_mapT {a : Addr} {ns : List Int} {tl : TE} {j : Nat} {vs : List Nat} (g : Int → V) (h : Ev tl σ H (.ref a)) (hx : SqT K H a (ns.map V.int)) (hz : ns.length ≤ 40000) (hw : ∀ x, wipe ((wipe σ vs).set j (some x)) vs = wipe σ vs)
    (he : ∀ (x : Int), x ∈ ns → Ev te ((wipe σ vs).set j (some (.int x))) H (g x)) : EvL (tLc (iTup K tl) (gName j) tYes te vs) σ H (ns.map g) := by
  have := el_lcT (t := tYes) (te := te) (fun _ => true) (fun i : Nat => g (at0 ns (i : Int))) h hx (by rw [List.length_map]; exact hz) hw (fun _ _ _ _ _ => et_yes) (fun i x H1 e hi _ => by
    obtain ⟨rfl, hl⟩ := at0_of hi
    refine (he _ ?_).mono e
    unfold at0
    rw [List.getD_eq_getElem?_getD, Int.toNat_natCast, List.getElem?_eq_getElem hl]
    exact List.getElem_mem hl)
  rwa [given_all, List.length_map, map_at0] at this
theorem el_mapL {a : Addr} {ns : List Int} {tl : TE} {j : Nat} {vs : List Nat} (g : Int → V) (h : Ev tl σ H (.ref a)) (hx : SqL K H a (ns.map V.int)) (hz : ns.length ≤ 40000) (hw : ∀ x, wipe ((wipe σ vs).set j (some x)) vs = wipe σ vs)
    (he : ∀ (x : Int), x ∈ ns → Ev te ((wipe σ vs).set j (some (.int x))) H (g x)) : EvL (tLc (iList K tl) (gName j) tYes te vs) σ H (ns.map g) := by
  have := el_lcL (t := tYes) (te := te) (fun _ => true) (fun i : Nat => g (at0 ns (i : Int))) h hx (by rw [List.length_map]; exact hz) hw (fun _ _ _ _ _ => et_yes) (fun i x H1 e hi _ => by
    obtain ⟨rfl, hl⟩ := at0_of hi
    refine (he _ ?_).mono e
    unfold at0
    rw [List.getD_eq_getElem?_getD, Int.toNat_natCast, List.getElem?_eq_getElem hl]
    exact List.getElem_mem hl)
  rwa [given_all, List.length_map, map_at0] at this
end

/-! ### statements over every further heap -/
def Go (t : TS) (D : Ends) (σ : L2.St) (H : Hp) : Prop := ∀ H1, Ex H H1 → t D σ H1
def GoN (D : Ends) (σ : L2.St) (H : Hp) : Prop := ∀ H1, Ex H H1 → D.nx σ H1
section
variable {K : PySem.W.Frag} {σ : L2.St} {H H' : Hp} {ta tb te tx : TE} {t u : TT} {x y z v : V} {r : R2} {P : V → Hp → Prop} {D : Ends} {tu tw tz : TS} {g : TG}
theorem Go.at (h : Go tu D σ H) : tu D σ H := h H (Ex.refl H)
theorem Go.mono (e : Ex H H') (h : Go tu D σ H) : Go tu D σ H' := fun H1 e1 => h H1 (e.trans e1)
theorem go_next (h : GoN D σ H) : Go tNext D σ H := h
theorem gn_of (h : ∀ H1, Ex H H1 → D.nx σ H1) : GoN D σ H := h
theorem go_asg {i : Nat} (h : Ev te σ H v) (k : Go tz D (σ.set i (some v)) H) : Go (tSeq (tAsg te (gName i)) tz) D σ H := fun H1 e => q_asg (h.mono e) fun H2 e2 => k H2 (e.trans e2)
theorem gl_asg {i : Nat} (h : Ev te σ H v) (k : GoN D (σ.set i (some v)) H) : Go (tAsg te (gName i)) D σ H := fun H1 e => s_asg (h.mono e) fun H2 e2 => k H2 (e.trans e2)
theorem go_asgL {i : Nat} {xs : List V} (h : EvL te σ H xs) (k : ∀ p H1, H p = none → Ex H H1 → H1 p = some (.lst xs) → Go tz D (σ.set i (some (.ref p))) H1) : Go (tSeq (tAsg te (gName i)) tz) D σ H :=
  fun H1 e => q_asgL (h.mono e) fun p H2 hp e2 h2 => k p H2 (fresh_back e hp) (e.trans e2) h2 H2 (Ex.refl H2)
theorem gl_asgL {i : Nat} {xs : List V} (h : EvL te σ H xs) (k : ∀ p H1, H p = none → Ex H H1 → H1 p = some (.lst xs) → GoN D (σ.set i (some (.ref p))) H1) : Go (tAsg te (gName i)) D σ H :=
  fun H1 e => s_asgL (h.mono e) fun p H2 hp e2 h2 => k p H2 (fresh_back e hp) (e.trans e2) h2 H2 (Ex.refl H2)
theorem go_asgU {i : Nat} {xs : List V} (h : EvU te σ H xs) (k : ∀ p H1, H p = none → Ex H H1 → H1 p = some (.tup xs) → Go tz D (σ.set i (some (.ref p))) H1) : Go (tSeq (tAsg te (gName i)) tz) D σ H :=
  fun H1 e => q_asgU (EvU.mono e h) fun p H2 hp e2 h2 => k p H2 (fresh_back e hp) (e.trans e2) h2 H2 (Ex.refl H2)
theorem gl_asgU {i : Nat} {xs : List V} (h : EvU te σ H xs) (k : ∀ p H1, H p = none → Ex H H1 → H1 p = some (.tup xs) → GoN D (σ.set i (some (.ref p))) H1) : Go (tAsg te (gName i)) D σ H :=
  fun H1 e => s_asgU (EvU.mono e h) fun p H2 hp e2 h2 => k p H2 (fresh_back e hp) (e.trans e2) h2 H2 (Ex.refl H2)
theorem go_asgP {i : Nat} (h : EvP te σ H P) (k : ∀ v H1, Ex H H1 → P v H1 → Go tz D (σ.set i (some v)) H1) : Go (tSeq (tAsg te (gName i)) tz) D σ H :=
  fun H1 e => h H1 e _ fun v H2 e2 p => k v H2 (e.trans e2) p H2 (Ex.refl H2)
theorem gl_asgP {i : Nat} (h : EvP te σ H P) (k : ∀ v H1, Ex H H1 → P v H1 → GoN D (σ.set i (some v)) H1) : Go (tAsg te (gName i)) D σ H :=
  fun H1 e => h H1 e _ fun v H2 e2 p => k v H2 (e.trans e2) p H2 (Ex.refl H2)
theorem go_if {b : Bool} (h : EvT t σ H b) (h1 : b = true → Go tu { D with nx := tz D } σ H) (h2 : b = false → Go tw { D with nx := tz D } σ H) : Go (tSeq (tIfS t tu tw) tz) D σ H :=
  fun H1 e => q_if (h.mono e) (fun hb H2 e2 => h1 hb H2 (e.trans e2)) (fun hb H2 e2 => h2 hb H2 (e.trans e2))
theorem gl_if {b : Bool} (h : EvT t σ H b) (h1 : b = true → Go tu D σ H) (h2 : b = false → Go tw D σ H) : Go (tIfS t tu tw) D σ H :=
  fun H1 e => s_if (h.mono e) (fun hb H2 e2 => h1 hb H2 (e.trans e2)) (fun hb H2 e2 => h2 hb H2 (e.trans e2))
/-- if, its test a proposition's -/
theorem go_ifd {p : Prop} [Decidable p] (h : EvT t σ H (decide p)) (h1 : p → Go tu { D with nx := tz D } σ H) (h2 : ¬ p → Go tw { D with nx := tz D } σ H) : Go (tSeq (tIfS t tu tw) tz) D σ H :=
  go_if h (fun e => h1 (of_decide_eq_true e)) (fun e => h2 (of_decide_eq_false e))
theorem gl_ifd {p : Prop} [Decidable p] (h : EvT t σ H (decide p)) (h1 : p → Go tu D σ H) (h2 : ¬ p → Go tw D σ H) : Go (tIfS t tu tw) D σ H :=
  gl_if h (fun e => h1 (of_decide_eq_true e)) (fun e => h2 (of_decide_eq_false e))
theorem go_ret (h : Ev te σ H v) (k : ∀ H1, Ex H H1 → D.rt v H1) : Go (tRet te) D σ H := fun H1 e => s_ret (h.mono e) fun H2 e2 => k H2 (e.trans e2)
theorem go_retL {xs : List V} (h : EvL te σ H xs) (k : ∀ p H1, H p = none → Ex H H1 → H1 p = some (.lst xs) → D.rt (.ref p) H1) : Go (tRet te) D σ H := fun H1 e => s_retL (h.mono e) fun p H2 hp e2 h2 => k p H2 (fresh_back e hp) (e.trans e2) h2
theorem go_retU {xs : List V} (h : EvU te σ H xs) (k : ∀ p H1, H p = none → Ex H H1 → H1 p = some (.tup xs) → D.rt (.ref p) H1) : Go (tRet te) D σ H := fun H1 e => s_retU (EvU.mono e h) fun p H2 hp e2 h2 => k p H2 (fresh_back e hp) (e.trans e2) h2
theorem go_retP (h : EvP te σ H P) (k : ∀ v H1, Ex H H1 → P v H1 → D.rt v H1) : Go (tRet te) D σ H := fun H1 e => h H1 e _ fun v H2 e2 p => k v H2 (e.trans e2) p
theorem go_drop (h : Ev te σ H v) (k : Go tz D σ H) : Go (tSeq (tDrop te) tz) D σ H := fun H1 e => q_drop (h.mono e) fun H2 e2 => k H2 (e.trans e2)
theorem go_app {l : Addr} {xs : List V} (hl : H l = some (.lst xs)) (ha : Ev ta σ H (.ref l)) (h : Ev te σ H v) (hz : xs.length < 100000) (k : ∀ H1, Ex H H1 → Go tz D σ (upd H1 l (.lst (xs ++ [v])))) :
    Go (tSeq (tDrop (tBM K "list" rAppend ta (tCons te tNil))) tz) D σ H := fun H1 e => q_app (e l _ hl) (ha.mono e) (h.mono e) hz fun H2 e2 => k H2 (e.trans e2) _ (Ex.refl _)
theorem gl_app {l : Addr} {xs : List V} (hl : H l = some (.lst xs)) (ha : Ev ta σ H (.ref l)) (h : Ev te σ H v) (hz : xs.length < 100000) (k : ∀ H1, Ex H H1 → GoN D σ (upd H1 l (.lst (xs ++ [v])))) :
    Go (tDrop (tBM K "list" rAppend ta (tCons te tNil))) D σ H := fun H1 e => s_app (e l _ hl) (ha.mono e) (h.mono e) hz fun H2 e2 => k H2 (e.trans e2) _ (Ex.refl _)
theorem gl_appP {l : Addr} {xs : List V} (hl : H l = some (.lst xs)) (ha : Ev ta σ H (.ref l)) (h : EvP te σ H P) (hz : xs.length < 100000) (k : ∀ v H1, Ex H H1 → P v H1 → GoN D σ (upd H1 l (.lst (xs ++ [v])))) :
    Go (tDrop (tBM K "list" rAppend ta (tCons te tNil))) D σ H := fun H1 e => ha H1 e _ fun H2 e2 => ⟨.inl ⟨rfl, xs, sq_of (e2 l _ (e l _ hl))⟩, h H2 (e.trans e2) _ fun v H3 e3 p =>
      ⟨l, xs, v, rfl, rfl, e3 l _ (e2 l _ (e l _ hl)), sz_lt hz, k v H3 ((e.trans e2).trans e3) p _ (Ex.refl _)⟩⟩
theorem go_appP {l : Addr} {xs : List V} (hl : H l = some (.lst xs)) (ha : Ev ta σ H (.ref l)) (h : EvP te σ H P) (hz : xs.length < 100000) (k : ∀ v H1, Ex H H1 → P v H1 → Go tz D σ (upd H1 l (.lst (xs ++ [v])))) :
    Go (tSeq (tDrop (tBM K "list" rAppend ta (tCons te tNil))) tz) D σ H := gl_appP (D := { D with nx := tz D }) hl ha h hz k
theorem go_setL {l : Addr} {xs : List V} {i : Int} (hl : H l = some (.lst xs)) (h : Ev te σ H v) (ho : Ev ta σ H (.ref l)) (hi : Ev tb σ H (.int i)) (h0 : 0 ≤ i) (h1 : i < (xs.length : Int)) (k : ∀ H1, Ex H H1 → Go tz D σ (upd H1 l (.lst (xs.set i.toNat v)))) :
    Go (tSeq (tAsg te (gSub ta tb rSetL)) tz) D σ H := by
  obtain ⟨j, rfl⟩ := Int.eq_ofNat_of_zero_le h0
  exact fun H1 e => q_setL (e l _ hl) (h.mono e) (ho.mono e) (hi.mono e) (by omega) fun H2 e2 => k H2 (e.trans e2) _ (Ex.refl _)
theorem gl_setL {l : Addr} {xs : List V} {i : Int} (hl : H l = some (.lst xs)) (h : Ev te σ H v) (ho : Ev ta σ H (.ref l)) (hi : Ev tb σ H (.int i)) (h0 : 0 ≤ i) (h1 : i < (xs.length : Int)) (k : ∀ H1, Ex H H1 → GoN D σ (upd H1 l (.lst (xs.set i.toNat v)))) :
    Go (tAsg te (gSub ta tb rSetL)) D σ H := by
  obtain ⟨j, rfl⟩ := Int.eq_ofNat_of_zero_le h0
  exact fun H1 e => s_setL (e l _ hl) (h.mono e) (ho.mono e) (hi.mono e) (by omega) fun H2 e2 => k H2 (e.trans e2) _ (Ex.refl _)
theorem go_forR1 {ta : TA} {j : Nat} {n : Int} (h : EvA ta σ H [.int n]) (hn : 0 ≤ n ∧ n ≤ 100000) (Pv : Nat → L2.St → Hp → Prop) (h0 : ∀ H1, Ex H H1 → Pv 0 σ H1)
    (hs : ∀ (i : Nat) σ' H', (i : Int) < n → Pv i σ' H' → Go tu { D with nx := Pv (i + 1), ct := Pv (i + 1), bk := tz D } (σ'.set j (some (.int (i : Int)))) H') (hd : ∀ σ' H', Pv n.toNat σ' H' → Go tz D σ' H') : Go (tSeq (tFor (iRng1 ta) (gName j) tu) tz) D σ H :=
  fun H1 e => q_forR1 (h.mono e) hn Pv (fun H2 e2 => h0 H2 (e.trans e2)) (fun i σ' H' hi p => (hs i σ' H' hi p).at) (fun σ' H' p => (hd σ' H' p).at)
theorem gl_forR1 {ta : TA} {j : Nat} {n : Int} (h : EvA ta σ H [.int n]) (hn : 0 ≤ n ∧ n ≤ 100000) (Pv : Nat → L2.St → Hp → Prop) (h0 : ∀ H1, Ex H H1 → Pv 0 σ H1)
    (hs : ∀ (i : Nat) σ' H', (i : Int) < n → Pv i σ' H' → Go tu { D with nx := Pv (i + 1), ct := Pv (i + 1), bk := D.nx } (σ'.set j (some (.int (i : Int)))) H') (hd : ∀ σ' H', Pv n.toNat σ' H' → GoN D σ' H') : Go (tFor (iRng1 ta) (gName j) tu) D σ H :=
  fun H1 e => s_forR1 (h.mono e) hn Pv (fun H2 e2 => h0 H2 (e.trans e2)) (fun i σ' H' hi p => (hs i σ' H' hi p).at) (fun σ' H' p => hd σ' H' p H' (Ex.refl H'))
theorem go_forT {a : Addr} {xs : List V} {tl : TE} {j : Nat} (h : Ev tl σ H (.ref a)) (hx : SqT K H a xs) (Pv : Nat → L2.St → Hp → Prop) (h0 : ∀ H1, Ex H H1 → Pv 0 σ H1) (hl : ∀ i σ' H', i ≤ xs.length → Pv i σ' H' → SqT K H' a xs)
    (hs : ∀ i x σ' H', xs[i]? = some x → Pv i σ' H' → Go tu { D with nx := Pv (i + 1), ct := Pv (i + 1), bk := tz D } (σ'.set j (some x)) H') (hd : ∀ σ' H', Pv xs.length σ' H' → Go tz D σ' H') : Go (tSeq (tFor (iTup K tl) (gName j) tu) tz) D σ H :=
  fun H1 e => q_forT (h.mono e) (ex_t e hx) Pv (fun H2 e2 => h0 H2 (e.trans e2)) hl (fun i x σ' H' hi p => (hs i x σ' H' hi p).at) (fun σ' H' p => (hd σ' H' p).at)
theorem go_forL {a : Addr} {xs : List V} {tl : TE} {j : Nat} (h : Ev tl σ H (.ref a)) (hx : SqL K H a xs) (Pv : Nat → L2.St → Hp → Prop) (h0 : ∀ H1, Ex H H1 → Pv 0 σ H1) (hl : ∀ i σ' H', i ≤ xs.length → Pv i σ' H' → SqL K H' a xs)
    (hs : ∀ i x σ' H', xs[i]? = some x → Pv i σ' H' → Go tu { D with nx := Pv (i + 1), ct := Pv (i + 1), bk := tz D } (σ'.set j (some x)) H') (hd : ∀ σ' H', Pv xs.length σ' H' → Go tz D σ' H') : Go (tSeq (tFor (iList K tl) (gName j) tu) tz) D σ H :=
  fun H1 e => q_forL (h.mono e) (ex_l e hx) Pv (fun H2 e2 => h0 H2 (e.trans e2)) hl (fun i x σ' H' hi p => (hs i x σ' H' hi p).at) (fun σ' H' p => (hd σ' H' p).at)
/-- the loop inside another loop: the last statement of a body -/
theorem gl_forT {a : Addr} {xs : List V} {tl : TE} {j : Nat} (h : Ev tl σ H (.ref a)) (hx : SqT K H a xs) (Pv : Nat → L2.St → Hp → Prop) (h0 : ∀ H1, Ex H H1 → Pv 0 σ H1) (hl : ∀ i σ' H', i ≤ xs.length → Pv i σ' H' → SqT K H' a xs)
    (hs : ∀ i x σ' H', xs[i]? = some x → Pv i σ' H' → Go tu { D with nx := Pv (i + 1), ct := Pv (i + 1), bk := D.nx } (σ'.set j (some x)) H') (hd : ∀ σ' H', Pv xs.length σ' H' → GoN D σ' H') : Go (tFor (iTup K tl) (gName j) tu) D σ H :=
  fun H1 e => s_forT (h.mono e) (ex_t e hx) Pv (fun H2 e2 => h0 H2 (e.trans e2)) hl (fun i x σ' H' hi p => (hs i x σ' H' hi p).at) (fun σ' H' p => hd σ' H' p H' (Ex.refl H'))
theorem go_while (W : Nat → L2.St → Hp → Prop) (m0 : Nat) (h0 : ∀ H1, Ex H H1 → W m0 σ H1)
    (hs : ∀ m σ' H', W m σ' H' → ∃ b, EvT t σ' H' b ∧ (b = true → ∃ N : L2.St → Hp → Prop, (∀ σ2 H2, N σ2 H2 → ∃ m', m' < m ∧ W m' σ2 H2) ∧ Go tu { D with nx := N, ct := N, bk := tz D } σ' H') ∧ (b = false → Go tz D σ' H')) : Go (tSeq (tWhile t tu) tz) D σ H :=
  fun H1 e => q_while W m0 (h0 H1 e) fun m σ' H' hw => by
    obtain ⟨b, hb, h1, h2⟩ := hs m σ' H' hw
    exact ⟨b, hb, fun e H2 e2 => by obtain ⟨N, hN, k⟩ := h1 e; exact ⟨N, hN, k H2 e2⟩, fun e H2 e2 => h2 e H2 e2⟩
end

/-! ### boards -/
def rowOf (w : Nat) (f : Int → Int) : List Int := (List.range w).map fun x : Nat => f (x : Int)
def mk (h w : Nat) (f : Int → Int → Int) : List (List Int) := (List.range h).map fun y : Nat => rowOf w (f (y : Int))
def RwV (K : PySem.W.Frag) (r : List Int) (v : V) (H : Hp) : Prop := ∃ a, v = .ref a ∧ SqT K H a (r.map V.int)
def BdV (K : PySem.W.Frag) (B : List (List Int)) (v : V) (H : Hp) : Prop := ∃ p vs, v = .ref p ∧ SqT K H p vs ∧ vs.length = B.length ∧ ∀ (i : Nat) (u : V) (r : List Int), vs[i]? = some u → B[i]? = some r → RwV K r u H
section
variable {K : PySem.W.Frag} {σ : L2.St} {H H' : Hp} {ta tb te tx ty : TE} {t u : TT} {x y z v : V} {B C : List (List Int)}
theorem rw_imm (r : List Int) : Imm (RwV K r) := fun v H H' e ⟨a, h, hs⟩ => ⟨a, h, e.seqT hs⟩
theorem bd_imm (B : List (List Int)) : Imm (BdV K B) := fun v H H' e ⟨p, vs, h, hs, hl, hr⟩ => ⟨p, vs, h, e.seqT hs, hl, fun i u r h1 h2 => rw_imm r u H H' e (hr i u r h1 h2)⟩
theorem BdV.up (e : Ex H H') (h : BdV K B v H) : BdV K B v H' := bd_imm B v H H' (ExI.of e) h
theorem len_mk (h w : Nat) (f : Int → Int → Int) : (mk h w f).length = h := by unfold mk; simp
theorem len_rowOf (w : Nat) (f : Int → Int) : (rowOf w f).length = w := by unfold rowOf; simp
theorem mk_get {h w : Nat} {f : Int → Int → Int} {i : Nat} (hi : i < h) : (mk h w f)[i]? = some (rowOf w (f (i : Int))) := by
  unfold mk
  rw [List.getElem?_map, List.getElem?_range hi]
  rfl
theorem at0_rowOf {w : Nat} {f : Int → Int} {i : Int} (h0 : 0 ≤ i) (h1 : i < (w : Int)) : at0 (rowOf w f) i = f i := by
  obtain ⟨j, rfl⟩ := Int.eq_ofNat_of_zero_le h0
  have hj : j < w := by omega
  unfold at0 rowOf
  rw [List.getD_eq_getElem?_getD, List.getElem?_map, Int.toNat_natCast, List.getElem?_range hj]
  rfl
theorem bd_of {h w : Nat} {f : Int → Int → Int} (hp : TupP K h (fun i => RwV K (rowOf w (f (i : Int)))) v H) : BdV K (mk h w f) v H := by
  obtain ⟨p, vs, rfl, hs, hl, hr⟩ := hp
  refine ⟨p, vs, rfl, hs, by rw [len_mk, hl], fun i u r h1 h2 => ?_⟩
  have hi : i < h := by rw [← hl]; exact (List.getElem?_eq_some_iff.mp h1).1
  rw [mk_get hi] at h2
  rw [← Option.some.inj h2]
  exact hr i u h1
theorem bd_row {i : Nat} {r : List Int} {p : Addr} {vs : List V} (hl : vs.length = B.length) (hr : ∀ (i : Nat) (u : V) (r : List Int), vs[i]? = some u → B[i]? = some r → RwV K r u H) (h : B[i]? = some r) : ∃ a, vs[i]? = some (.ref a) ∧ SqT K H a (r.map V.int) := by
  have hi : i < vs.length := by rw [hl]; exact (List.getElem?_eq_some_iff.mp h).1
  obtain ⟨a, e, hs⟩ := hr i vs[i] r (List.getElem?_eq_getElem hi) h
  exact ⟨a, by rw [List.getElem?_eq_getElem hi, e], hs⟩
/-- len(board), board[y], board[y][x] -/
theorem ev_lenB (ha : Ev ta σ H v) (hb : BdV K B v H) : Ev (tCB (rLenS K) (tCons ta tNil)) σ H (.int (B.length : Int)) := by
  obtain ⟨p, vs, rfl, hs, hl, _⟩ := hb
  rw [← hl]
  exact ev_lenT ha hs
theorem ev_lenM {h w : Nat} {f : Int → Int → Int} (ha : Ev ta σ H v) (hb : BdV K (mk h w f) v H) : Ev (tCB (rLenS K) (tCons ta tNil)) σ H (.int (h : Int)) := by
  have := ev_lenB ha hb
  rwa [len_mk] at this
theorem ep_row {h w : Nat} {f : Int → Int → Int} {i : Int} (ha : Ev ta σ H v) (hi : Ev ty σ H (.int i)) (hb : BdV K (mk h w f) v H) (h0 : 0 ≤ i) (h1 : i < (h : Int)) :
    ∃ a, Ev (tOp (rIxT K) ta ty) σ H (.ref a) ∧ SqT K H a ((rowOf w (f i)).map V.int) := by
  obtain ⟨j, rfl⟩ := Int.eq_ofNat_of_zero_le h0
  obtain ⟨p, vs, rfl, hs, hl, hr⟩ := hb
  obtain ⟨a, e, q⟩ := bd_row (p := p) hl hr (mk_get (w := w) (f := f) (show j < h by omega))
  exact ⟨a, ev_ixT ha hi hs (atI_nat e), q⟩
theorem ev_cell {h w : Nat} {f : Int → Int → Int} {i j : Int} (ha : Ev ta σ H v) (hy : Ev ty σ H (.int i)) (hx : Ev tx σ H (.int j)) (hb : BdV K (mk h w f) v H) (h0 : 0 ≤ i) (h1 : i < (h : Int)) (h2 : 0 ≤ j) (h3 : j < (w : Int)) :
    Ev (tOp (rIxT K) (tOp (rIxT K) ta ty) tx) σ H (.int (f i j)) := by
  obtain ⟨a, hr, hs⟩ := ep_row ha hy hb h0 h1
  have := ev_ixTI hr hx hs h2 (by rw [len_rowOf]; exact h3)
  rwa [at0_rowOf h2 h3] at this
/-- len(board[0]) -/
theorem ev_wide {h w : Nat} {f : Int → Int → Int} (h0 : 0 < h) (ha : Ev ta σ H v) (hi : Ev ty σ H (.int 0)) (hb : BdV K (mk h w f) v H) : Ev (tCB (rLenS K) (tCons (tOp (rIxT K) ta ty) tNil)) σ H (.int (w : Int)) := by
  obtain ⟨a, hr, hs⟩ := ep_row ha hi hb (Int.le_refl 0) (by omega)
  have := ev_lenTI hr hs
  rwa [len_rowOf] at this
/-- [.. for x in range(w)] as a tuple -/
theorem ep_rowR {w : Nat} {f : Int → Int} {n : Int} {ta : TA} {j : Nat} {vs : List Nat} (hwn : n = (w : Int)) (hn : w ≤ 40000) (h : EvA ta σ H [.int n]) (hw : ∀ x, wipe ((wipe σ vs).set j (some x)) vs = wipe σ vs)
    (he : ∀ (i : Nat), (i : Int) < w → Ev te ((wipe σ vs).set j (some (.int (i : Int)))) H (.int (f (i : Int)))) :
    EvP (tCB (rTupS K) (tCons (tLc (iRng1 ta) (gName j) tYes te vs) tNil)) σ H (RwV K (rowOf w f)) := by
  subst hwn
  refine ep_U (eu_tupL (el_mapR (fun i => V.int (f (i : Int))) h ⟨by omega, by omega⟩ hw he)) fun p H1 e hp => ⟨p, rfl, st_of ?_⟩
  rw [hp, Int.toNat_natCast]
  unfold rowOf
  rw [List.map_map]
  rfl
/-! == of boards, of lists of ints -/
def rwD (r : List Int) : PyData := .tuple (r.map PyData.int)
def bdD (B : List (List Int)) : PyData := .tuple (B.map rwD)
theorem dpI : ∀ (ns : List Int), DpAll K H (ns.map V.int) (ns.map PyData.int)
  | [] => .nil
  | n :: r => .cons (.int n) (dpI r)
theorem rw_dp {r : List Int} (h : RwV K r v H) : Dp K H v (rwD r) := by
  obtain ⟨a, rfl, hs⟩ := h
  exact .tup hs (dpI r)
theorem bd_all : ∀ {vs : List V} {B : List (List Int)}, vs.length = B.length → (∀ (i : Nat) (u : V) (r : List Int), vs[i]? = some u → B[i]? = some r → RwV K r u H) → DpAll K H vs (B.map rwD)
  | [], [], _, _ => .nil
  | [], _ :: _, h, _ => by simp at h
  | _ :: _, [], h, _ => by simp at h
  | u :: vs, r :: B, h, hr => .cons (rw_dp (hr 0 u r rfl rfl)) (bd_all (by simpa using h) fun i u' r' h1 h2 => hr (i + 1) u' r' h1 h2)
theorem bd_dp (h : BdV K B v H) : Dp K H v (bdD B) := by
  obtain ⟨p, vs, rfl, hs, hl, hr⟩ := h
  exact .tup hs (bd_all hl hr)
theorem eqvI : ∀ (ns ms : List Int), PyData.eqvAll (ns.map PyData.int) (ms.map PyData.int) = decide (ns = ms)
  | [], [] => rfl
  | [], _ :: _ => rfl
  | _ :: _, [] => rfl
  | a :: r, b :: s => by
    show (PyData.eqv (.int a) (.int b) && PyData.eqvAll (r.map PyData.int) (s.map PyData.int)) = _
    rw [eqvI r s, show PyData.eqv (.int a) (.int b) = (a == b) from by rw [PyData.eqv]]
    by_cases h1 : a = b <;> by_cases h2 : r = s <;> simp [h1, h2]
theorem eqvB : ∀ (B C : List (List Int)), PyData.eqvAll (B.map rwD) (C.map rwD) = decide (B = C)
  | [], [] => rfl
  | [], _ :: _ => rfl
  | _ :: _, [] => rfl
  | a :: r, b :: s => by
    show (PyData.eqv (rwD a) (rwD b) && PyData.eqvAll (r.map rwD) (s.map rwD)) = _
    rw [eqvB r s, show PyData.eqv (rwD a) (rwD b) = decide (a = b) from by unfold rwD; rw [PyData.eqv, eqvI]]
    by_cases h1 : a = b <;> by_cases h2 : r = s <;> simp [h1, h2]
theorem eqv_bd : PyData.eqv (bdD B) (bdD C) = decide (B = C) := by
  unfold bdD
  rw [PyData.eqv, eqvB]
theorem layI : ∀ (ns : List Int), PyData.canLayAll0 (ns.map PyData.int) = true ∧ PyData.depthAll (ns.map PyData.int) ≤ 1
  | [] => ⟨rfl, by simp [PyData.depthAll]⟩
  | n :: r => by
    obtain ⟨h1, h2⟩ := layI r
    refine ⟨?_, ?_⟩
    · simp [PyData.canLayAll0, PyData.canLay0, h1]
    · simp only [List.map_cons, PyData.depthAll, PyData.depth]
      omega
theorem layB : ∀ (B : List (List Int)), PyData.canLayAll0 (B.map rwD) = true ∧ PyData.depthAll (B.map rwD) ≤ 3
  | [] => ⟨rfl, by simp [PyData.depthAll]⟩
  | b :: r => by
    obtain ⟨h1, h2⟩ := layB r
    obtain ⟨h3, h4⟩ := layI b
    refine ⟨?_, ?_⟩
    · simp [PyData.canLayAll0, PyData.canLay0, rwD, h1, h3]
    · simp only [List.map_cons, PyData.depthAll, PyData.depth, rwD]
      omega
theorem shaped_bd : SeqAt.shaped (bdD B) = true := by
  obtain ⟨h1, h2⟩ := layB B
  unfold SeqAt.shaped bdD
  simp only [PyData.canLay0, PyData.depth, h1, Bool.true_and]
  exact decide_eq_true (by omega)
theorem shaped_rw (r : List Int) : SeqAt.shaped (rwD r) = true := by
  obtain ⟨h1, h2⟩ := layI r
  unfold SeqAt.shaped rwD
  simp only [PyData.canLay0, PyData.depth, h1, Bool.true_and]
  exact decide_eq_true (by omega)
theorem shaped_l (r : List Int) : SeqAt.shaped (.list (r.map PyData.int)) = true := by
  obtain ⟨h1, h2⟩ := layI r
  unfold SeqAt.shaped
  simp only [PyData.canLay0, PyData.depth, h1, Bool.true_and]
  exact decide_eq_true (by omega)
theorem rv_eqB (h1 : BdV K B x H) (h2 : BdV K C y H) : RV (rEqD K) x y H (.bl (decide (B = C))) :=
  fun H1 e Q q => ⟨bdD B, bdD C, bd_dp (h1.up e), bd_dp (h2.up e), shaped_bd, shaped_bd, by rw [eqv_bd]; exact q H1 (Ex.refl H1)⟩
theorem rv_neB (h1 : BdV K B x H) (h2 : BdV K C y H) : RV (rNeD K) x y H (.bl (decide (B ≠ C))) :=
  fun H1 e Q q => ⟨bdD B, bdD C, bd_dp (h1.up e), bd_dp (h2.up e), shaped_bd, shaped_bd, by rw [eqv_bd, ← decide_not]; exact q H1 (Ex.refl H1)⟩
theorem rv_eqL {p q : Addr} {ns ms : List Int} (h1 : SqL K H p (ns.map V.int)) (h2 : SqL K H q (ms.map V.int)) : RV (rEqD K) (.ref p) (.ref q) H (.bl (decide (ns = ms))) :=
  fun H1 e Q k => ⟨_, _, .lst (ex_l e h1) (dpI ns), .lst (ex_l e h2) (dpI ms), shaped_l ns, shaped_l ms, by rw [PyData.eqv, eqvI]; exact k H1 (Ex.refl H1)⟩
theorem rv_neL {p q : Addr} {ns ms : List Int} (h1 : SqL K H p (ns.map V.int)) (h2 : SqL K H q (ms.map V.int)) : RV (rNeD K) (.ref p) (.ref q) H (.bl (decide (ns ≠ ms))) :=
  fun H1 e Q k => ⟨_, _, .lst (ex_l e h1) (dpI ns), .lst (ex_l e h2) (dpI ms), shaped_l ns, shaped_l ms, by rw [PyData.eqv, eqvI, ← decide_not]; exact k H1 (Ex.refl H1)⟩
theorem rv_eqT {ns ms : List Int} (h1 : RwV K ns x H) (h2 : RwV K ms y H) : RV (rEqD K) x y H (.bl (decide (ns = ms))) :=
  fun H1 e Q k => ⟨_, _, rw_dp (rw_imm ns x _ _ (ExI.of e) h1), rw_dp (rw_imm ms y _ _ (ExI.of e) h2), shaped_rw ns, shaped_rw ms, by unfold rwD; rw [PyData.eqv, eqvI]; exact k H1 (Ex.refl H1)⟩
theorem rv_neT {ns ms : List Int} (h1 : RwV K ns x H) (h2 : RwV K ms y H) : RV (rNeD K) x y H (.bl (decide (ns ≠ ms))) :=
  fun H1 e Q k => ⟨_, _, rw_dp (rw_imm ns x _ _ (ExI.of e) h1), rw_dp (rw_imm ms y _ _ (ExI.of e) h2), shaped_rw ns, shaped_rw ms, by unfold rwD; rw [PyData.eqv, eqvI, ← decide_not]; exact k H1 (Ex.refl H1)⟩
/-! isinstance of a value whose type is known -/
theorem rc_isi {x c : V} {t u : Value} {b : Bool} (k : ClsV c u) (ty : ∀ H1, Ex H H1 → TyX K H1 x t) (h : PySem.W.kitOne K t u = some b) : RC (rIsi K) [x, c] H (.bl b) := fun H1 e Q q => ⟨x, c, t, u, b, rfl, k, ty H1 e, h, q H1 (Ex.refl H1)⟩
theorem tyx_t {a : Addr} {xs : List V} (h : SqT K H a xs) : TyX K H (.ref a) (.type "tuple") := by
  rcases h with (h | ⟨o, h⟩) | ⟨o, its, n, h, hc, _⟩
  · exact .base (.tup h)
  · exact .fTuple h
  · exact .kTuple h hc
theorem tyx_l {a : Addr} {xs : List V} (h : SqL K H a xs) : TyX K H (.ref a) (.type "list") := by
  rcases h with (h | ⟨o, h⟩) | ⟨o, its, n, h, hc, _⟩
  · exact .base (.lst h)
  · exact .base (.frz h)
  · exact .kList h hc
end
/-! ### boards that are equal -/
theorem mk_congr {h w : Nat} {f g : Int → Int → Int} (e : ∀ (y x : Int), 0 ≤ y → y < h → 0 ≤ x → x < w → f y x = g y x) : mk h w f = mk h w g := by
  unfold mk rowOf
  apply List.map_congr_left
  intro y hy
  apply List.map_congr_left
  intro x hx
  have h1 := List.mem_range.mp hy
  have h2 := List.mem_range.mp hx
  exact e _ _ (by omega) (by omega) (by omega) (by omega)
theorem mk_inj {h w : Nat} {f g : Int → Int → Int} (e : mk h w f = mk h w g) {y x : Int} (h0 : 0 ≤ y) (h1 : y < h) (h2 : 0 ≤ x) (h3 : x < w) : f y x = g y x := by
  obtain ⟨i, rfl⟩ := Int.eq_ofNat_of_zero_le h0
  have e1 : (mk h w f)[i]? = (mk h w g)[i]? := by rw [e]
  rw [mk_get (show i < h by omega), mk_get (show i < h by omega)] at e1
  have e2 := Option.some.inj e1
  rw [← at0_rowOf (f := f i) h2 h3, ← at0_rowOf (f := g i) h2 h3, e2]
/-! ### calls of builtins, by relations with a name -/
section
variable {X : Cx}
theorem call_lenS : CallR X (.builtin "len") (rLenS X.K) := call_len_seq
theorem call_listS : CallR X (.type "list") (rListS X.K) := call_list_of
theorem call_tupS : CallR X (.type "tuple") (rTupS X.K) := call_tuple_of
theorem call_min2S (hc : X.calm = true) : CallR X (.builtin "min") rMin2 := call_min2 hc
theorem call_int1S : CallR X (.type "int") rInt1 := call_int1
theorem op_geS : OpR X (compareOp .GtE) (rI0 fun i j => .bl (decide (j ≤ i))) := op_ge
end
/-! ### the body's context of a def -/
theorem spv_of {sp : Sp} {vs : List V} {H : Hp} {z : V} (h : ∀ H1, Ex H H1 → ∀ Q : VK, RetV z H1 Q → ∀ E : XK, sp vs H1 Q E) : SpV sp vs H z := h
/-! ### sum of a tuple of ints -/
def rSumT (K : PySem.W.Frag) : List V → Hp → VK → Prop := fun vs H Q => ∃ (a : Addr) (ns : List Int), vs = [V.ref a] ∧ SqT K H a (ns.map V.int) ∧ Q (.int ns.sum) H
theorem cr_sumT {X : Cx} (hc : X.calm = true) : CallR X (.builtin "sum") (rSumT X.K) := by
  intro pins s σ H vs us Q I r h
  obtain ⟨a, ns, rfl, hs, q⟩ := h
  obtain ⟨its, rv, hl, _⟩ := I.tuple hs
  rw [Vals.ref1 r]
  obtain ⟨xs, e⟩ := (Vals.ints rv).allInts.items
  have hn : numsOf (intItems xs).toList = ns := by rw [← e]; exact (Vals.ints rv).numsOf
  rw [nums_intItems] at hn
  rw [e] at hl
  refine PySem.W.ktm_sumG (I.ok.hd hc) hl fun h' tk t' hk => ?_
  rw [preSum_eq, List.take_of_length_le (by simp), hn]
  exact ⟨.int _, H, I.kept hk, ⟨_, rfl⟩, q⟩
section
variable {K : PySem.W.Frag} {σ : L2.St} {H H' : Hp} {ta tb te tx : TE} {t u : TT} {x y z v : V} {r : R2} {P : V → Hp → Prop} {D : Ends} {tu tw tz : TS}
theorem ev_sumT {p : Addr} {ns : List Int} (ha : Ev ta σ H (.ref p)) (h : SqT K H p (ns.map V.int)) : Ev (tCB (rSumT K) (tCons ta tNil)) σ H (.int ns.sum) :=
  fun H1 e Q q => ha H1 e _ fun H2 e2 => ⟨p, ns, rfl, ex_t (e.trans e2) h, q H2 e2⟩
/-- if without else -/
theorem go_when {p : Prop} [Decidable p] (h : EvT t σ H (decide p)) (h1 : p → Go tu { D with nx := tz D } σ H) (h2 : ¬ p → Go tz D σ H) : Go (tSeq (tIfS t tu tNext) tz) D σ H := go_ifd h h1 h2
theorem go_whenb {b : Bool} (h : EvT t σ H b) (h1 : b = true → Go tu { D with nx := tz D } σ H) (h2 : b = false → Go tz D σ H) : Go (tSeq (tIfS t tu tNext) tz) D σ H := go_if h h1 h2
theorem gl_when {p : Prop} [Decidable p] (h : EvT t σ H (decide p)) (h1 : p → Go tu D σ H) (h2 : ¬ p → GoN D σ H) : Go (tIfS t tu tNext) D σ H := gl_ifd h h1 h2
theorem gl_whenb {b : Bool} (h : EvT t σ H b) (h1 : b = true → Go tu D σ H) (h2 : b = false → GoN D σ H) : Go (tIfS t tu tNext) D σ H := gl_if h h1 h2
/-- a test that is false, its branch never taken -/
theorem go_not {b : Bool} (h : EvT t σ H b) (hb : b = false) (h2 : Go tz D σ H) : Go (tSeq (tIfS t tu tNext) tz) D σ H := go_whenb h (fun e => by rw [hb] at e; cases e) (fun _ => h2)
end
/-! ### a word behind an if -/
section
variable {K : PySem.W.Frag} {σ : L2.St} {H H' : Hp} {ta tb te tx : TE} {t u : TT} {D : Ends} {tu tw tz : TS}
theorem go_cut (M : L2.St → Hp → Prop) (h : Go tu { D with nx := M } σ H) (k : ∀ σ' H', M σ' H' → Go tz D σ' H') : Go (tCut tu tz) D σ H := fun H1 e => ⟨M, h H1 e, fun σ' H' m => (k σ' H' m).at⟩
theorem go_cutIf {b : Bool} (M : L2.St → Hp → Prop) (h : EvT t σ H b) (h1 : b = true → Go tu { D with nx := M } σ H) (h2 : b = false → Go tw { D with nx := M } σ H) (k : ∀ σ' H', M σ' H' → Go tz D σ' H') : Go (tCut (tIfS t tu tw) tz) D σ H :=
  go_cut M (gl_if h h1 h2) k
theorem go_cutIfd {p : Prop} [Decidable p] (M : L2.St → Hp → Prop) (h : EvT t σ H (decide p)) (h1 : p → Go tu { D with nx := M } σ H) (h2 : ¬ p → Go tw { D with nx := M } σ H) (k : ∀ σ' H', M σ' H' → Go tz D σ' H') : Go (tCut (tIfS t tu tw) tz) D σ H :=
  go_cut M (gl_ifd h h1 h2) k
end
/-! ### methods of lists as statements -/
def rInsert : V → List V → Hp → VK → Prop := fun x vs H Q => ∃ (l : Addr) (xs : List V) (i : Int) (y : V), x = .ref l ∧ vs = [.int i, y] ∧ H l = some (.lst xs) ∧ xs.length < sizeLine ∧ 0 ≤ i ∧ i < 2 ^ 63 ∧ Q .non (upd H l (.lst (xs.take i.toNat ++ [y] ++ xs.drop i.toNat)))
section
variable {K : PySem.W.Frag} {σ : L2.St} {H H' : Hp} {ta tb te tx : TE} {t u : TT} {x y z v : V} {P : V → Hp → Prop} {D : Ends} {tu tw tz : TS}
theorem gl_rev {l : Addr} {xs : List V} (hl : H l = some (.lst xs)) (ha : Ev ta σ H (.ref l)) (k : ∀ H1, Ex H H1 → GoN D σ (upd H1 l (.lst xs.reverse))) : Go (tDrop (tBM0 K "list" rReverse ta)) D σ H :=
  fun H1 e => ha H1 e _ fun H2 e2 => ⟨.inl ⟨rfl, xs, sq_of (e2 l _ (e l _ hl))⟩, l, xs, rfl, rfl, e2 l _ (e l _ hl), k H2 (e.trans e2) _ (Ex.refl _)⟩
theorem gl_clear {l : Addr} {xs : List V} (hl : H l = some (.lst xs)) (ha : Ev ta σ H (.ref l)) (k : ∀ H1, Ex H H1 → GoN D σ (upd H1 l (.lst []))) : Go (tDrop (tBM0 K "list" rClear ta)) D σ H :=
  fun H1 e => ha H1 e _ fun H2 e2 => ⟨.inl ⟨rfl, xs, sq_of (e2 l _ (e l _ hl))⟩, l, xs, rfl, rfl, e2 l _ (e l _ hl), k H2 (e.trans e2) _ (Ex.refl _)⟩
theorem go_clear {l : Addr} {xs : List V} (hl : H l = some (.lst xs)) (ha : Ev ta σ H (.ref l)) (k : ∀ H1, Ex H H1 → Go tz D σ (upd H1 l (.lst []))) : Go (tSeq (tDrop (tBM0 K "list" rClear ta)) tz) D σ H := gl_clear (D := { D with nx := tz D }) hl ha k
theorem gl_ins0 {l : Addr} {xs : List V} (hl : H l = some (.lst xs)) (ha : Ev ta σ H (.ref l)) (hi : Ev tb σ H (.int 0)) (h : Ev te σ H v) (hz : xs.length < 100000) (k : ∀ H1, Ex H H1 → GoN D σ (upd H1 l (.lst (v :: xs)))) : Go (tDrop (tBM K "list" rInsert ta (tCons tb (tCons te tNil)))) D σ H :=
  fun H1 e => ha H1 e _ fun H2 e2 => ⟨.inl ⟨rfl, xs, sq_of (e2 l _ (e l _ hl))⟩, hi H2 (e.trans e2) _ fun H3 e3 => h H3 ((e.trans e2).trans e3) _ fun H4 e4 =>
    ⟨l, xs, 0, v, rfl, rfl, e4 l _ (e3 l _ (e2 l _ (e l _ hl))), sz_lt hz, by decide, by decide, k H4 (((e.trans e2).trans e3).trans e4) _ (Ex.refl _)⟩⟩
theorem go_ins0 {l : Addr} {xs : List V} (hl : H l = some (.lst xs)) (ha : Ev ta σ H (.ref l)) (hi : Ev tb σ H (.int 0)) (h : Ev te σ H v) (hz : xs.length < 100000) (k : ∀ H1, Ex H H1 → Go tz D σ (upd H1 l (.lst (v :: xs)))) : Go (tSeq (tDrop (tBM K "list" rInsert ta (tCons tb (tCons te tNil)))) tz) D σ H :=
  gl_ins0 (D := { D with nx := tz D }) hl ha hi h hz k
end
theorem mt_insertS {X : Cx} : MtR X "list.insert" rInsert := mt_insert
/-! ### more -/
section
variable {K : PySem.W.Frag} {σ : L2.St} {H H' : Hp} {ta tb te tx : TE} {t u : TT} {x y z v : V} {P : V → Hp → Prop} {D : Ends} {tu tw tz : TS}
def ranI (n : Nat) (f : Int → Int) : List Int := (List.range n).map fun i : Nat => f (i : Int)
theorem len_ranI (n : Nat) (f : Int → Int) : (ranI n f).length = n := by unfold ranI; simp
theorem ranI_succ (n : Nat) (f : Int → Int) : ranI (n + 1) f = ranI n f ++ [f n] := by unfold ranI; rw [List.range_succ, List.map_append]; rfl
theorem at0_ranI {n : Nat} {f : Int → Int} {i : Int} (h0 : 0 ≤ i) (h1 : i < (n : Int)) : at0 (ranI n f) i = f i := at0_rowOf h0 h1
theorem ranI_congr {n : Nat} {f g : Int → Int} (h : ∀ i : Int, 0 ≤ i → i < n → f i = g i) : ranI n f = ranI n g := by
  unfold ranI
  apply List.map_congr_left
  intro i hi
  have := List.mem_range.mp hi
  exact h _ (by omega) (by omega)
theorem el_mapRI {ta : TA} {j : Nat} {vs : List Nat} {n : Int} (f : Int → Int) (h : EvA ta σ H [.int n]) (hn : 0 ≤ n ∧ n ≤ 40000) (hw : ∀ x, wipe ((wipe σ vs).set j (some x)) vs = wipe σ vs)
    (he : ∀ (i : Nat), (i : Int) < n → Ev te ((wipe σ vs).set j (some (.int (i : Int)))) H (.int (f (i : Int)))) : EvL (tLc (iRng1 ta) (gName j) tYes te vs) σ H ((ranI n.toNat f).map V.int) := by
  have := el_mapR (fun i : Nat => V.int (f (i : Int))) h hn hw he
  unfold ranI
  rw [List.map_map]
  exact this
/-- an item of a list that is just made -/
theorem ev_ixNL {xs : List V} {i : Int} (ha : EvL ta σ H xs) (hb : ∀ H1, Ex H H1 → Ev tb σ H1 (.int i)) (hx : atI xs i = some v) : Ev (tOp (rIxL K) ta tb) σ H v := ev_opL1 ha hb fun p H1 hp _ => rv_ixL (sq_of hp) hx
theorem ev_neN {p : Addr} {ns ms : List Int} (ha : Ev ta σ H (.ref p)) (h : SqL K H p (ns.map V.int)) (hb : EvL tb σ H (ms.map V.int)) : Ev (tOp (rNeD K) ta tb) σ H (.bl (decide (ns ≠ ms))) :=
  ev_opL ha hb fun q H1 hq e => rv_neL (ex_l e h) (sq_of hq)
theorem ev_neU {ns ms : List Int} (ha : Ev ta σ H v) (h : RwV K ns v H) (hb : EvU tb σ H (ms.map V.int)) : Ev (tOp (rNeD K) ta tb) σ H (.bl (decide (ns ≠ ms))) :=
  ev_opV ha hb fun q H1 hq e => rv_neT (rw_imm _ _ _ _ (ExI.of e) h) ⟨q, rfl, st_of hq⟩
theorem ev_isiT {a : Addr} {xs : List V} (ha : Ev ta σ H (.ref a)) (h : SqT K H a xs) : Ev (tCB (rIsi K) (tCons ta (tCons (tC (.ty "tuple")) tNil))) σ H (.bl true) :=
  ev_cb (ea_cons ha (ea_cons ev_c ea_nil)) (rc_isi (.ty "tuple") (fun H1 e => tyx_t (ex_t e h)) (kit_ty (by decide +kernel)))
theorem ev_isiL {a : Addr} {xs : List V} (ha : Ev ta σ H (.ref a)) (h : SqL K H a xs) : Ev (tCB (rIsi K) (tCons ta (tCons (tC (.ty "list")) tNil))) σ H (.bl true) :=
  ev_cb (ea_cons ha (ea_cons ev_c ea_nil)) (rc_isi (.ty "list") (fun H1 e => tyx_l (ex_l e h)) (kit_ty (by decide +kernel)))
theorem ev_isiB {b : Bool} (ha : Ev ta σ H (.bl b)) : Ev (tCB (rIsi K) (tCons ta (tCons (tC (.ty "bool")) tNil))) σ H (.bl true) :=
  ev_cb (ea_cons ha (ea_cons ev_c ea_nil)) (rc_isi (.ty "bool") (fun H1 e => .base (.bl b)) (kit_ty (by decide +kernel)))
theorem ev_isiS {x : Str} (ha : Ev ta σ H (.str x)) : Ev (tCB (rIsi K) (tCons ta (tCons (tC (.ty "str")) tNil))) σ H (.bl true) :=
  ev_cb (ea_cons ha (ea_cons ev_c ea_nil)) (rc_isi (.ty "str") (fun H1 e => .base (.str x)) (kit_ty (by decide +kernel)))
/-- a statement ahead of the rest: what it reaches is M -/
theorem go_mid (M : L2.St → Hp → Prop) (h : Go tu { D with nx := M } σ H) (k : ∀ σ' H', M σ' H' → Go tz D σ' H') : Go (tCut tu tz) D σ H := go_cut M h k
end
/-- the law's promise -/
def sp_law (K : PySem.W.Frag) : Sp := fun vs H Q _ => ∃ (a : Addr) (ns : List Int), vs = [.ref a] ∧ SqL K H a (ns.map V.int) ∧ ns.length ≤ 63 ∧ ∀ H', Q (.bl true) H'
theorem sp_law_of {K : PySem.W.Frag} {H : Hp} {a : Addr} {ns : List Int} (hS : SqL K H a (ns.map V.int)) (hl : ns.length ≤ 63) : sp_law K [.ref a] H (fun v _ => v = .bl true) fun _ _ _ => False := ⟨a, ns, rfl, hS, hl, fun _ => rfl⟩
/-- colours -/
theorem col_of (z : Int) : 2 ≤ 2 + z % 2 ∧ 2 + z % 2 ≤ 3 := by
  have h1 := Int.emod_nonneg z (show (2 : Int) ≠ 0 by decide)
  have h2 := Int.emod_lt_of_pos z (show (0 : Int) < 2 by decide)
  omega
theorem col_four {c : Int} (h0 : 2 ≤ c) (h1 : c ≤ 3) : (c = 2 ∧ c * c * c * c = 16) ∨ (c = 3 ∧ c * c * c * c = 81) := by
  rcases (show c = 2 ∨ c = 3 by omega) with rfl | rfl
  · exact .inl ⟨rfl, rfl⟩
  · exact .inr ⟨rfl, rfl⟩
/-! ### a return by cases, a made list of a known kind, a swap, a pop into another list -/
section
variable {K : PySem.W.Frag} {σ : L2.St} {H H' : Hp} {ta tb tc td te tx : TE} {t u : TT} {x y z v : V} {P : V → Hp → Prop} {D : Ends} {tu tw tz : TS}
theorem go_retIf {b : Bool} (h : EvT t σ H b) (h1 : b = true → Go (tRet ta) D σ H) (h2 : b = false → Go (tRet tb) D σ H) : Go (tRet (tIf t ta tb)) D σ H := by
  intro H1 e
  refine h H1 e _ fun H2 e2 => ?_
  cases b with
  | true => exact h1 rfl H2 (e.trans e2)
  | false => exact h2 rfl H2 (e.trans e2)
/-- a call that hands back a new list of ints of which S holds -/
def SpR (sp : Sp) (vs : List V) (H : Hp) (S : List Int → Prop) : Prop := ∀ H1, Ex H H1 → ∀ Q : VK, (∀ r, S r → RetL (r.map V.int) H1 Q) → ∀ E : XK, sp vs H1 Q E
theorem go_asgR {S : List Int → Prop} {sp : Sp} {dvs vs : List V} {E : XK} {ta : TA} {i : Nat} (h : EvA ta σ H vs) (hs : SpR sp (vs ++ dvs) H S)
    (k : ∀ r p H1, S r → H p = none → Ex H H1 → H1 p = some (.lst (r.map V.int)) → Go tz D (σ.set i (some (.ref p))) H1) : Go (tSeq (tAsg (tCall sp dvs E ta) (gName i)) tz) D σ H :=
  fun H1 e => h H1 e _ fun H2 e2 => hs H2 (e.trans e2) _ (fun r hr p H3 hp e3 h3 => k r p H3 hr (fresh_back (e.trans e2) hp) ((e.trans e2).trans e3) h3 H3 (Ex.refl H3)) E
theorem gl_asgR {S : List Int → Prop} {sp : Sp} {dvs vs : List V} {E : XK} {ta : TA} {i : Nat} (h : EvA ta σ H vs) (hs : SpR sp (vs ++ dvs) H S)
    (k : ∀ r p H1, S r → H p = none → Ex H H1 → H1 p = some (.lst (r.map V.int)) → GoN D (σ.set i (some (.ref p))) H1) : Go (tAsg (tCall sp dvs E ta) (gName i)) D σ H :=
  fun H1 e => h H1 e _ fun H2 e2 => hs H2 (e.trans e2) _ (fun r hr p H3 hp e3 h3 => k r p H3 hr (fresh_back (e.trans e2) hp) ((e.trans e2).trans e3) h3 H3 (Ex.refl H3)) E
theorem ixN_int {n : Nat} {i : Int} (h0 : 0 ≤ i) (h1 : i < (n : Int)) : ixN n i = some i.toNat := by
  obtain ⟨j, rfl⟩ := Int.eq_ofNat_of_zero_le h0
  exact ixN_nat (by omega)
/-- out[a], out[b] = out[b], out[a] -/
theorem gl_swap {l : Addr} {ns : List Int} {a b : Int} {to1 to2 to3 to4 ta1 ta2 tb1 tb2 : TE} (hl : H l = some (.lst (ns.map V.int))) (h1 : Ev to1 σ H (.ref l)) (h2 : Ev to2 σ H (.ref l)) (h3 : ∀ H1, Ev to3 σ H1 (.ref l)) (h4 : ∀ H1, Ev to4 σ H1 (.ref l))
    (ha : Ev ta1 σ H (.int a)) (ha' : ∀ H1, Ev ta2 σ H1 (.int a)) (hb : Ev tb1 σ H (.int b)) (hb' : ∀ H1, Ev tb2 σ H1 (.int b)) (a0 : 0 ≤ a) (a1 : a < (ns.length : Int)) (b0 : 0 ≤ b) (b1 : b < (ns.length : Int))
    (k : ∀ H1, Ex H H1 → ∀ H2, (∀ c, c ≠ l → ∀ o, H1 c = some o → H2 c = some o) → H2 l = some (.lst (((ns.set a.toNat (at0 ns b)).set b.toNat (at0 ns a)).map V.int)) → GoN D σ H2) :
    Go (tAsg (tTup (tCons (tOp (rIxL K) to1 tb1) (tCons (tOp (rIxL K) to2 ta1) tNil))) (gTup K 2 (gCons (gSub to3 ta2 rSetL) (gCons (gSub to4 tb2 rSetL) gNil)))) D σ H := by
  have hu := eu_tup (ea_cons (ev_ixLI (K := K) h1 hb (sq_of hl) b0 b1) (ea_cons (ev_ixLI (K := K) h2 ha (sq_of hl) a0 a1) ea_nil)) (by show (2 : Nat) ≤ 100000; decide)
  refine fun H1 e => hu H1 e _ fun t H2 ht e2 h2t => ?_
  have hl2 : H2 l = some (.lst (ns.map V.int)) := e2 _ _ (e _ _ hl)
  refine ⟨t, [.int (at0 ns b), .int (at0 ns a)], rfl, st_of h2t, rfl, _, _, rfl, h3 H2 H2 (Ex.refl _) _ fun H3 e3 => ha' H3 H3 (Ex.refl _) _ fun H4 e4 => ?_⟩
  refine ⟨l, _, a, a.toNat, rfl, rfl, e4 _ _ (e3 _ _ hl2), ixN_int a0 (by rw [List.length_map]; exact a1), _, _, rfl, h4 _ _ (Ex.refl _) _ fun H5 e5 => hb' H5 H5 (Ex.refl _) _ fun H6 e6 => ?_⟩
  refine ⟨l, _, b, b.toNat, rfl, rfl, e6 _ _ (e5 _ _ upd_same), ixN_int b0 (by rw [List.length_set, List.length_map]; exact b1), rfl, ?_⟩
  refine k H4 (((e.trans e2).trans e3).trans e4) _ (fun c hc o ho => ?_) ?_ _ (Ex.refl _)
  · rw [upd_ne hc]
    exact e6 _ _ (e5 _ _ (by rw [upd_ne hc]; exact ho))
  · rw [upd_same, List.map_set, List.map_set]
/-- xs.append(ys.pop(i)) -/
theorem gl_appPop {l m : Addr} {xs ys : List V} {i : Int} (hl : H l = some (.lst xs)) (hm : H m = some (.lst ys)) (hne : l ≠ m) (ha : Ev ta σ H (.ref l)) (hb : Ev tb σ H (.ref m)) (hi : Ev te σ H (.int i)) (h0 : 0 ≤ i) (h1 : i < (ys.length : Int)) (hz : xs.length < 100000) (hy : ys.length < 100000)
    (k : ∀ H1 y, Ex H H1 → ys[i.toNat]? = some y → GoN D σ (upd (upd H1 m (.lst (ys.eraseIdx i.toNat))) l (.lst (xs ++ [y])))) : Go (tDrop (tBM K "list" rAppend ta (tCons (tBM K "list" rPopAt tb (tCons te tNil)) tNil))) D σ H := by
  refine fun H1 e => ha H1 e _ fun H2 e2 => ⟨.inl ⟨rfl, xs, sq_of (e2 l _ (e l _ hl))⟩, hb H2 (e.trans e2) _ fun H3 e3 => ⟨.inl ⟨rfl, ys, sq_of (e3 _ _ (e2 m _ (e m _ hm)))⟩, hi H3 ((e.trans e2).trans e3) _ fun H4 e4 => ?_⟩⟩
  have hlt : i.toNat < ys.length := by omega
  refine ⟨m, ys, i, i.toNat, ys[i.toNat], rfl, rfl, e4 _ _ (e3 _ _ (e2 m _ (e m _ hm))), by omega, by omega, (ixN_seq (ixN_int h0 h1)).1, List.getElem?_eq_getElem hlt, ?_⟩
  refine ⟨l, xs, ys[i.toNat], rfl, rfl, ?_, sz_lt hz, k H4 _ (((e.trans e2).trans e3).trans e4) (List.getElem?_eq_getElem hlt) _ (Ex.refl _)⟩
  rw [upd_ne hne]
  exact e4 _ _ (e3 _ _ (e2 l _ (e l _ hl)))
end
/-! ### the rules with the written part told (within comprehensions too) -/
section
variable {X : Cx} {K : PySem.W.Frag}
theorem ix_listK (h : X.K = K) : IxR X (rIxL K) := h ▸ ix_list
theorem ix_tupK (h : X.K = K) : IxR X (rIxT K) := h ▸ ix_tup
theorem call_lenK (h : X.K = K) : CallR X (.builtin "len") (rLenS K) := h ▸ call_lenS
theorem call_listK (h : X.K = K) : CallR X (.type "list") (rListS K) := h ▸ call_listS
theorem call_tupK (h : X.K = K) : CallR X (.type "tuple") (rTupS K) := h ▸ call_tupS
theorem cr_sumK (h : X.K = K) (hc : X.calm = true) : CallR X (.builtin "sum") (rSum K) := h ▸ cr_sum hc
theorem cr_sumTK (h : X.K = K) (hc : X.calm = true) : CallR X (.builtin "sum") (rSumT K) := h ▸ cr_sumT hc
theorem call_isiK1 (h : X.K = K) : CallR X (.builtin "isinstance") (rIsi K) := h ▸ call_isi
theorem op_eqDK (h : X.K = K) (hu : X.A.units + 64 < cLine) : OpR X (compareOp .Eq) (rEqD K) := h ▸ op_eqD hu
theorem op_neDK (h : X.K = K) (hu : X.A.units + 64 < cLine) : OpR X (compareOp .NotEq) (rNeD K) := h ▸ op_neD hu
theorem op_inK (h : X.K = K) : OpR X (compareOp .In) (rIn K false) := h ▸ op_in_seq
theorem op_notInK (h : X.K = K) : OpR X (compareOp .NotIn) (rIn K true) := h ▸ op_notIn_seq
theorem sl_listK (h : X.K = K) : SlR X (rSlL K) := h ▸ sl_list
theorem pi_listK {tg l : Expr} {tl : TE} (h : X.K = K) (hl : PE X l tl) : PI X tg l (iList K tl) := h ▸ pi_list hl
theorem pi_tupK {tg l : Expr} {tl : TE} (h : X.K = K) (hl : PE X l tl) : PI X tg l (iTup K tl) := h ▸ pi_tup hl
end
/-- a list of ints, read -/
def LsV (K : PySem.W.Frag) (ns : List Int) (v : V) (H : Hp) : Prop := ∃ p, v = .ref p ∧ SqL K H p (ns.map V.int)
theorem ls_mono {K : PySem.W.Frag} (ns : List Int) : Mono (LsV K ns) := fun v H H' e ⟨p, h, hs⟩ => ⟨p, h, ex_l e hs⟩
/-- the scope of a comprehension's block, for a comprehension within it -/
def relS (scope sc : Scope) : Scope := { scope with names := scope.names.map fun (n, k) => if (k == .free && sc.kind == .function && sc.names.lookup n == some .cell) then (n, .cell) else (n, k) }
/-! ### comprehensions over enumerate(list), over a tuple that a call hands back -/
section
variable {K : PySem.W.Frag} {σ : L2.St} {H H' : Hp} {ta tb te tx : TE} {t u : TT} {x y z v : V}
theorem pg_tupK {X : Cx} {pos : Pos} {es : List Expr} {k : Nat} {t : TGs} {n : Nat} (hK : X.K = K) (hc : X.calm = true) (h : PGs X es t) (hn : (assignEach es X.env).length = n := by rfl) (hst : (assignEach es X.env).findIdx? (·.1) = none := by rfl) : PG X (.Tuple es k pos) (gTup K n t) := hK ▸ pg_tup hc h hn hst
theorem pi_enumK {X : Cx} {e : Expr} {ta : TA} {p pos tpos : Pos} {elts : List Expr} {kk : Nat} (hK : X.K = K) (hg : Gl X "enumerate") (hm : X.mg "enumerate" = none) (ha : PA X [e] ta) (hs : starEach [e] X.env = [(false, eval e X.env)] := by rfl) : PI X (.Tuple elts kk tpos) (.Call (.Name "enumerate" p) [e] [] pos) (iEnum K ta) := hK ▸ pi_enum hg hm ha hs
theorem el_lcE {ta : TA} {p : Addr} {ns : List Int} {i j : Nat} {vs : List Nat} (v : Nat → V) (h : EvA ta σ H [.ref p]) (hx : SqL K H p (ns.map V.int)) (hz : ns.length ≤ 40000) (hw : ∀ x y, wipe (((wipe σ vs).set i (some x)).set j (some y)) vs = wipe σ vs)
    (he : ∀ (k : Nat) (x : Int), ns[k]? = some x → Ev te (((wipe σ vs).set i (some (.int (k : Int)))).set j (some (.int x))) H (v k)) : EvL (tLc (iEnum K ta) (gTup K 2 (gCons (gName i) (gCons (gName j) gNil))) tYes te vs) σ H ((List.range ns.length).map v) := by
  intro H0 e Q q
  refine h H0 e _ fun H1 e1 => ⟨p, ns.map V.int, rfl, ex_l (e.trans e1) hx, fun D hD => ?_⟩
  refine ⟨fun k m H' => k + m = ns.length ∧ H1 D = none ∧ Ex H1 H' ∧ H' D = some (.lst ((List.range k).map v)), ⟨ns.length, by omega, hD, Ex.new hD, upd_same⟩, fun k m H' ⟨hk, p1, p2, p3⟩ => ?_⟩
  have hs := ex_l ((e.trans e1).trans p2) hx
  by_cases hlt : k < ns.length
  · have hg : (ns.map V.int)[k]? = some (.int ns[k]) := by rw [List.getElem?_map, List.getElem?_eq_getElem hlt]; rfl
    refine .inr ⟨⟨_, _, hs, hg⟩, fun H'' => H1 D = none ∧ Ex H1 H'' ∧ H'' D = some (.lst ((List.range (k + 1)).map v)), fun H'' hn => ⟨m - 1, by omega, by omega, hn⟩, fun x H'' hy => ?_⟩
    obtain ⟨T, x2, rfl, nT, rfl, f2⟩ := hy
    have ex2 : x2 = .int ns[k] := Option.some.inj ((f2 _ hs).symm.trans hg)
    subst ex2
    have nTD : D ≠ T := ne_of_none p3 nT
    refine ⟨T, [.int (k : Int), .int ns[k]], rfl, st_of upd_same, rfl, _, _, rfl, _, _, rfl, rfl, hw _ _, ?_⟩
    show te _ _ _
    have eT : Ex H' (upd H' T (.tup [.int (k : Int), .int ns[k]])) := Ex.new nT
    refine he k ns[k] (List.getElem?_eq_getElem hlt) _ (((e.trans e1).trans p2).trans eT) _ fun H4 e4 => ⟨_, e4 _ _ (eT _ _ p3), sz_lt (by rw [List.length_map, List.length_range]; omega), p1, ((p2.trans eT).trans e4).mut p1, ?_⟩
    rw [upd_same, List.range_succ, List.map_append]
    rfl
  · have hkn : k = ns.length := by omega
    subst hkn
    exact .inl ⟨⟨_, hs, by rw [List.length_map]; exact Nat.le_refl _⟩, q D H' (fresh_back e1 p1) (e1.trans p2) p3⟩
theorem el_mapTP {ns : List Int} {tl : TE} {j : Nat} {vs : List Nat} (g : Int → V) (h : EvP tl σ H (RwV K ns)) (hz : ns.length ≤ 40000) (hw : ∀ x, wipe ((wipe σ vs).set j (some x)) vs = wipe σ vs)
    (he : ∀ (x : Int), x ∈ ns → Ev te ((wipe σ vs).set j (some (.int x))) H (g x)) : EvL (tLc (iTup K tl) (gName j) tYes te vs) σ H (ns.map g) := by
  intro H0 e Q q
  refine h H0 e _ fun v H1 e1 hv => ?_
  obtain ⟨a, rfl, hx⟩ := hv
  refine ⟨a, rfl, ⟨_, hx⟩, fun Dl hD => ?_⟩
  have q' : ∀ H', Cw H1 (fun _ => true) (fun i : Nat => g (at0 ns (i : Int))) Dl (ns.map V.int).length H' → Q (.ref Dl) H' := fun H' p => q Dl H' (fresh_back e1 p.1) (e1.trans p.2.1) (by rw [p.2.2, given_all, List.length_map, map_at0])
  exact lc_tup (xs := ns.map V.int) (Cw H1 (fun _ => true) (fun i : Nat => g (at0 ns (i : Int))) Dl) ⟨hD, Ex.new hD, upd_same⟩ (fun i H' _ p => ex_t p.2.1 hx) (fun i x H' hi p => by
    obtain ⟨rfl, hl⟩ := at0_of hi
    refine ⟨hw _, cw_turn p (by omega) et_yes (fun _ => (he _ ?_).mono (e.trans e1))⟩
    unfold at0
    rw [List.getD_eq_getElem?_getD, Int.toNat_natCast, List.getElem?_eq_getElem hl]
    exact List.getElem_mem hl) q'
end
/-! ### a tuple of made things; is None -/
section
variable {K : PySem.W.Frag} {σ : L2.St} {H H' : Hp} {ta tb te tx : TE} {t u : TT} {x y z v : V} {P : V → Hp → Prop}
theorem ep_tupP {ta : TA} {R : List V → Hp → Prop} (m : ∀ vs H H', Ex H H' → R vs H → R vs H') (h : EvAP ta σ H R) (hl : ∀ vs H1, R vs H1 → vs.length ≤ 100000) (hp : ∀ p vs H1, Ex H H1 → H1 p = some (.tup vs) → R vs H1 → P (.ref p) H1) : EvP (tTup ta) σ H P :=
  fun H1 e Q q => h H1 e _ fun vs H2 e2 hR => ⟨sz_of (hl vs H2 hR), fun p hn => q (.ref p) _ (e2.trans (Ex.new hn)) (hp p vs _ ((e.trans e2).trans (Ex.new hn)) upd_same (m vs _ _ (Ex.new hn) hR))⟩
theorem eap_nil : EvAP tNil σ H (fun vs _ => vs = []) := fun H1 e Q q => q [] H1 (Ex.refl H1) rfl
theorem rv_isN : RV rIsN x .non H (.bl (decide (x = .non))) := fun H1 e Q q => ⟨rfl, q H1 (Ex.refl H1)⟩
theorem rv_notN : RV rNotN x .non H (.bl (!decide (x = .non))) := fun H1 e Q q => ⟨rfl, q H1 (Ex.refl H1)⟩
end
end BT
namespace BT
open PySem PySem.Spec PyProof.Rows L2 Evl
/-! ### blocks and their numbers (plain) -/
def quo (n c : Int) : Nat → Int
  | 0 => n
  | i + 1 => quo n c i / c
def digs (n c : Int) : Nat → List Int
  | 0 => []
  | i + 1 => digs n c i ++ [quo n c i % c]
theorem digs_len (n c : Int) : ∀ i, (digs n c i).length = i
  | 0 => rfl
  | i + 1 => by rw [digs, List.length_append, digs_len n c i]; rfl
def blockM (n c : Int) : List Int := [n / c / c / c % c, n / c / c % c, n / c % c, n % c]
def numM (r : List Int) (c : Int) : Int := r.foldl (fun a d => a * c + d) 0
theorem numM_take {r : List Int} {c : Int} {i : Nat} {x : Int} (h : r[i]? = some x) : numM (r.take (i + 1)) c = numM (r.take i) c * c + x := by
  unfold numM
  rw [List.take_add_one, h]
  simp
end BT
namespace BT
open PySem PySem.Spec PyProof.Rows L2 Evl
/-! ### rules: each number just once (plain) -/
def rng (n : Nat) : List Int := ranI n fun i => i
def IsRule (n : Nat) (r : List Int) : Prop := r.Perm (rng n)
theorem len_rng (n : Nat) : (rng n).length = n := len_ranI n _
theorem IsRule.len {n : Nat} {r : List Int} (h : IsRule n r) : r.length = n := by rw [h.length_eq, len_rng]
theorem mem_rng {n : Nat} {x : Int} : x ∈ rng n ↔ 0 ≤ x ∧ x < n := by
  unfold rng ranI
  rw [List.mem_map]
  constructor
  · rintro ⟨i, hi, rfl⟩
    have := List.mem_range.mp hi
    show (0 : Int) ≤ i ∧ (i : Int) < n
    omega
  · rintro ⟨h0, h1⟩
    exact ⟨x.toNat, List.mem_range.mpr (by omega), by show ((x.toNat : Nat) : Int) = x; omega⟩
theorem IsRule.mem {n : Nat} {r : List Int} (h : IsRule n r) {x : Int} : x ∈ r ↔ 0 ≤ x ∧ x < n := by rw [h.mem_iff, mem_rng]
theorem nodup_rng (n : Nat) : (rng n).Nodup := by
  unfold rng ranI
  refine List.Pairwise.map _ (fun (a b : Nat) hab => ?_) List.nodup_range
  show (a : Int) ≠ (b : Int)
  omega
theorem IsRule.nodup {n : Nat} {r : List Int} (h : IsRule n r) : r.Nodup := h.nodup_iff.mpr (nodup_rng n)
theorem at0_nat {r : List Int} {i : Nat} (h : i < r.length) : at0 r (i : Int) = r[i] := by
  unfold at0
  rw [List.getD_eq_getElem?_getD, Int.toNat_natCast, List.getElem?_eq_getElem h]
  rfl
theorem at0_int {r : List Int} {i : Int} (h0 : 0 ≤ i) (h1 : i < (r.length : Int)) : at0 r i = r[i.toNat]'(by omega) := by
  obtain ⟨j, rfl⟩ := Int.eq_ofNat_of_zero_le h0
  exact at0_nat (by omega)
theorem at0_mem {r : List Int} {i : Int} (h0 : 0 ≤ i) (h1 : i < (r.length : Int)) : at0 r i ∈ r := by
  rw [at0_int h0 h1]
  exact List.getElem_mem _
theorem IsRule.at {n : Nat} {r : List Int} (h : IsRule n r) {i : Int} (h0 : 0 ≤ i) (h1 : i < n) : 0 ≤ at0 r i ∧ at0 r i < n :=
  h.mem.mp (at0_mem h0 (by rw [h.len]; exact h1))
theorem IsRule.inj {n : Nat} {r : List Int} (h : IsRule n r) {i j : Int} (h0 : 0 ≤ i) (h1 : i < n) (h2 : 0 ≤ j) (h3 : j < n) (e : at0 r i = at0 r j) : i = j := by
  have hl := h.len
  rw [at0_int h0 (by omega), at0_int h2 (by omega)] at e
  have := (List.getElem_inj h.nodup).mp e
  omega
theorem perm_erase : ∀ (l : List Int) (i : Nat) (h : i < l.length), (l[i] :: l.eraseIdx i).Perm l
  | [], i, h => absurd h (by simp)
  | a :: r, 0, _ => .refl _
  | a :: r, i + 1, h => by
    show (r[i]'(by simpa using h) :: a :: r.eraseIdx i).Perm (a :: r)
    exact (List.Perm.swap a _ _).trans ((perm_erase r i (by simpa using h)).cons a)
theorem perm_swap2 (l : List Int) (i j : Nat) (hi : i < l.length) (hj : j < l.length) : ((l.set i l[j]).set j l[i]).Perm l := by
  rw [List.perm_iff_count]
  intro a
  rw [List.count_set (by rw [List.length_set]; exact hj), List.count_set hi]
  have e : (l.set i l[j])[j]'(by rw [List.length_set]; exact hj) = l[j] := by
    rw [List.getElem_set]
    split
    · rfl
    · rfl
  rw [e]
  have ci : l[i] = a → 0 < l.count a := fun h => List.count_pos_iff.mpr (h ▸ List.getElem_mem hi)
  have cj : l[j] = a → 0 < l.count a := fun h => List.count_pos_iff.mpr (h ▸ List.getElem_mem hj)
  by_cases h1 : l[i] = a <;> by_cases h2 : l[j] = a <;> simp only [h1, h2, beq_iff_eq, if_true, if_false, beq_self_eq_true] <;> simp
  · have := ci h1; omega
  · have := ci h1; omega
theorem isRule_swap {n : Nat} {r : List Int} (h : IsRule n r) {a b : Int} (h0 : 0 ≤ a) (h1 : a < (r.length : Int)) (h2 : 0 ≤ b) (h3 : b < (r.length : Int)) : IsRule n ((r.set a.toNat (at0 r b)).set b.toNat (at0 r a)) := by
  rw [at0_int h0 h1, at0_int h2 h3]
  exact (perm_swap2 r a.toNat b.toNat (by omega) (by omega)).trans h
/-- the place of a number, the rule back -/
def backL (r : List Int) : List Int := ranI r.length fun x => (r.idxOf x : Nat)
theorem len_backL (r : List Int) : (backL r).length = r.length := len_ranI _ _
theorem idx_at {n : Nat} {r : List Int} (h : IsRule n r) {x : Int} (h0 : 0 ≤ x) (h1 : x < n) : r.idxOf x < r.length ∧ at0 r (r.idxOf x : Nat) = x := by
  have hm : x ∈ r := h.mem.mpr ⟨h0, h1⟩
  have hl := List.idxOf_lt_length_of_mem hm
  refine ⟨hl, ?_⟩
  rw [at0_nat hl]
  exact List.getElem_idxOf hl
theorem at_idx {n : Nat} {r : List Int} (h : IsRule n r) {i : Int} (h0 : 0 ≤ i) (h1 : i < n) : ((r.idxOf (at0 r i) : Nat) : Int) = i := by
  obtain ⟨ha, hb⟩ := h.at h0 h1
  obtain ⟨hl, he⟩ := idx_at h ha hb
  have := h.len
  exact h.inj (by omega) (by omega) h0 h1 he
theorem at0_backL {n : Nat} {r : List Int} (h : IsRule n r) {x : Int} (h0 : 0 ≤ x) (h1 : x < n) : at0 (backL r) x = (r.idxOf x : Nat) := by
  unfold backL
  exact at0_ranI h0 (by rw [h.len]; exact h1)
theorem back_at {n : Nat} {r : List Int} (h : IsRule n r) {i : Int} (h0 : 0 ≤ i) (h1 : i < n) : at0 (backL r) (at0 r i) = i := by
  obtain ⟨ha, hb⟩ := h.at h0 h1
  rw [at0_backL h ha hb, at_idx h h0 h1]
theorem at_back {n : Nat} {r : List Int} (h : IsRule n r) {x : Int} (h0 : 0 ≤ x) (h1 : x < n) : at0 r (at0 (backL r) x) = x := by
  rw [at0_backL h h0 h1]
  exact (idx_at h h0 h1).2
theorem nodup_of_inj {n : Nat} {r : List Int} (hl : r.length = n) (h : ∀ i j : Int, 0 ≤ i → i < n → 0 ≤ j → j < n → at0 r i = at0 r j → i = j) : r.Nodup := by
  rw [List.nodup_iff_pairwise_ne] at *
  rw [List.pairwise_iff_getElem]
  intro i j hi hj hij e
  have := h i j (by omega) (by omega) (by omega) (by omega) (by rw [at0_nat hi, at0_nat hj]; exact e)
  omega
theorem sub_count : ∀ {l m : List Int}, l.Nodup → (∀ x ∈ l, x ∈ m) → m.length ≤ l.length → l.Perm m
  | [], m, _, _, hl => by
    have : m = [] := List.eq_nil_of_length_eq_zero (by simpa using hl)
    rw [this]
  | a :: l, m, hn, hs, hl => by
    have ham : a ∈ m := hs a (List.mem_cons_self ..)
    obtain ⟨hna, hnl⟩ := List.nodup_cons.mp hn
    have h1 := List.perm_cons_erase ham
    have h2 : (m.erase a).length = m.length - 1 := List.length_erase_of_mem ham
    have hpos : 0 < m.length := List.length_pos_of_mem ham
    have hl' : m.length ≤ l.length + 1 := by simpa using hl
    have ih : l.Perm (m.erase a) := sub_count hnl (fun x hx => by
      have hxm := hs x (List.mem_cons_of_mem _ hx)
      have hne : x ≠ a := fun e => hna (e ▸ hx)
      exact (List.mem_erase_of_ne hne).mpr hxm) (by omega)
    exact (ih.cons a).trans h1.symm
/-- a rule, by its places -/
theorem isRule_of {n : Nat} {r : List Int} (hl : r.length = n) (hr : ∀ i : Int, 0 ≤ i → i < n → 0 ≤ at0 r i ∧ at0 r i < n) (hi : ∀ i j : Int, 0 ≤ i → i < n → 0 ≤ j → j < n → at0 r i = at0 r j → i = j) : IsRule n r := by
  refine sub_count (nodup_of_inj hl hi) (fun x hx => ?_) (by rw [len_rng, hl]; exact Nat.le_refl n)
  obtain ⟨k, hk, rfl⟩ := List.mem_iff_getElem.mp hx
  have := hr k (by omega) (by omega)
  rw [at0_nat hk] at this
  exact mem_rng.mpr this
theorem isRule_back {n : Nat} {r : List Int} (h : IsRule n r) : IsRule n (backL r) := by
  refine isRule_of (by rw [len_backL, h.len]) (fun i h0 h1 => ?_) (fun i j h0 h1 h2 h3 e => ?_)
  · rw [at0_backL h h0 h1]
    have := (idx_at h h0 h1).1
    rw [h.len] at this
    omega
  · have e2 := congrArg (at0 r) e
    rwa [at_back h h0 h1, at_back h h2 h3] at e2
theorem ext_at0 {r s : List Int} (hl : r.length = s.length) (h : ∀ i : Int, 0 ≤ i → i < r.length → at0 r i = at0 s i) : r = s := by
  apply List.ext_getElem hl
  intro i h1 h2
  have := h i (by omega) (by omega)
  rwa [at0_nat h1, at0_nat h2] at this
theorem back_back {n : Nat} {r : List Int} (h : IsRule n r) : backL (backL r) = r := by
  have hb := isRule_back h
  refine ext_at0 (by rw [len_backL, len_backL]) fun i h0 h1 => ?_
  rw [len_backL, len_backL, h.len] at h1
  have a1 := (isRule_back hb).at h0 h1
  have a2 := h.at h0 h1
  refine hb.inj a1.1 a1.2 a2.1 a2.2 ?_
  rw [at_back hb h0 h1, back_at h h0 h1]
theorem at0_set {r : List Int} {i j v : Int} (h0 : 0 ≤ i) (h1 : i < (r.length : Int)) (h2 : 0 ≤ j) : at0 (r.set i.toNat v) j = if j = i then v else at0 r j := by
  obtain ⟨a, rfl⟩ := Int.eq_ofNat_of_zero_le h0
  obtain ⟨b, rfl⟩ := Int.eq_ofNat_of_zero_le h2
  unfold at0
  rw [Int.toNat_natCast, Int.toNat_natCast, List.getD_eq_getElem?_getD, List.getElem?_set, List.getD_eq_getElem?_getD]
  by_cases e : a = b
  · subst e
    rw [if_pos rfl, if_pos (by omega), if_pos rfl]
    rfl
  · rw [if_neg e, if_neg (by omega)]
theorem ranI_set {n : Nat} {f : Int → Int} {i v : Int} (h0 : 0 ≤ i) (h1 : i < n) : (ranI n f).set i.toNat v = ranI n fun x => if x = i then v else f x := by
  refine ext_at0 (by rw [List.length_set, len_ranI, len_ranI]) fun j j0 j1 => ?_
  rw [List.length_set, len_ranI] at j1
  rw [at0_set h0 (by rw [len_ranI]; exact h1) j0, at0_ranI j0 j1, at0_ranI j0 j1]
theorem map_erase : ∀ (r : List Int) (i : Nat), (r.map V.int).eraseIdx i = (r.eraseIdx i).map V.int
  | [], _ => rfl
  | _ :: _, 0 => rfl
  | a :: r, i + 1 => by
    show V.int a :: (r.map V.int).eraseIdx i = V.int a :: (r.eraseIdx i).map V.int
    rw [map_erase r i]
def n4 (c : Int) : Nat := (c * c * c * c).toNat
theorem n4_int {c : Int} (h0 : 2 ≤ c) (h1 : c ≤ 3) : ((n4 c : Nat) : Int) = c * c * c * c ∧ n4 c ≤ 81 ∧ 16 ≤ n4 c := by
  unfold n4
  rcases col_four h0 h1 with ⟨rfl, e⟩ | ⟨rfl, e⟩ <;> rw [e] <;> decide
def wtB (W : List Int) (b : List Int) : Int := (b.map (at0 W)).sum
def wtM (n c : Int) (W : List Int) : Int := wtB W (blockM n c)
theorem blockM_mem {n c x : Int} (c0 : 2 ≤ c) (h : x ∈ blockM n c) : 0 ≤ x ∧ x < c := by
  unfold blockM at h
  simp only [List.mem_cons, List.not_mem_nil, or_false] at h
  rcases h with rfl | rfl | rfl | rfl <;> exact ⟨Int.emod_nonneg _ (by omega), Int.emod_lt_of_pos _ (by omega)⟩
def keepB (r : List Int) (c : Int) (W : List Int) : Prop := ∀ i : Int, 0 ≤ i → i < r.length → wtM i c W = wtM (at0 r i) c W
instance (r : List Int) (c : Int) (W : List Int) : Decidable (keepB r c W) := decidable_of_iff (∀ i : Fin r.length, wtM (i.val : Int) c W = wtM (at0 r (i.val : Int)) c W) ⟨fun h i h0 h1 => by
  obtain ⟨j, rfl⟩ := Int.eq_ofNat_of_zero_le h0
  exact h ⟨j, by omega⟩, fun h i => h i.val (Int.natCast_nonneg _) (by have := i.isLt; omega)⟩
end BT
namespace BT
open PySem PySem.Spec PyProof.Rows L2 Evl
/-! ### a board's step (plain) -/
theorem pred_mod {y h : Int} (h0 : 0 ≤ y) (h1 : y < h) : (y - 1) % h = if y = 0 then h - 1 else y - 1 := by
  by_cases e : y = 0
  · subst e
    rw [if_pos rfl, ← Int.add_emod_right, Int.emod_eq_of_lt (by omega) (by omega)]
    omega
  · rw [if_neg e, Int.emod_eq_of_lt (by omega) (by omega)]
theorem succ_mod {y h : Int} (h0 : 0 ≤ y) (h1 : y < h) : (y + 1) % h = if y = h - 1 then 0 else y + 1 := by
  by_cases e : y = h - 1
  · rw [if_pos e, e, show h - 1 + 1 = h by omega, Int.emod_self]
  · rw [if_neg e, Int.emod_eq_of_lt (by omega) (by omega)]
def topM (m y h : Int) : Int := if (y - m) % 2 = 0 then y else (y - 1) % h
theorem top_rng {m y h : Int} (h0 : 0 ≤ y) (h1 : y < h) : 0 ≤ topM m y h ∧ topM m y h < h := by
  unfold topM
  rw [pred_mod h0 h1]
  split
  · exact ⟨h0, h1⟩
  · split <;> omega
theorem top_par {m y : Int} {hh : Nat} (h0 : 0 ≤ y) (h1 : y < 2 * (hh : Int)) : (topM m y (2 * (hh : Int)) - m) % 2 = 0 := by
  unfold topM
  rw [pred_mod h0 h1]
  split
  · assumption
  · split <;> omega
/-- the cells of the block whose upper row is Y -/
theorem top_iff {m y Y : Int} {hh : Nat} (h0 : 0 ≤ y) (h1 : y < 2 * (hh : Int)) (H0 : 0 ≤ Y) (H1 : Y < 2 * (hh : Int)) (hp : (Y - m) % 2 = 0) : topM m y (2 * (hh : Int)) = Y ↔ y = Y ∨ y = (Y + 1) % (2 * (hh : Int)) := by
  unfold topM
  rw [pred_mod h0 h1, succ_mod H0 H1]
  split <;> split <;> (try split) <;> omega
def stepF (h w c : Int) (r : List Int) (m : Int) (f : Int → Int → Int) (y x : Int) : Int :=
  at0 (blockM (at0 r (numM [f (topM m y h) (topM m x w), f (topM m y h) ((topM m x w + 1) % w), f ((topM m y h + 1) % h) (topM m x w), f ((topM m y h + 1) % h) ((topM m x w + 1) % w)] c)) c)
    ((if y = topM m y h then 0 else 2) + if x = topM m x w then 0 else 1)
/-- bounds -/
def Bnd (h w : Nat) (c : Int) (f : Int → Int → Int) : Prop := ∀ y x : Int, 0 ≤ y → y < h → 0 ≤ x → x < w → 0 ≤ f y x ∧ f y x < c
theorem numM4 (a b d e c : Int) : numM [a, b, d, e] c = (((0 * c + a) * c + b) * c + d) * c + e := rfl
theorem num_rng {a b d e c : Int} (c0 : 2 ≤ c) (c1 : c ≤ 3) (ha : 0 ≤ a ∧ a < c) (hb : 0 ≤ b ∧ b < c) (hd : 0 ≤ d ∧ d < c) (he : 0 ≤ e ∧ e < c) : 0 ≤ numM [a, b, d, e] c ∧ numM [a, b, d, e] c < c * c * c * c := by
  rw [numM4]
  rcases col_four c0 c1 with ⟨rfl, e2⟩ | ⟨rfl, e2⟩ <;> rw [e2] <;> omega
theorem block_rng (n : Int) {c : Int} (c0 : 2 ≤ c) (i : Int) : 0 ≤ at0 (blockM n c) i ∧ at0 (blockM n c) i < c := by
  have key : ∀ z : Int, 0 ≤ z % c ∧ z % c < c := fun z => ⟨Int.emod_nonneg _ (by omega), Int.emod_lt_of_pos _ (by omega)⟩
  unfold at0 blockM
  match i.toNat with
  | 0 => exact key _
  | 1 => exact key _
  | 2 => exact key _
  | 3 => exact key _
  | _ + 4 => exact ⟨Int.le_refl _, by show (0 : Int) < c; omega⟩
theorem bnd_step {h w : Nat} {c m : Int} {r : List Int} {f : Int → Int → Int} (c0 : 2 ≤ c) : Bnd h w c (stepF h w c r m f) := fun y x _ _ _ _ => block_rng _ c0 _
/-- the cells stepped so far: blocks ahead of (Y, X) -/
def curF (h w c : Int) (r : List Int) (m : Int) (f : Int → Int → Int) (Y X : Int) (y x : Int) : Int :=
  if topM m y h < Y ∨ (topM m y h = Y ∧ topM m x w < X) then stepF h w c r m f y x else f y x
def updF (f : Int → Int → Int) (y x v : Int) (a b : Int) : Int := if a = y ∧ b = x then v else f a b
/-- one block written -/
theorem cur_next {hh ww : Nat} {c m : Int} {r : List Int} {f : Int → Int → Int} {Y X y x : Int} (hY0 : 0 ≤ Y) (hY1 : Y < 2 * (hh : Int)) (hX0 : 0 ≤ X) (hX1 : X < 2 * (ww : Int)) (pY : (Y - m) % 2 = 0) (pX : (X - m) % 2 = 0)
    (y0 : 0 ≤ y) (y1 : y < 2 * (hh : Int)) (x0 : 0 ≤ x) (x1 : x < 2 * (ww : Int)) :
    let made := blockM (at0 r (numM [f Y X, f Y ((X + 1) % (2 * (ww : Int))), f ((Y + 1) % (2 * (hh : Int))) X, f ((Y + 1) % (2 * (hh : Int))) ((X + 1) % (2 * (ww : Int)))] c)) c
    updF (updF (updF (updF (curF (2 * (hh : Int)) (2 * (ww : Int)) c r m f Y X) Y X (at0 made 0)) Y ((X + 1) % (2 * (ww : Int))) (at0 made 1)) ((Y + 1) % (2 * (hh : Int))) X (at0 made 2)) ((Y + 1) % (2 * (hh : Int))) ((X + 1) % (2 * (ww : Int))) (at0 made 3) y x
      = curF (2 * (hh : Int)) (2 * (ww : Int)) c r m f Y (X + 2) y x := by
  intro made
  have ty := top_iff y0 y1 hY0 hY1 pY
  have tx := top_iff x0 x1 hX0 hX1 pX
  have px := top_par (m := m) x0 x1
  have ny : (Y + 1) % (2 * (hh : Int)) ≠ Y := by rw [succ_mod hY0 hY1]; split <;> omega
  have nx : (X + 1) % (2 * (ww : Int)) ≠ X := by rw [succ_mod hX0 hX1]; split <;> omega
  by_cases hy : topM m y (2 * (hh : Int)) = Y
  · by_cases hx : topM m x (2 * (ww : Int)) = X
    · have e1 : curF (2 * (hh : Int)) (2 * (ww : Int)) c r m f Y (X + 2) y x = stepF (2 * (hh : Int)) (2 * (ww : Int)) c r m f y x := if_pos (.inr ⟨hy, by omega⟩)
      rw [e1]
      unfold stepF
      rw [hy, hx]
      show _ = at0 made _
      unfold updF
      rcases ty.mp hy with ey | ey <;> rcases tx.mp hx with ex | ex <;> subst ey <;> subst ex
      · rw [if_neg (fun z => ny z.1.symm), if_neg (fun z => ny z.1.symm), if_neg (fun z => nx z.2.symm), if_pos ⟨rfl, rfl⟩, if_pos rfl, if_pos rfl]
        rfl
      · rw [if_neg (fun z => ny z.1.symm), if_neg (fun z => ny z.1.symm), if_pos ⟨rfl, rfl⟩, if_pos rfl, if_neg nx]
        rfl
      · rw [if_neg (fun z => nx z.2.symm), if_pos ⟨rfl, rfl⟩, if_neg ny, if_pos rfl]
        rfl
      · rw [if_pos ⟨rfl, rfl⟩, if_neg ny, if_neg nx]
        rfl
    · have hx1 : ¬ (x = X) := fun z => hx (tx.mpr (.inl z))
      have hx2 : ¬ (x = (X + 1) % (2 * (ww : Int))) := fun z => hx (tx.mpr (.inr z))
      unfold updF
      rw [if_neg (fun z => hx2 z.2), if_neg (fun z => hx1 z.2), if_neg (fun z => hx2 z.2), if_neg (fun z => hx1 z.2)]
      unfold curF
      have : (topM m x (2 * (ww : Int)) < X) ↔ (topM m x (2 * (ww : Int)) < X + 2) := by omega
      simp only [this]
  · have hy1 : ¬ (y = Y) := fun z => hy (ty.mpr (.inl z))
    have hy2 : ¬ (y = (Y + 1) % (2 * (hh : Int))) := fun z => hy (ty.mpr (.inr z))
    unfold updF
    rw [if_neg (fun z => hy2 z.1), if_neg (fun z => hy2 z.1), if_neg (fun z => hy1 z.1), if_neg (fun z => hy1 z.1)]
    unfold curF
    simp only [hy, false_and, or_false]
theorem cur_row {hh ww : Nat} {c m : Int} {r : List Int} {f : Int → Int → Int} {Y X y x : Int} (hX : 2 * (ww : Int) ≤ X) (pY : (Y - m) % 2 = 0) (y0 : 0 ≤ y) (y1 : y < 2 * (hh : Int)) (x0 : 0 ≤ x) (x1 : x < 2 * (ww : Int)) (p : Int) (hp : p ≤ 0 ∨ (p = 1 ∧ (1 - m) % 2 = 0)) :
    curF (2 * (hh : Int)) (2 * (ww : Int)) c r m f Y X y x = curF (2 * (hh : Int)) (2 * (ww : Int)) c r m f (Y + 2) p y x := by
  have py := top_par (m := m) y0 y1
  have px := top_par (m := m) x0 x1
  have hx := (top_rng (m := m) x0 x1).2
  have hx0 := (top_rng (m := m) x0 x1).1
  unfold curF
  have : (topM m y (2 * (hh : Int)) < Y ∨ (topM m y (2 * (hh : Int)) = Y ∧ topM m x (2 * (ww : Int)) < X)) ↔ (topM m y (2 * (hh : Int)) < Y + 2 ∨ (topM m y (2 * (hh : Int)) = Y + 2 ∧ topM m x (2 * (ww : Int)) < p)) := by omega
  simp only [this]
theorem cur_first {hh ww : Nat} {c m : Int} {r : List Int} {f : Int → Int → Int} {y x : Int} (y0 : 0 ≤ y) (y1 : y < 2 * (hh : Int)) (x0 : 0 ≤ x) (x1 : x < 2 * (ww : Int)) : curF (2 * (hh : Int)) (2 * (ww : Int)) c r m f (m % 2) (m % 2) y x = f y x := by
  have py := top_par (m := m) y0 y1
  have px := top_par (m := m) x0 x1
  have hy0 := (top_rng (m := m) y0 y1).1
  have hx0 := (top_rng (m := m) x0 x1).1
  unfold curF
  rw [if_neg (by omega)]
theorem cur_last {hh ww : Nat} {c m : Int} {r : List Int} {f : Int → Int → Int} {Y X y x : Int} (hY : 2 * (hh : Int) ≤ Y) (y0 : 0 ≤ y) (y1 : y < 2 * (hh : Int)) : curF (2 * (hh : Int)) (2 * (ww : Int)) c r m f Y X y x = stepF (2 * (hh : Int)) (2 * (ww : Int)) c r m f y x := by
  have hy := (top_rng (m := m) y0 y1).2
  unfold curF
  rw [if_pos (.inl (by omega))]

/-! ### ranges by twos -/
theorem rgc2 {p : Int} {hh : Nat} (h0 : 0 ≤ p) (h1 : p ≤ 1) (hp : 1 ≤ hh) (hq : hh ≤ 1000) : RgC p (2 * (hh : Int)) 2 hh := by
  have e : Builtin.Range.rangeSize p (2 * (hh : Int)) 2 = hh := by
    unfold Builtin.Range.rangeSize
    rw [if_pos (by decide), if_pos (by omega)]
    omega
  refine ⟨by decide, by decide, ?_, e⟩
  have fit : ∀ i : Int, -1000000 ≤ i → i ≤ 1000000 → Builtin.Range.rangeFitsLong i = true := fun i a b => Bool.and_eq_true_iff.mpr ⟨decide_eq_true (by omega), decide_eq_true (by omega)⟩
  unfold Builtin.Range.small
  rw [e, fit p (by omega) (by omega), fit (2 * (hh : Int)) (by omega) (by omega), fit 2 (by omega) (by omega), fit (hh : Int) (by omega) (by omega), if_pos (show (2 : Int) > 0 by decide), fit (2 * (hh : Int) + (2 - 1)) (by omega) (by omega)]
  simp
section
variable {K : PySem.W.Frag} {σ : L2.St} {H H' : Hp} {ta tb tc td te tx ty to : TE} {t u : TT} {x y z v : V} {P : V → Hp → Prop} {D : Ends} {tu tw tz : TS}
theorem go_forR3 {ta : TA} {j n : Nat} {lo hi c : Int} (h : EvA ta σ H [.int lo, .int hi, .int c]) (hn : RgC lo hi c n) (Pv : Nat → L2.St → Hp → Prop) (h0 : ∀ H1, Ex H H1 → Pv 0 σ H1)
    (hs : ∀ (i : Nat) σ' H', i < n → Pv i σ' H' → Go tu { D with nx := Pv (i + 1), ct := Pv (i + 1), bk := tz D } (σ'.set j (some (.int (lo + (i : Int) * c)))) H') (hd : ∀ σ' H', Pv n σ' H' → Go tz D σ' H') : Go (tSeq (tFor (iRng3 ta) (gName j) tu) tz) D σ H :=
  fun H1 e => h H1 e _ fun H2 e2 => ⟨lo, hi, c, n, rfl, hn, for_rangeC (D := { D with nx := tz D }) Pv (h0 H2 (e.trans e2)) (fun i σ' H' hi p => (hs i σ' H' hi p).at) (fun σ' H' p => (hd σ' H' p).at)⟩
theorem gl_forR3 {ta : TA} {j n : Nat} {lo hi c : Int} (h : EvA ta σ H [.int lo, .int hi, .int c]) (hn : RgC lo hi c n) (Pv : Nat → L2.St → Hp → Prop) (h0 : ∀ H1, Ex H H1 → Pv 0 σ H1)
    (hs : ∀ (i : Nat) σ' H', i < n → Pv i σ' H' → Go tu { D with nx := Pv (i + 1), ct := Pv (i + 1), bk := D.nx } (σ'.set j (some (.int (lo + (i : Int) * c)))) H') (hd : ∀ σ' H', Pv n σ' H' → GoN D σ' H') : Go (tFor (iRng3 ta) (gName j) tu) D σ H :=
  fun H1 e => h H1 e _ fun H2 e2 => ⟨lo, hi, c, n, rfl, hn, for_rangeC Pv (h0 H2 (e.trans e2)) (fun i σ' H' hi p => (hs i σ' H' hi p).at) (fun σ' H' p => hd σ' H' p H' (Ex.refl H'))⟩

/-! ### a list of lists -/
def Grid (H : Hp) (g : Addr) (as : List Addr) (h w : Nat) (cur : Int → Int → Int) : Prop :=
  H g = some (.lst (as.map V.ref)) ∧ as.length = h ∧ as.Nodup ∧ g ∉ as ∧ ∀ (i : Nat) (a : Addr), as[i]? = some a → H a = some (.lst ((rowOf w (cur (i : Int))).map V.int))
theorem Grid.up {g : Addr} {as : List Addr} {h w : Nat} {cur : Int → Int → Int} (e : Ex H H') (G : Grid H g as h w cur) : Grid H' g as h w cur :=
  ⟨e _ _ G.1, G.2.1, G.2.2.1, G.2.2.2.1, fun i a ha => e _ _ (G.2.2.2.2 i a ha)⟩
theorem rowOf_congr {w : Nat} {f g : Int → Int} (h : ∀ x : Int, 0 ≤ x → x < w → f x = g x) : rowOf w f = rowOf w g := by
  unfold rowOf
  apply List.map_congr_left
  intro i hi
  have := List.mem_range.mp hi
  exact h _ (by omega) (by omega)
theorem Grid.congr {g : Addr} {as : List Addr} {h w : Nat} {c1 c2 : Int → Int → Int} (e : ∀ y x : Int, 0 ≤ y → y < h → 0 ≤ x → x < w → c1 y x = c2 y x) (G : Grid H g as h w c1) : Grid H g as h w c2 :=
  ⟨G.1, G.2.1, G.2.2.1, G.2.2.2.1, fun i a ha => by
    rw [G.2.2.2.2 i a ha, rowOf_congr fun x x0 x1 => e i x (by omega) (by have := (List.getElem?_eq_some_iff.mp ha).1; rw [G.2.1] at this; omega) x0 x1]⟩
theorem rowOf_set {w : Nat} {f : Int → Int} {x v : Int} (h0 : 0 ≤ x) (h1 : x < w) : (rowOf w f).set x.toNat v = rowOf w fun b => if b = x then v else f b := by
  apply List.ext_getElem
  · rw [List.length_set, len_rowOf, len_rowOf]
  · intro i h2 h3
    have e1 : (rowOf w fun b => if b = x then v else f b)[i] = if (i : Int) = x then v else f i := by simp only [rowOf, List.getElem_map, List.getElem_range]
    have e2 : (rowOf w f)[i]'(by rw [List.length_set] at h2; exact h2) = f i := by unfold rowOf; simp
    rw [List.getElem_set, e1, e2]
    by_cases e : x.toNat = i
    · rw [if_pos e, if_pos (by omega)]
    · rw [if_neg e, if_neg (by omega)]
theorem Grid.set {g : Addr} {as : List Addr} {h w : Nat} {cur : Int → Int → Int} {y x v : Int} {a : Addr} (G : Grid H g as h w cur) (ha : as[y.toNat]? = some a) (y0 : 0 ≤ y) (y1 : y < h) (x0 : 0 ≤ x) (x1 : x < w) :
    Grid (upd H a (.lst (((rowOf w (cur y)).map V.int).set x.toNat (.int v)))) g as h w (updF cur y x v) := by
  obtain ⟨g1, g2, g3, g4, g5⟩ := G
  have hma : a ∈ as := List.mem_iff_getElem?.mpr ⟨_, ha⟩
  refine ⟨by rw [upd_ne (show g ≠ a from fun z => g4 (z ▸ hma))]; exact g1, g2, g3, g4, fun i b hb => ?_⟩
  by_cases e : b = a
  · subst e
    have hi : i = y.toNat := nd_ix g3 hb ha
    rw [upd_same, ← List.map_set, rowOf_set x0 x1]
    refine congrArg (fun l => some (HO.lst (List.map V.int l))) (rowOf_congr fun b b0 b1 => ?_)
    unfold updF
    have : (i : Int) = y := by omega
    rw [this]
    simp only [true_and]
  · rw [upd_ne e, g5 i b hb]
    have hne : (i : Int) ≠ y := fun z => e (by
      have : i = y.toNat := by omega
      rw [this, ha] at hb
      exact (Option.some.inj hb).symm)
    refine congrArg (fun l => some (HO.lst (List.map V.int l))) (rowOf_congr fun b b0 b1 => ?_)
    unfold updF
    rw [if_neg (fun z => hne z.1)]
/-- rows[y][x] = v -/
theorem gl_grid {g : Addr} {as : List Addr} {h w : Nat} {cur : Int → Int → Int} {y x v : Int} (G : Grid H g as h w cur) (hv : Ev te σ H (.int v)) (hg : Ev to σ H (.ref g)) (hy : Ev ty σ H (.int y)) (hx : Ev tx σ H (.int x)) (y0 : 0 ≤ y) (y1 : y < h) (x0 : 0 ≤ x) (x1 : x < w)
    (k : ∀ H1 H2, Ex H H1 → (∀ b o, b ∉ as → H1 b = some o → H2 b = some o) → ExI H H2 → Grid H2 g as h w (updF cur y x v) → GoN D σ H2) : Go (tAsg te (gSub (tOp (rIxL K) to ty) tx rSetL)) D σ H := by
  have hlt : y.toNat < as.length := by rw [G.2.1]; omega
  have ha : as[y.toNat]? = some as[y.toNat] := List.getElem?_eq_getElem hlt
  have hl := G.2.2.2.2 _ _ ha
  rw [show ((y.toNat : Nat) : Int) = y by omega] at hl
  have hat : atI (as.map V.ref) y = some (.ref as[y.toNat]) := by
    obtain ⟨j, rfl⟩ := Int.eq_ofNat_of_zero_le y0
    refine atI_nat ?_
    rw [List.getElem?_map]
    have ha2 : as[j]? = some as[((j : Int)).toNat] := ha
    rw [ha2]
    rfl
  refine gl_setL hl hv (ev_ixL hg hy (sq_of G.1) hat) hx x0 (by rw [List.length_map, len_rowOf]; exact x1) fun H1 e1 => ?_
  refine k H1 _ e1 (fun b o hb ho => ?_) (ExI.upd' (ExI.of e1) (e1 _ _ hl)) ((G.up e1).set ha y0 y1 x0 x1)
  rw [upd_ne (show b ≠ as[y.toNat] from fun z => hb (z ▸ List.getElem_mem hlt))]
  exact ho
theorem go_grid {g : Addr} {as : List Addr} {h w : Nat} {cur : Int → Int → Int} {y x v : Int} (G : Grid H g as h w cur) (hv : Ev te σ H (.int v)) (hg : Ev to σ H (.ref g)) (hy : Ev ty σ H (.int y)) (hx : Ev tx σ H (.int x)) (y0 : 0 ≤ y) (y1 : y < h) (x0 : 0 ≤ x) (x1 : x < w)
    (k : ∀ H1 H2, Ex H H1 → (∀ b o, b ∉ as → H1 b = some o → H2 b = some o) → ExI H H2 → Grid H2 g as h w (updF cur y x v) → Go tz D σ H2) : Go (tSeq (tAsg te (gSub (tOp (rIxL K) to ty) tx rSetL)) tz) D σ H := gl_grid (D := { D with nx := tz D }) G hv hg hy hx y0 y1 x0 x1 k
theorem ev_lenG {g : Addr} {as : List Addr} {h w : Nat} {cur : Int → Int → Int} (G : Grid H g as h w cur) (hg : Ev to σ H (.ref g)) : Ev (tCB (rLenS K) (tCons to tNil)) σ H (.int (h : Int)) := by
  have := ev_lenL (K := K) hg (sq_of G.1)
  rwa [List.length_map, G.2.1] at this
theorem ev_wideG {g : Addr} {as : List Addr} {h w : Nat} {cur : Int → Int → Int} (G : Grid H g as h w cur) (h0 : 0 < h) (hg : Ev to σ H (.ref g)) (hy : Ev ty σ H (.int 0)) : Ev (tCB (rLenS K) (tCons (tOp (rIxL K) to ty) tNil)) σ H (.int (w : Int)) := by
  have hlt : 0 < as.length := by rw [G.2.1]; exact h0
  have ha : as[0]? = some as[0] := List.getElem?_eq_getElem hlt
  have hat : atI (as.map V.ref) ((0 : Nat) : Int) = some (.ref as[0]) := atI_nat (by rw [List.getElem?_map, ha]; rfl)
  have := ev_lenL (K := K) (ev_ixL (K := K) hg hy (sq_of G.1) hat) (sq_of (G.2.2.2.2 _ _ ha))
  rwa [List.length_map, len_rowOf] at this
/-- [list(row) for row in board] -/
theorem elg_T {v : V} {f : Int → Int → Int} {h w : Nat} {tl : TE} {j : Nat} {vs : List Nat} (hb : BdV K (mk h w f) v H) (hh : h ≤ 1000) (hl : Ev tl σ H v) (hw : ∀ x, wipe ((wipe σ vs).set j (some x)) vs = wipe σ vs)
    (he : ∀ x, ((wipe σ vs).set j (some x))[j]? = some (some x)) :
    ∀ H1, Ex H H1 → ∀ Q : VK, (∀ g as H2, H1 g = none → Ex H1 H2 → (∀ a ∈ as, H1 a = none) → Grid H2 g as h w f → Q (.ref g) H2) → tLc (iTup K tl) (gName j) tYes (tCB (rListS K) (tCons (tVar j) tNil)) vs σ H1 Q := by
  intro H1 e Q q
  obtain ⟨p, xs, rfl, hs, hlen, hr⟩ := hb
  rw [len_mk] at hlen
  refine hl H1 e _ fun H2 e2 => ⟨p, rfl, ⟨xs, ex_t (e.trans e2) hs⟩, fun Dl hD => ?_⟩
  refine lc_tup (xs := xs) (fun i H' => H2 Dl = none ∧ Ex H2 H' ∧ ∃ as : List Addr, as.length = i ∧ H' Dl = some (.lst (as.map V.ref)) ∧ as.Nodup ∧ Dl ∉ as ∧ (∀ a ∈ as, H2 a = none) ∧ ∀ (k : Nat) (a : Addr), as[k]? = some a → H' a = some (.lst ((rowOf w (f (k : Int))).map V.int)))
    ⟨hD, Ex.new hD, [], rfl, upd_same, List.nodup_nil, by simp, by simp, fun k a hk => by cases hk⟩ (fun i H' _ p => ex_t ((e.trans e2).trans p.2.1) hs) (fun i x H' hi ⟨p1, p2, as, p3, p4, p5, p6, p7, p8⟩ => ⟨hw x, ?_⟩) (fun H' ⟨p1, p2, as, p3, p4, p5, p6, p7, p8⟩ => ?_)
  · have hil : i < h := by rw [← hlen]; exact (List.getElem?_eq_some_iff.mp hi).1
    obtain ⟨b, rfl, hb⟩ := hr i x _ hi (mk_get hil)
    refine ⟨.ref b, he _, b, _, rfl, .inr (ex_t ((e.trans e2).trans p2) hb), fun l hl => ?_⟩
    have nl : l ≠ Dl := fun z => by rw [z, p4] at hl; cases hl
    have nla : l ∉ as := fun z => by
      obtain ⟨k, hk⟩ := List.mem_iff_getElem?.mp z
      rw [p8 k l hk] at hl
      cases hl
    have hl2 : H2 l = none := fresh_back p2 hl
    refine ⟨as.map V.ref, by rw [upd_ne nl.symm]; exact p4, sz_lt (by rw [List.length_map]; omega), p1, Ex.mut (p2.trans (Ex.new hl)) p1, as ++ [l], by rw [List.length_append, p3]; rfl, ?_, ?_, ?_, ?_, ?_⟩
    · rw [upd_same, List.map_append]
      rfl
    · rw [List.nodup_append]
      refine ⟨p5, by simp, fun a ha b hb => ?_⟩
      have : b = l := by simpa using hb
      rw [this]
      exact fun z => nla (z ▸ ha)
    · simp only [List.mem_append, List.mem_singleton, not_or]
      exact ⟨p6, nl.symm⟩
    · intro a ha
      rcases List.mem_append.mp ha with ha | ha
      · exact p7 a ha
      · rw [List.mem_singleton.mp ha]
        exact hl2
    · intro k a hk
      rcases Nat.lt_or_ge k as.length with hlt | hge
      · rw [List.getElem?_append_left hlt] at hk
        have hma : a ∈ as := List.mem_iff_getElem?.mpr ⟨k, hk⟩
        rw [upd_ne (show a ≠ Dl from fun z => p6 (z ▸ hma)), upd_ne (show a ≠ l from fun z => nla (z ▸ hma))]
        exact p8 k a hk
      · rw [List.getElem?_append_right hge] at hk
        have hk0 : k = i := by
          have := (List.getElem?_eq_some_iff.mp hk).1
          simp only [List.length_singleton] at this
          omega
        subst hk0
        rw [p3, Nat.sub_self] at hk
        have : a = l := (Option.some.inj hk).symm
        subst this
        rw [upd_ne nl, upd_same]
  · exact q Dl as H' (fresh_back e2 p1) (e2.trans p2) (fun a ha => fresh_back e2 (p7 a ha)) ⟨p4, by rw [p3, hlen], p5, p6, p8⟩
/-- tuple([tuple(row) for row in rows]) of lists -/
theorem ep_gridT {g : Addr} {as : List Addr} {h w : Nat} {cur : Int → Int → Int} {tl : TE} {j : Nat} {vs : List Nat} (G : Grid H g as h w cur) (hh : h ≤ 1000) (hl : Ev tl σ H (.ref g)) (hw : ∀ x, wipe ((wipe σ vs).set j (some x)) vs = wipe σ vs)
    (he : ∀ x, ((wipe σ vs).set j (some x))[j]? = some (some x)) : EvP (tCB (rTupS K) (tCons (tLc (iList K tl) (gName j) tYes (tCB (rTupS K) (tCons (tVar j) tNil)) vs) tNil)) σ H (BdV K (mk h w cur)) := by
  obtain ⟨g1, g2, g3, g4, g5⟩ := G
  refine ep_weak (ep_tupLP (n := (as.map V.ref).length) (P := fun i => RwV K (rowOf w (cur (i : Int)))) (fun i => rw_imm _ |>.mono) (elp_L (fun i => rw_imm _) hl (sq_of g1) (by rw [List.length_map]; omega) hw fun i x hi => ?_)) fun v H1 _ hp => ?_
  · rw [List.getElem?_map] at hi
    obtain ⟨a, ha, rfl⟩ := Option.map_eq_some_iff.mp hi
    exact ep_U (eu_tupV (ev_var (he _)) (sq_of (g5 i a ha))) fun p H1 _ hp => ⟨p, rfl, st_of hp⟩
  · rw [List.length_map, g2] at hp
    exact bd_of hp
/-- tuple([tuple(row) for row in board]) of tuples -/
theorem ep_boardT {v : V} {f : Int → Int → Int} {h w : Nat} {tl : TE} {j : Nat} {vs : List Nat} (hb : BdV K (mk h w f) v H) (hh : h ≤ 1000) (hl : Ev tl σ H v) (hw : ∀ x, wipe ((wipe σ vs).set j (some x)) vs = wipe σ vs)
    (he : ∀ x, ((wipe σ vs).set j (some x))[j]? = some (some x)) : EvP (tCB (rTupS K) (tCons (tLc (iTup K tl) (gName j) tYes (tCB (rTupS K) (tCons (tVar j) tNil)) vs) tNil)) σ H (BdV K (mk h w f)) := by
  obtain ⟨p, xs, rfl, hs, hlen, hr⟩ := hb
  rw [len_mk] at hlen
  refine ep_weak (ep_tupLP (n := xs.length) (P := fun i => RwV K (rowOf w (f (i : Int)))) (fun i => rw_imm _ |>.mono) (elp_T (fun i => rw_imm _) hl hs (by omega) hw fun i x hi => ?_)) fun v H1 _ hp => ?_
  · obtain ⟨a, rfl, ha⟩ := hr i x _ hi (mk_get (by rw [← hlen]; exact (List.getElem?_eq_some_iff.mp hi).1))
    exact ep_of (eu_tupT (ev_var (he _)) ha) fun H1 e1 => ⟨a, rfl, ex_t e1 ha⟩
  · rw [hlen] at hp
    exact bd_of hp
theorem ex_keep {H0 H1 H2 : Hp} {as : List Addr} (hf : ∀ a ∈ as, H0 a = none) (e : Ex H0 H1) (k : ∀ b o, b ∉ as → H1 b = some o → H2 b = some o) : Ex H0 H2 := fun x u hx => k x u (fun z => by rw [hf x z] at hx; cases hx) (e x u hx)
theorem go_asgG {v : V} {f : Int → Int → Int} {h w : Nat} {tl : TE} {i j : Nat} {vs : List Nat} (hb : BdV K (mk h w f) v H) (hh : h ≤ 1000) (hl : Ev tl σ H v) (hw : ∀ x, wipe ((wipe σ vs).set j (some x)) vs = wipe σ vs) (he : ∀ x, ((wipe σ vs).set j (some x))[j]? = some (some x))
    (k : ∀ g as H1, H g = none → Ex H H1 → (∀ a ∈ as, H a = none) → Grid H1 g as h w f → Go tz D (σ.set i (some (.ref g))) H1) : Go (tSeq (tAsg (tLc (iTup K tl) (gName j) tYes (tCB (rListS K) (tCons (tVar j) tNil)) vs) (gName i)) tz) D σ H :=
  fun H1 e => elg_T hb hh hl hw he H1 e (fun x H2 => tz D (σ.set i (some x)) H2) fun g as H2 hg e2 hf G => k g as H2 (fresh_back e hg) (e.trans e2) (fun a ha => fresh_back e (hf a ha)) G H2 (Ex.refl H2)
end
/-- a board and a rule as they are handed in -/
structure BArg (K : PySem.W.Frag) (H : Hp) (v : V) (a : Addr) (hh ww : Nat) (c : Int) (r : List Int) (f : Int → Int → Int) : Prop where
  h1 : 1 ≤ hh
  h2 : hh ≤ 8
  w1 : 1 ≤ ww
  w2 : ww ≤ 8
  c0 : 2 ≤ c
  c1 : c ≤ 3
  hB : BdV K (mk (2 * hh) (2 * ww) f) v H
  bd : Bnd (2 * hh) (2 * ww) c f
  hR : SqL K H a (r.map V.int)
  hr : IsRule (n4 c) r
theorem BArg.up {K : PySem.W.Frag} {H H' : Hp} {v : V} {a : Addr} {hh ww : Nat} {c : Int} {r : List Int} {f : Int → Int → Int} (e : Ex H H') (A : BArg K H v a hh ww c r f) : BArg K H' v a hh ww c r f :=
  ⟨A.h1, A.h2, A.w1, A.w2, A.c0, A.c1, A.hB.up e, A.bd, ex_l e A.hR, A.hr⟩
/-- the board behind so many steps -/
def runF (h w c : Int) (r : List Int) (m : Int) : Nat → (Int → Int → Int) → Int → Int → Int
  | 0, f => f
  | n + 1, f => stepF h w c r (m + n) (runF h w c r m n f)
def backF (h w c : Int) (r : List Int) (m : Int) : Nat → (Int → Int → Int) → Int → Int → Int
  | 0, f => f
  | n + 1, f => stepF h w c (backL r) (m - 1 - n) (backF h w c r m n f)
theorem bnd_run {hh ww : Nat} {c m : Int} {r : List Int} {f : Int → Int → Int} (c0 : 2 ≤ c) (h : Bnd (2 * hh) (2 * ww) c f) : ∀ n, Bnd (2 * hh) (2 * ww) c (runF (2 * (hh : Int)) (2 * (ww : Int)) c r m n f)
  | 0 => h
  | n + 1 => fun y x _ _ _ _ => block_rng _ c0 _
theorem bnd_back {hh ww : Nat} {c m : Int} {r : List Int} {f : Int → Int → Int} (c0 : 2 ≤ c) (h : Bnd (2 * hh) (2 * ww) c f) : ∀ n, Bnd (2 * hh) (2 * ww) c (backF (2 * (hh : Int)) (2 * (ww : Int)) c r m n f)
  | 0 => h
  | n + 1 => fun y x _ _ _ _ => block_rng _ c0 _
/-- rows so far -/
def RwsV (K : PySem.W.Frag) (B : List (List Int)) (vs : List V) (H : Hp) : Prop := vs.length = B.length ∧ ∀ (i : Nat) (u : V) (r : List Int), vs[i]? = some u → B[i]? = some r → RwV K r u H
theorem RwsV.imm {K : PySem.W.Frag} {B : List (List Int)} {vs : List V} {H H' : Hp} (e : ExI H H') (h : RwsV K B vs H) : RwsV K B vs H' := ⟨h.1, fun i u r h1 h2 => rw_imm r u H H' e (h.2 i u r h1 h2)⟩
theorem RwsV.snoc {K : PySem.W.Frag} {B : List (List Int)} {vs : List V} {H : Hp} {r : List Int} {u : V} (h : RwsV K B vs H) (hr : RwV K r u H) : RwsV K (B ++ [r]) (vs ++ [u]) H := by
  refine ⟨by rw [List.length_append, List.length_append, h.1]; rfl, fun i u' r' h1 h2 => ?_⟩
  rcases Nat.lt_or_ge i vs.length with hi | hi
  · rw [List.getElem?_append_left hi] at h1
    rw [List.getElem?_append_left (by rw [← h.1]; exact hi)] at h2
    exact h.2 i u' r' h1 h2
  · rw [List.getElem?_append_right hi] at h1
    rw [List.getElem?_append_right (by rw [← h.1]; exact hi)] at h2
    rw [← h.1] at h2
    have h0 : i - vs.length = 0 := by
      have := (List.getElem?_eq_some_iff.mp h1).1
      simp only [List.length_singleton] at this
      omega
    rw [h0] at h1 h2
    rw [← Option.some.inj h1, ← Option.some.inj h2]
    exact hr
theorem int_bool (k : Bool) : -18446744073709551616 < (if k then (1 : Int) else 0) ∧ (if k then (1 : Int) else 0) < 18446744073709551616 := by cases k <;> decide
end BT
namespace BT
open PySem PySem.Spec PyProof.Rows L2 Evl
/-! ### steps undone (plain) -/
def EqOn (hh ww : Nat) (f g : Int → Int → Int) : Prop := ∀ y x : Int, 0 ≤ y → y < 2 * (hh : Int) → 0 ≤ x → x < 2 * (ww : Int) → f y x = g y x
theorem EqOn.refl {hh ww : Nat} (f : Int → Int → Int) : EqOn hh ww f f := fun _ _ _ _ _ _ => rfl
theorem EqOn.symm {hh ww : Nat} {f g : Int → Int → Int} (h : EqOn hh ww f g) : EqOn hh ww g f := fun y x a b c d => (h y x a b c d).symm
theorem EqOn.trans {hh ww : Nat} {f g k : Int → Int → Int} (h : EqOn hh ww f g) (h2 : EqOn hh ww g k) : EqOn hh ww f k := fun y x a b c d => (h y x a b c d).trans (h2 y x a b c d)
theorem mk_eq {hh ww : Nat} {f g : Int → Int → Int} (h : EqOn hh ww f g) : mk (2 * hh) (2 * ww) f = mk (2 * hh) (2 * ww) g := mk_congr fun y x a b c d => h y x a (by omega) c (by omega)
theorem mk_eq_iff {hh ww : Nat} {f g : Int → Int → Int} : mk (2 * hh) (2 * ww) f = mk (2 * hh) (2 * ww) g ↔ EqOn hh ww f g := ⟨fun e y x a b c d => mk_inj e a (by omega) c (by omega), mk_eq⟩
theorem low_rng {Y : Int} {hh : Nat} (h0 : 0 ≤ Y) (h1 : Y < 2 * (hh : Int)) : 0 ≤ (Y + 1) % (2 * (hh : Int)) ∧ (Y + 1) % (2 * (hh : Int)) < 2 * (hh : Int) ∧ (Y + 1) % (2 * (hh : Int)) ≠ Y := by
  rw [succ_mod h0 h1]
  split <;> omega
theorem step_congr {hh ww : Nat} {c m : Int} {r : List Int} {f g : Int → Int → Int} (e : EqOn hh ww f g) : EqOn hh ww (stepF (2 * (hh : Int)) (2 * (ww : Int)) c r m f) (stepF (2 * (hh : Int)) (2 * (ww : Int)) c r m g) := by
  intro y x y0 y1 x0 x1
  obtain ⟨t0, t1⟩ := top_rng (m := m) y0 y1
  obtain ⟨l0, l1⟩ := top_rng (m := m) x0 x1
  obtain ⟨a0, a1, _⟩ := low_rng t0 t1
  obtain ⟨b0, b1, _⟩ := low_rng l0 l1
  unfold stepF
  rw [e _ _ t0 t1 l0 l1, e _ _ t0 t1 b0 b1, e _ _ a0 a1 l0 l1, e _ _ a0 a1 b0 b1]
theorem bnd_eq {hh ww : Nat} {c : Int} {f g : Int → Int → Int} (e : EqOn hh ww f g) (h : Bnd (2 * hh) (2 * ww) c f) : Bnd (2 * hh) (2 * ww) c g := fun y x a b p q => by
  rw [← e y x a (by omega) p (by omega)]
  exact h y x a b p q
/-- a block's number, by its upper left cell -/
def numF (h w c : Int) (f : Int → Int → Int) (Y X : Int) : Int := numM [f Y X, f Y ((X + 1) % w), f ((Y + 1) % h) X, f ((Y + 1) % h) ((X + 1) % w)] c
theorem step_at {hh ww : Nat} {c m : Int} {r : List Int} {f : Int → Int → Int} {Y X y x : Int} (hY0 : 0 ≤ Y) (hY1 : Y < 2 * (hh : Int)) (hX0 : 0 ≤ X) (hX1 : X < 2 * (ww : Int)) (pY : (Y - m) % 2 = 0) (pX : (X - m) % 2 = 0)
    (hy : y = Y ∨ y = (Y + 1) % (2 * (hh : Int))) (hx : x = X ∨ x = (X + 1) % (2 * (ww : Int))) :
    stepF (2 * (hh : Int)) (2 * (ww : Int)) c r m f y x = at0 (blockM (at0 r (numF (2 * (hh : Int)) (2 * (ww : Int)) c f Y X)) c) ((if y = Y then 0 else 2) + if x = X then 0 else 1) := by
  obtain ⟨a0, a1, _⟩ := low_rng hY0 hY1
  obtain ⟨b0, b1, _⟩ := low_rng hX0 hX1
  have y0 : 0 ≤ y ∧ y < 2 * (hh : Int) := by rcases hy with rfl | rfl <;> omega
  have x0 : 0 ≤ x ∧ x < 2 * (ww : Int) := by rcases hx with rfl | rfl <;> omega
  have ty := (top_iff y0.1 y0.2 hY0 hY1 pY).mpr hy
  have tx := (top_iff x0.1 x0.2 hX0 hX1 pX).mpr hx
  unfold stepF numF
  rw [ty, tx]
theorem num_block {n c : Int} (h0 : 2 ≤ c) (h1 : c ≤ 3) (hn : 0 ≤ n) (hm : n < c * c * c * c) : numM (blockM n c) c = n := by
  have e : numM (blockM n c) c = (((0 * c + n / c / c / c % c) * c + n / c / c % c) * c + n / c % c) * c + n % c := rfl
  rw [e]
  rcases col_four h0 h1 with ⟨rfl, e2⟩ | ⟨rfl, e2⟩
  · rw [e2] at hm; omega
  · rw [e2] at hm; omega
theorem block_num {a b d e c : Int} (c0 : 2 ≤ c) (c1 : c ≤ 3) (ha : 0 ≤ a ∧ a < c) (hb : 0 ≤ b ∧ b < c) (hd : 0 ≤ d ∧ d < c) (he : 0 ≤ e ∧ e < c) : blockM (numM [a, b, d, e] c) c = [a, b, d, e] := by
  rw [numM4]
  unfold blockM
  rcases (show c = 2 ∨ c = 3 by omega) with rfl | rfl
  · rw [show ((((0 * 2 + a) * 2 + b) * 2 + d) * 2 + e) / 2 / 2 / 2 % 2 = a by omega, show ((((0 * 2 + a) * 2 + b) * 2 + d) * 2 + e) / 2 / 2 % 2 = b by omega, show ((((0 * 2 + a) * 2 + b) * 2 + d) * 2 + e) / 2 % 2 = d by omega, show ((((0 * 2 + a) * 2 + b) * 2 + d) * 2 + e) % 2 = e by omega]
  · rw [show ((((0 * 3 + a) * 3 + b) * 3 + d) * 3 + e) / 3 / 3 / 3 % 3 = a by omega, show ((((0 * 3 + a) * 3 + b) * 3 + d) * 3 + e) / 3 / 3 % 3 = b by omega, show ((((0 * 3 + a) * 3 + b) * 3 + d) * 3 + e) / 3 % 3 = d by omega, show ((((0 * 3 + a) * 3 + b) * 3 + d) * 3 + e) % 3 = e by omega]
theorem numF_rng {hh ww : Nat} {c : Int} {f : Int → Int → Int} {Y X : Int} (c0 : 2 ≤ c) (c1 : c ≤ 3) (hb : Bnd (2 * hh) (2 * ww) c f) (hY0 : 0 ≤ Y) (hY1 : Y < 2 * (hh : Int)) (hX0 : 0 ≤ X) (hX1 : X < 2 * (ww : Int)) :
    0 ≤ numF (2 * (hh : Int)) (2 * (ww : Int)) c f Y X ∧ numF (2 * (hh : Int)) (2 * (ww : Int)) c f Y X < (n4 c : Int) := by
  obtain ⟨a0, a1, _⟩ := low_rng hY0 hY1
  obtain ⟨b0, b1, _⟩ := low_rng hX0 hX1
  rw [(n4_int c0 c1).1]
  exact num_rng c0 c1 (hb _ _ hY0 (by omega) hX0 (by omega)) (hb _ _ hY0 (by omega) b0 (by omega)) (hb _ _ a0 (by omega) hX0 (by omega)) (hb _ _ a0 (by omega) b0 (by omega))
theorem numF_block {hh ww : Nat} {c : Int} {f : Int → Int → Int} {Y X : Int} (c0 : 2 ≤ c) (c1 : c ≤ 3) (hb : Bnd (2 * hh) (2 * ww) c f) (hY0 : 0 ≤ Y) (hY1 : Y < 2 * (hh : Int)) (hX0 : 0 ≤ X) (hX1 : X < 2 * (ww : Int)) :
    blockM (numF (2 * (hh : Int)) (2 * (ww : Int)) c f Y X) c = [f Y X, f Y ((X + 1) % (2 * (ww : Int))), f ((Y + 1) % (2 * (hh : Int))) X, f ((Y + 1) % (2 * (hh : Int))) ((X + 1) % (2 * (ww : Int)))] := by
  obtain ⟨a0, a1, _⟩ := low_rng hY0 hY1
  obtain ⟨b0, b1, _⟩ := low_rng hX0 hX1
  exact block_num c0 c1 (hb _ _ hY0 (by omega) hX0 (by omega)) (hb _ _ hY0 (by omega) b0 (by omega)) (hb _ _ a0 (by omega) hX0 (by omega)) (hb _ _ a0 (by omega) b0 (by omega))
/-- the number of a block behind a step -/
theorem numF_step {hh ww : Nat} {c m : Int} {r : List Int} {f : Int → Int → Int} {Y X : Int} (c0 : 2 ≤ c) (c1 : c ≤ 3) (hr : IsRule (n4 c) r) (hb : Bnd (2 * hh) (2 * ww) c f) (hY0 : 0 ≤ Y) (hY1 : Y < 2 * (hh : Int)) (hX0 : 0 ≤ X) (hX1 : X < 2 * (ww : Int)) (pY : (Y - m) % 2 = 0) (pX : (X - m) % 2 = 0) :
    numF (2 * (hh : Int)) (2 * (ww : Int)) c (stepF (2 * (hh : Int)) (2 * (ww : Int)) c r m f) Y X = at0 r (numF (2 * (hh : Int)) (2 * (ww : Int)) c f Y X) := by
  obtain ⟨_, _, a2⟩ := low_rng hY0 hY1
  obtain ⟨_, _, b2⟩ := low_rng hX0 hX1
  obtain ⟨n0, n1⟩ := numF_rng c0 c1 hb hY0 hY1 hX0 hX1
  obtain ⟨r0, r1⟩ := hr.at n0 n1
  rw [(n4_int c0 c1).1] at r1
  have s := fun y x hy hx => step_at (c := c) (r := r) (f := f) (y := y) (x := x) hY0 hY1 hX0 hX1 pY pX hy hx
  have e := num_block c0 c1 r0 r1
  generalize numF (2 * (hh : Int)) (2 * (ww : Int)) c f Y X = n at *
  show numM [_, _, _, _] c = _
  rw [s Y X (.inl rfl) (.inl rfl), s Y _ (.inl rfl) (.inr rfl), s _ X (.inr rfl) (.inl rfl), s _ _ (.inr rfl) (.inr rfl), if_pos rfl, if_pos rfl, if_neg a2, if_neg b2]
  exact e
/-- the cell (y, x) in its block -/
theorem cell_at {hh ww : Nat} {m : Int} {f : Int → Int → Int} {y x : Int} (y0 : 0 ≤ y) (y1 : y < 2 * (hh : Int)) (x0 : 0 ≤ x) (x1 : x < 2 * (ww : Int)) :
    at0 [f (topM m y (2 * (hh : Int))) (topM m x (2 * (ww : Int))), f (topM m y (2 * (hh : Int))) ((topM m x (2 * (ww : Int)) + 1) % (2 * (ww : Int))), f ((topM m y (2 * (hh : Int)) + 1) % (2 * (hh : Int))) (topM m x (2 * (ww : Int))), f ((topM m y (2 * (hh : Int)) + 1) % (2 * (hh : Int))) ((topM m x (2 * (ww : Int)) + 1) % (2 * (ww : Int)))]
      ((if y = topM m y (2 * (hh : Int)) then 0 else 2) + if x = topM m x (2 * (ww : Int)) then 0 else 1) = f y x := by
  obtain ⟨t0, t1⟩ := top_rng (m := m) y0 y1
  obtain ⟨l0, l1⟩ := top_rng (m := m) x0 x1
  have hy := (top_iff y0 y1 t0 t1 (top_par y0 y1)).mp rfl
  have hx := (top_iff x0 x1 l0 l1 (top_par x0 x1)).mp rfl
  generalize topM m y (2 * (hh : Int)) = t at *
  generalize topM m x (2 * (ww : Int)) = l at *
  obtain ⟨_, _, a2⟩ := low_rng t0 t1
  obtain ⟨_, _, b2⟩ := low_rng l0 l1
  rcases hy with ey | ey <;> rcases hx with ex | ex
  · rw [if_pos ey, if_pos ex, ey, ex]; rfl
  · rw [if_pos ey, if_neg (by omega), ey, ex]; rfl
  · rw [if_neg (by omega), if_pos ex, ey, ex]; rfl
  · rw [if_neg (by omega), if_neg (by omega), ey, ex]; rfl
theorem step_back {hh ww : Nat} {c m : Int} {r : List Int} {f : Int → Int → Int} (c0 : 2 ≤ c) (c1 : c ≤ 3) (hr : IsRule (n4 c) r) (hb : Bnd (2 * hh) (2 * ww) c f) :
    EqOn hh ww (stepF (2 * (hh : Int)) (2 * (ww : Int)) c (backL r) m (stepF (2 * (hh : Int)) (2 * (ww : Int)) c r m f)) f := by
  intro y x y0 y1 x0 x1
  obtain ⟨t0, t1⟩ := top_rng (m := m) y0 y1
  obtain ⟨l0, l1⟩ := top_rng (m := m) x0 x1
  have py := top_par (m := m) y0 y1
  have px := top_par (m := m) x0 x1
  have hy := (top_iff y0 y1 t0 t1 py).mp rfl
  have hx := (top_iff x0 x1 l0 l1 px).mp rfl
  rw [step_at t0 t1 l0 l1 py px hy hx, numF_step c0 c1 hr hb t0 t1 l0 l1 py px]
  obtain ⟨n0, n1⟩ := numF_rng c0 c1 hb t0 t1 l0 l1
  rw [back_at hr n0 n1, numF_block c0 c1 hb t0 t1 l0 l1]
  exact cell_at y0 y1 x0 x1
theorem back_step {hh ww : Nat} {c m : Int} {r : List Int} {f : Int → Int → Int} (c0 : 2 ≤ c) (c1 : c ≤ 3) (hr : IsRule (n4 c) r) (hb : Bnd (2 * hh) (2 * ww) c f) :
    EqOn hh ww (stepF (2 * (hh : Int)) (2 * (ww : Int)) c r m (stepF (2 * (hh : Int)) (2 * (ww : Int)) c (backL r) m f)) f := by
  have := step_back (m := m) c0 c1 (isRule_back hr) hb
  rwa [back_back hr] at this
theorem run_congr {hh ww : Nat} {c m : Int} {r : List Int} {f g : Int → Int → Int} (e : EqOn hh ww f g) : ∀ n, EqOn hh ww (runF (2 * (hh : Int)) (2 * (ww : Int)) c r m n f) (runF (2 * (hh : Int)) (2 * (ww : Int)) c r m n g)
  | 0 => e
  | n + 1 => step_congr (run_congr e n)
theorem backF_congr {hh ww : Nat} {c m : Int} {r : List Int} {f g : Int → Int → Int} (e : EqOn hh ww f g) : ∀ n, EqOn hh ww (backF (2 * (hh : Int)) (2 * (ww : Int)) c r m n f) (backF (2 * (hh : Int)) (2 * (ww : Int)) c r m n g)
  | 0 => e
  | n + 1 => step_congr (backF_congr e n)
theorem back_run {hh ww : Nat} {c m : Int} {r : List Int} {f : Int → Int → Int} (c0 : 2 ≤ c) (c1 : c ≤ 3) (hr : IsRule (n4 c) r) (hb : Bnd (2 * hh) (2 * ww) c f) (N : Nat) :
    ∀ k, k ≤ N → EqOn hh ww (backF (2 * (hh : Int)) (2 * (ww : Int)) c r (m + N) k (runF (2 * (hh : Int)) (2 * (ww : Int)) c r m N f)) (runF (2 * (hh : Int)) (2 * (ww : Int)) c r m (N - k) f)
  | 0, _ => EqOn.refl _
  | k + 1, hk => by
    have ih := back_run c0 c1 hr hb N k (by omega) (m := m)
    obtain ⟨j, hj⟩ : ∃ j, N - k = j + 1 := ⟨N - k - 1, by omega⟩
    rw [show N - (k + 1) = j by omega]
    rw [hj] at ih
    refine (step_congr ih).trans ?_
    rw [show m + (N : Int) - 1 - (k : Int) = m + (j : Int) by omega]
    exact step_back c0 c1 hr (bnd_run c0 hb j)
theorem run_back {hh ww : Nat} {c m : Int} {r : List Int} {f : Int → Int → Int} (c0 : 2 ≤ c) (c1 : c ≤ 3) (hr : IsRule (n4 c) r) (hb : Bnd (2 * hh) (2 * ww) c f) (N : Nat) :
    ∀ k, k ≤ N → EqOn hh ww (runF (2 * (hh : Int)) (2 * (ww : Int)) c r (m - N) k (backF (2 * (hh : Int)) (2 * (ww : Int)) c r m N f)) (backF (2 * (hh : Int)) (2 * (ww : Int)) c r m (N - k) f)
  | 0, _ => EqOn.refl _
  | k + 1, hk => by
    have ih := run_back c0 c1 hr hb N k (by omega) (m := m)
    obtain ⟨j, hj⟩ : ∃ j, N - k = j + 1 := ⟨N - k - 1, by omega⟩
    rw [show N - (k + 1) = j by omega]
    rw [hj] at ih
    refine (step_congr ih).trans ?_
    rw [show m - (N : Int) + (k : Int) = m - 1 - (j : Int) by omega]
    exact back_step c0 c1 hr (bnd_back c0 hb j)
theorem run_add {h w c m : Int} {r : List Int} {f : Int → Int → Int} (a : Nat) : ∀ b : Nat, runF h w c r (m + a) b (runF h w c r m a f) = runF h w c r m (a + b) f
  | 0 => rfl
  | b + 1 => by
    show stepF h w c r (m + a + b) (runF h w c r (m + a) b (runF h w c r m a f)) = stepF h w c r (m + ((a + b : Nat) : Int)) (runF h w c r m (a + b) f)
    rw [run_add a b, show m + (a : Int) + (b : Int) = m + ((a + b : Nat) : Int) by omega]
/-- the rule back, run as a rule -/
theorem run_backL {h w c m : Int} {r : List Int} {f : Int → Int → Int} : runF h w c (backL r) (m - 1) 1 f = backF h w c r m 1 f := by
  show stepF h w c (backL r) (m - 1 + ((0 : Nat) : Int)) f = stepF h w c (backL r) (m - 1 - ((0 : Nat) : Int)) f
  rw [show m - 1 + ((0 : Nat) : Int) = m - 1 - ((0 : Nat) : Int) by omega]
end BT
namespace BT
open PySem PySem.Spec PyProof.Rows L2 Evl
/-! ### own errors -/
structure ErrAt (K : PySem.W.Frag) (mg : Str → Option Value) (x : Str) (C : Addr) : Prop where
  nP : PySem.W.nsIn K mainGlobals x = some (some (.ref C))
  gP : mg x = some (.ref C)
  xP : PySem.W.excIn K C [.type "ValueError", .type "Exception", .type "BaseException", .type "object"] "ValueError.__new__" = true
  kP : PySem.W.keepIn K (.ref C) = true
  bP : PySem.W.subIn K (.ref C) (.type "BaseException") = some true
  vP : PySem.W.subIn K (.ref C) (.type "ValueError") = some true
  tP : PySem.W.typeIn K (.ref C) = some (.type "type")
  iP : PySem.W.isClsIn K C = true
  sP : PySem.W.subIn K (.ref C) (.ref C) = some true
  E : ExcC K C
/-- an error by name may leave -/
def RaiseE (K : PySem.W.Frag) (x : Str) (H : Hp) (E : XK) : Prop := ∀ C, PySem.W.nsIn K mainGlobals x = some (some (.ref C)) → ∀ H1, Ex H H1 → E (.ref C) none H1
/-- .. may not leave (where no error is raised) -/
def RaiseC (K : PySem.W.Frag) (x : Str) (H : Hp) (E : XK) : Prop := ∀ C, PySem.W.nsIn K mainGlobals x = some (some (.ref C)) → ∀ H1, Ex H H1 → False
section
variable {K : PySem.W.Frag} {mg : Str → Option Value} {x y : Str} {C D : Addr} {cls : Value} {b : Bool}
theorem RaiseE.up {H H' : Hp} {E : XK} (e : Ex H H') (h : RaiseE K x H E) : RaiseE K x H' E := fun C hC H1 e1 => h C hC H1 (e.trans e1)
theorem ErrAt.same {C2 : Addr} (G : ErrAt K mg x C) (h : PySem.W.nsIn K mainGlobals x = some (some (.ref C2))) : C2 = C := by
  have := h.symm.trans G.nP
  exact Value.ref.inj (Option.some.inj (Option.some.inj this))
theorem ErrAt.kit (G : ErrAt K mg x C) (h : PySem.W.subIn K cls (.ref C) = some b) : PySem.W.kitCls K cls (.ref C) = some b := by
  unfold PySem.W.kitCls
  have h1 := G.iP
  unfold PySem.W.isClsIn at h1
  dsimp only
  rw [if_pos (by rw [h1, G.tP]; rfl)]
  exact h
theorem ErrAt.exm (G : ErrAt K mg x C) (h : PySem.W.subIn K cls (.ref C) = some b) : PySem.W.exmOne K cls (.ref C) = some b := by
  unfold PySem.W.exmOne
  rw [if_pos (by rw [G.bP]; rfl)]
  exact G.kit h
theorem ErrAt.exmSelf (G : ErrAt K mg x C) : PySem.W.exmOne K (.ref C) (.ref C) = some true := G.exm G.sP
theorem kit_self : PySem.W.kitOne K (.ref C) (.ref C) = some true := by
  unfold PySem.W.kitOne
  rw [if_pos (by simp)]
theorem ErrAt.ne (G : ErrAt K mg x C) (h : PySem.W.subIn K (.ref D) (.ref C) = some false) : D ≠ C := fun z => by
  rw [z, G.sP] at h
  cases h
theorem ErrAt.kitF (G : ErrAt K mg x C) (h : PySem.W.subIn K (.ref D) (.ref C) = some false) : PySem.W.kitOne K (.ref D) (.ref C) = some false := by
  unfold PySem.W.kitOne
  rw [if_neg (by simpa using G.ne h)]
  exact G.kit h
theorem ErrAt.kitO (G : ErrAt K mg x C) (hne : D ≠ C) (h : PySem.W.subIn K (.ref D) (.ref C) = some b) : PySem.W.kitOne K (.ref D) (.ref C) = some b := by
  unfold PySem.W.kitOne
  rw [if_neg (by simpa using hne)]
  exact G.kit h
theorem ErrAt.kitV (G : ErrAt K mg x C) : PySem.W.kitOne K (.ref C) (.type "ValueError") = some true := by
  unfold PySem.W.kitOne
  rw [if_neg (by simp)]
  show (if PySem.W.kitMeta "ValueError" = true then PySem.W.subIn K (.ref C) (.type "ValueError") else none) = some true
  rw [if_pos (by decide +kernel)]
  exact G.vP
/-- isinstance(e, c), e any exception that the suite holds -/
def rIsX (K : PySem.W.Frag) (cls : Value) (d : Option Addr) (a : Addr) : List V → Hp → VK → Prop := fun xs H Q => ∃ D, cls = .ref D ∧ d = none ∧ ExcC K D ∧ rIsE K D a xs H Q
theorem call_isX {X : Cx} {a : Addr} {oe : Obj} {d : Option Addr} {pn : List (Addr × Obj)} (hz : Zc cls d oe) (hf : ∃ vs, oe.data = .fields vs) : CallR (X.suite a ((a, oe) :: pn)) (.builtin "isinstance") (rIsX X.K cls d a) := by
  intro pins s σ H xs us Q I r h
  obtain ⟨D, rfl, rfl, hE, h⟩ := h
  exact call_isE hE hz hf pins s σ H xs us Q I r h
end
section
variable {K : PySem.W.Frag} {σ : L2.St} {H H' : Hp} {ta tb te tx : TE} {t u : TT} {x y z v : V} {P : V → Hp → Prop} {D : Ends} {tu tw tz : TS}
theorem ev_isX {a C : Addr} {c : V} {cv : Value} {b : Bool} (ha : Ev ta σ H (.ref a)) (hb : Ev tb σ H c) (hE : ExcC K C) (hc : ∀ u, RelV c u → u = cv) (hk : PySem.W.kitOne K (.ref C) cv = some b) : Ev (tCB (rIsX K (.ref C) none a) (tCons ta (tCons tb tNil))) σ H (.bl b) :=
  fun H1 e Q q => ha H1 e _ fun H2 e2 => hb H2 (e.trans e2) _ fun H3 e3 => ⟨C, rfl, rfl, hE, c, cv, b, rfl, hc, hk, q H3 (e2.trans e3)⟩
/-! lists of bools -/
theorem dpBl : ∀ (bs : List Bool), DpAll K H (bs.map V.bl) (bs.map PyData.bool)
  | [] => .nil
  | b :: r => .cons (.bl b) (dpBl r)
theorem eqvBl : ∀ (ns ms : List Bool), PyData.eqvAll (ns.map PyData.bool) (ms.map PyData.bool) = decide (ns = ms)
  | [], [] => rfl
  | [], _ :: _ => rfl
  | _ :: _, [] => rfl
  | a :: r, b :: s => by
    show (PyData.eqv (.bool a) (.bool b) && PyData.eqvAll (r.map PyData.bool) (s.map PyData.bool)) = _
    rw [eqvBl r s]
    cases a <;> cases b <;> by_cases h2 : r = s <;> simp [h2, PyData.eqv]
theorem layBl : ∀ (ns : List Bool), PyData.canLayAll0 (ns.map PyData.bool) = true ∧ PyData.depthAll (ns.map PyData.bool) ≤ 1
  | [] => ⟨rfl, by simp [PyData.depthAll]⟩
  | n :: r => by
    obtain ⟨h1, h2⟩ := layBl r
    refine ⟨?_, ?_⟩
    · simp [PyData.canLayAll0, PyData.canLay0, h1]
    · simp only [List.map_cons, PyData.depthAll, PyData.depth]
      omega
theorem shaped_bl (r : List Bool) : SeqAt.shaped (.list (r.map PyData.bool)) = true := by
  obtain ⟨h1, h2⟩ := layBl r
  unfold SeqAt.shaped
  simp only [PyData.canLay0, PyData.depth, h1, Bool.true_and]
  exact decide_eq_true (by omega)
theorem rv_eqBs {p q : Addr} {ns ms : List Bool} (h1 : SqL K H p (ns.map V.bl)) (h2 : SqL K H q (ms.map V.bl)) : RV (rEqD K) (.ref p) (.ref q) H (.bl (decide (ns = ms))) :=
  fun H1 e Q k => ⟨_, _, .lst (ex_l e h1) (dpBl ns), .lst (ex_l e h2) (dpBl ms), shaped_bl ns, shaped_bl ms, by rw [PyData.eqv, eqvBl]; exact k H1 (Ex.refl H1)⟩
theorem ev_eqBs {p : Addr} {ns ms : List Bool} (ha : Ev ta σ H (.ref p)) (h : SqL K H p (ns.map V.bl)) (hb : EvL tb σ H (ms.map V.bl)) : Ev (tOp (rEqD K) ta tb) σ H (.bl (decide (ns = ms))) :=
  ev_opL ha hb fun q H1 hq e => rv_eqBs (ex_l e h) (sq_of hq)
/-- what a call that may raise promises: a value of which P holds, or an error of which R holds -/
def SpX (sp : Sp) (vs : List V) (H : Hp) (P : V → Hp → Prop) (R : Value → Prop) : Prop := ∀ H1, Ex H H1 → ∀ (Q : VK) (E : XK), (∀ v H2, Ex H1 H2 → P v H2 → Q v H2) → (∀ cls H2, Ex H1 H2 → R cls → E cls none H2) → sp vs H1 Q E
theorem go_tryAs {i j : Nat} {c : Value} {ts : Addr → Value → Option Addr → TS} {Wout : WX} {sp : Sp} {ta : TA} {vs : List V} {R : Value → Prop} (h : EvA ta σ H vs) (hs : SpX sp vs H P R)
    (k1 : ∀ v H1, Ex H H1 → P v H1 → Go tz D (σ.set j (some v)) H1)
    (k2 : ∀ cls, R cls → PySem.W.exmOne K cls c = some true ∧ ∀ a H1, Ex H H1 → Go (ts a cls none) { nx := fun σ' H' => tz D (σ'.set i none) H', rt := D.rt, bk := fun σ' H' => D.bk (σ'.set i none) H', ct := fun σ' H' => D.ct (σ'.set i none) H' } (σ.set i (some (.ref a))) H1) :
    Go (tSeq (fun D σ H => tAsg (tCallS sp (WE (wAs K c i ts Wout D)) ta) (gName j) D σ H) tz) D σ H :=
  fun H1 e => h H1 e _ fun H2 e2 => hs H2 (e.trans e2) _ _ (fun v H3 e3 hp => k1 v H3 ((e.trans e2).trans e3) hp H3 (Ex.refl H3))
    (fun cls H3 e3 hr => ⟨true, (k2 cls hr).1, fun _ a _ => (k2 cls hr).2 a H3 ((e.trans e2).trans e3) H3 (Ex.refl H3), fun z => nomatch z⟩)
theorem gn_suite {i : Nat} {rt : VK} {bk ct : L2.St → Hp → Prop} (h : Go tz D (σ.set i none) H) : GoN { nx := fun σ' H' => tz D (σ'.set i none) H', rt := rt, bk := bk, ct := ct } σ H := fun H1 e => h H1 e
theorem go_tryAsD {i : Nat} {c : Value} {ts : Addr → Value → Option Addr → TS} {Wout : WX} {sp : Sp} {ta : TA} {vs : List V} {R : Value → Prop} (h : EvA ta σ H vs) (hs : SpX sp vs H P R)
    (k1 : ∀ v H1, Ex H H1 → P v H1 → Go tz D σ H1)
    (k2 : ∀ cls, R cls → PySem.W.exmOne K cls c = some true ∧ ∀ a H1, Ex H H1 → Go (ts a cls none) { nx := fun σ' H' => tz D (σ'.set i none) H', rt := D.rt, bk := fun σ' H' => D.bk (σ'.set i none) H', ct := fun σ' H' => D.ct (σ'.set i none) H' } (σ.set i (some (.ref a))) H1) :
    Go (tSeq (fun D σ H => tDrop (tCallS sp (WE (wAs K c i ts Wout D)) ta) D σ H) tz) D σ H :=
  fun H1 e => h H1 e _ fun H2 e2 => hs H2 (e.trans e2) _ _ (fun v H3 e3 hp => k1 v H3 ((e.trans e2).trans e3) hp H3 (Ex.refl H3))
    (fun cls H3 e3 hr => ⟨true, (k2 cls hr).1, fun _ a _ => (k2 cls hr).2 a H3 ((e.trans e2).trans e3) H3 (Ex.refl H3), fun z => nomatch z⟩)
theorem go_tryAsDP {i : Nat} {c : Value} {ts : Addr → Value → Option Addr → TS} {Wout : WX} {sp : Sp} {ta : TA} {S : List V → Hp → Prop} {R : Value → Prop} (h : EvAP ta σ H S) (hs : ∀ vs H1, Ex H H1 → S vs H1 → SpX sp vs H1 P R)
    (k1 : ∀ v H1, Ex H H1 → P v H1 → Go tz D σ H1)
    (k2 : ∀ cls, R cls → PySem.W.exmOne K cls c = some true ∧ ∀ a H1, Ex H H1 → Go (ts a cls none) { nx := fun σ' H' => tz D (σ'.set i none) H', rt := D.rt, bk := fun σ' H' => D.bk (σ'.set i none) H', ct := fun σ' H' => D.ct (σ'.set i none) H' } (σ.set i (some (.ref a))) H1) :
    Go (tSeq (fun D σ H => tDrop (tCallS sp (WE (wAs K c i ts Wout D)) ta) D σ H) tz) D σ H :=
  fun H1 e => h H1 e _ fun vs H2 e2 hS => hs vs H2 (e.trans e2) hS H2 (Ex.refl H2) _ _ (fun v H3 e3 hp => k1 v H3 ((e.trans e2).trans e3) hp H3 (Ex.refl H3))
    (fun cls H3 e3 hr => ⟨true, (k2 cls hr).1, fun _ a _ => (k2 cls hr).2 a H3 ((e.trans e2).trans e3) H3 (Ex.refl H3), fun z => nomatch z⟩)
theorem go_tryOnly {j : Nat} {c : Value} {ts : Addr → Value → Option Addr → TS} {Wout : WX} {sp : Sp} {ta : TA} {vs : List V} {R : Value → Prop} (h : EvA ta σ H vs) (hs : SpX sp vs H P R)
    (k1 : ∀ v H1, Ex H H1 → P v H1 → Go tz D (σ.set j (some v)) H1)
    (k2 : ∀ cls, R cls → PySem.W.exmOne K cls c = some true ∧ ∀ a H1, Ex H H1 → Go (ts a cls none) { D with nx := tz D } σ H1) :
    Go (tSeq (fun D σ H => tAsg (tCallS sp (WE (wOnly K c ts Wout D)) ta) (gName j) D σ H) tz) D σ H :=
  fun H1 e => h H1 e _ fun H2 e2 => hs H2 (e.trans e2) _ _ (fun v H3 e3 hp => k1 v H3 ((e.trans e2).trans e3) hp H3 (Ex.refl H3))
    (fun cls H3 e3 hr => ⟨true, (k2 cls hr).1, fun _ a _ => (k2 cls hr).2 a H3 ((e.trans e2).trans e3) H3 (Ex.refl H3), fun z => nomatch z⟩)
end
end BT
namespace BT
open PySem PySem.Spec PyProof.Rows L2 Evl
open PyProof.Rows (firstMet firstMet_succ firstMet_zero firstMet_length_le step_any step_length step_dedup)
/-! ### len(set(xs)), any ints -/
def metN (ns : List Int) (i : Nat) : List Int := firstMet (fun i => ns.getD i 0) i
def cntD (ns : List Int) : Nat := (metN ns ns.length).length
theorem metN_succ (ns : List Int) (i : Nat) : metN ns (i + 1) = step_dedup (metN ns i) (ns.getD i 0) := firstMet_succ _ i
theorem metN_mem (ns : List Int) : ∀ (j i : Nat), i < j → (metN ns j).any (· == ns.getD i 0) = true
  | 0, i, h => by omega
  | j + 1, i, h => by
    rw [metN_succ, step_any, Bool.or_eq_true]
    rcases Nat.lt_or_ge i j with h1 | h1
    · exact .inl (metN_mem ns j i h1)
    · exact .inr (decide_eq_true (by rw [show i = j by omega]))
theorem metN_len (ns : List Int) (i : Nat) : (metN ns (i + 1)).length = if (metN ns i).any (· == ns.getD i 0) then (metN ns i).length else (metN ns i).length + 1 := by rw [metN_succ, step_length]
theorem metN_le (ns : List Int) (i : Nat) : (metN ns i).length ≤ i := firstMet_length_le _ i
theorem metN_grow (ns : List Int) : ∀ (k i : Nat), (metN ns (i + k)).length ≤ (metN ns i).length + k
  | 0, i => Nat.le_refl _
  | k + 1, i => by
    have h1 := metN_grow ns k i
    have h2 := metN_len ns (i + k)
    rw [show i + (k + 1) = i + k + 1 by omega, h2]
    split <;> omega
theorem cntD_dup {ns : List Int} {i j : Nat} (h1 : i < j) (h2 : j < ns.length) (e : ns.getD i 0 = ns.getD j 0) : cntD ns < ns.length := by
  have g := metN_grow ns (ns.length - (j + 1)) (j + 1)
  rw [show j + 1 + (ns.length - (j + 1)) = ns.length by omega] at g
  have l := metN_len ns j
  rw [← e, if_pos (metN_mem ns j i h1)] at l
  have := metN_le ns j
  unfold cntD
  omega
theorem metN_full {ns : List Int} (h : ns.Nodup) : ∀ i, i ≤ ns.length → metN ns i = ns.take i
  | 0, _ => by rw [List.take_zero]; exact firstMet_zero _
  | i + 1, hi => by
    have hlt : i < ns.length := hi
    have e0 : ns.getD i 0 = ns[i] := by rw [List.getD_eq_getElem?_getD, List.getElem?_eq_getElem hlt]; rfl
    rw [metN_succ, metN_full h i (by omega), e0, List.take_succ, List.getElem?_eq_getElem hlt]
    unfold step_dedup
    rw [if_neg (fun z => ?_)]
    · rfl
    · obtain ⟨x, hx, e1⟩ := List.any_eq_true.mp z
      have e1 : x = ns[i] := beq_iff_eq.mp e1
      obtain ⟨k, hk, e2⟩ := List.getElem_of_mem hx
      rw [List.length_take] at hk
      rw [List.getElem_take] at e2
      exact List.pairwise_iff_getElem.mp h k i (by omega) hlt (by omega) (e2.trans e1)
theorem cntD_nodup {ns : List Int} (h : ns.Nodup) : cntD ns = ns.length := by
  unfold cntD
  rw [metN_full h _ (Nat.le_refl _), List.take_length]
section
variable {X : Cx}
def tLenSetN (K : PySem.W.Frag) (ta : TE) : TE := fun σ H Q => ta σ H fun x H1 => ∃ (l : Addr) (ns : List Int), x = V.ref l ∧ SqL K H1 l (ns.map V.int) ∧ ns.length ≤ 1000 ∧ Q (.int (cntD ns : Int)) H1
theorem pe_lenSetN {a : Expr} {ta : TE} {p p2 q pos : Pos} (hc : X.calm = true) (hg : Gl X "len") (hm : X.mg "len" = none) (hg2 : Gl X "set") (hm2 : X.mg "set" = none) (ha : PE X a ta)
    (na : starEach [a] X.env = (false, eval a X.env) :: starEach [] X.env := by rfl) : PE X (.Call (.Name "len" p) [.Call (.Name "set" p2) [a] [] q] [] pos) (tLenSetN X.K ta) := by
  constructor
  intro pins s σ H Q I h
  refine Call_ (ld_blt I hg hm PySem.boot_len ?_)
  refine PyProof.Rows.callWith_builtin1 (PyProof.Rows.args_cons ?_ rfl) rfl rfl
  refine Call_ (ld_blt I hg2 hm2 PyProof.Rows.boot_set ?_)
  refine PyProof.Rows.callWith_type1 (PyProof.Rows.args_cons (thn (ha.run pins s σ H _ I h) fun v s1 ⟨x, H1, I1, r1, q1⟩ => PyProof.Rows.args_nil ?_) na) na rfl
  obtain ⟨l, ns, rfl, hq, h1, q1⟩ := q1
  cases r1
  obtain ⟨its, r, pl, hz⟩ := I1.list hq
  have hl : its.toArray.size = ns.length := by rw [List.size_toArray, ← r.length, List.length_map]
  refine call_set_list (I1.ok.hd hc) pl.isList (ns := ns) (by simpa using r.ints) (by unfold scanBound; omega) fun h' tk hS hk => ?_
  rw [hl] at hS
  refine PyProof.Rows.args_nil ?_
  have hcn : cntD ns ≤ ns.length := metN_le ns _
  obtain ⟨o, es, ep, t, ho, hex, hd, _, _, _, hf, hn⟩ := hS
  have hn : es.size = cntD ns := hn
  have I2 : Inv X pins σ H1 { s1 with heap := h', toks := tk } := I1.kept fun b o e => hk b o (Heap.lt_size e) e
  refine call_len_set ho hex hd hf (by rw [hn]; omega) ⟨.int (cntD ns : Int), H1, I2.tok _, ⟨_, by rw [hn]⟩, q1⟩
end
section
variable {K : PySem.W.Frag} {σ : L2.St} {H H' : Hp} {ta tb te tx : TE} {t u : TT} {x y z v : V} {P : V → Hp → Prop} {D : Ends} {tu tw tz : TS}
theorem ev_lenSet {l : Addr} {ns : List Int} (ha : Ev ta σ H (.ref l)) (h : SqL K H l (ns.map V.int)) (hn : ns.length ≤ 1000) : Ev (tLenSetN K ta) σ H (.int (cntD ns : Int)) :=
  fun H1 e Q q => ha H1 e _ fun H2 e2 => ⟨l, ns, rfl, ex_l (e.trans e2) h, hn, q H2 e2⟩
theorem gl_popAt {l : Addr} {xs : List V} {i : Int} (hl : H l = some (.lst xs)) (ha : Ev ta σ H (.ref l)) (hi : Ev te σ H (.int i)) (h0 : 0 ≤ i) (h1 : i < (xs.length : Int)) (hz : xs.length < 100000)
    (k : ∀ H1, Ex H H1 → GoN D σ (upd H1 l (.lst (xs.eraseIdx i.toNat)))) : Go (tDrop (tBM K "list" rPopAt ta (tCons te tNil))) D σ H := by
  refine fun H1 e => ha H1 e _ fun H2 e2 => ⟨.inl ⟨rfl, xs, sq_of (e2 l _ (e l _ hl))⟩, hi H2 (e.trans e2) _ fun H3 e3 => ?_⟩
  have hlt : i.toNat < xs.length := by omega
  exact ⟨l, xs, i, i.toNat, xs[i.toNat], rfl, rfl, e3 _ _ (e2 l _ (e l _ hl)), by omega, by omega, (ixN_seq (ixN_int h0 h1)).1, List.getElem?_eq_getElem hlt, k H3 ((e.trans e2).trans e3) _ (Ex.refl _)⟩
theorem go_popAt {l : Addr} {xs : List V} {i : Int} (hl : H l = some (.lst xs)) (ha : Ev ta σ H (.ref l)) (hi : Ev te σ H (.int i)) (h0 : 0 ≤ i) (h1 : i < (xs.length : Int)) (hz : xs.length < 100000)
    (k : ∀ H1, Ex H H1 → Go tz D σ (upd H1 l (.lst (xs.eraseIdx i.toNat)))) : Go (tSeq (tDrop (tBM K "list" rPopAt ta (tCons te tNil))) tz) D σ H := gl_popAt (D := { D with nx := tz D }) hl ha hi h0 h1 hz k
theorem gl_pop {l : Addr} {xs : List V} (hl : H l = some (.lst xs)) (ha : Ev ta σ H (.ref l)) (h0 : xs ≠ []) (k : ∀ H1, Ex H H1 → GoN D σ (upd H1 l (.lst xs.dropLast))) : Go (tDrop (tBM0 K "list" rPop ta)) D σ H := by
  have hlt : xs.length - 1 < xs.length := by
    have := List.length_pos_iff.mpr h0
    omega
  exact fun H1 e => ha H1 e _ fun H2 e2 => ⟨.inl ⟨rfl, xs, sq_of (e2 l _ (e l _ hl))⟩, l, xs, xs[xs.length - 1], rfl, rfl, e2 l _ (e l _ hl), List.getElem?_eq_getElem hlt, k H2 (e.trans e2) _ (Ex.refl _)⟩
theorem mem_min {ns : List Int} (h : 0 < ns.length) : ∃ m, m ∈ ns ∧ ∀ y ∈ ns, m ≤ y := by
  induction ns with
  | nil => simp at h
  | cons a r ih =>
    cases r with
    | nil => exact ⟨a, by simp, by simp⟩
    | cons b r =>
      obtain ⟨m, h1, h2⟩ := ih (by simp)
      rcases Int.le_total a m with h3 | h3
      · exact ⟨a, by simp, fun y hy => by rcases List.mem_cons.mp hy with rfl | hy; exact Int.le_refl _; exact Int.le_trans h3 (h2 y hy)⟩
      · exact ⟨m, List.mem_cons_of_mem _ h1, fun y hy => by rcases List.mem_cons.mp hy with rfl | hy; exact h3; exact h2 y hy⟩
theorem mem_max {ns : List Int} (h : 0 < ns.length) : ∃ m, m ∈ ns ∧ ∀ y ∈ ns, y ≤ m := by
  induction ns with
  | nil => simp at h
  | cons a r ih =>
    cases r with
    | nil => exact ⟨a, by simp, by simp⟩
    | cons b r =>
      obtain ⟨m, h1, h2⟩ := ih (by simp)
      rcases Int.le_total m a with h3 | h3
      · exact ⟨a, by simp, fun y hy => by rcases List.mem_cons.mp hy with rfl | hy; exact Int.le_refl _; exact Int.le_trans (h2 y hy) h3⟩
      · exact ⟨m, List.mem_cons_of_mem _ h1, fun y hy => by rcases List.mem_cons.mp hy with rfl | hy; exact h3; exact h2 y hy⟩
/-- min(xs) >= 0, max(xs) < n -/
theorem et_minGe {l : Addr} {ns : List Int} (ha : Ev ta σ H (.ref l)) (h : SqL K H l (ns.map V.int)) (h0 : 0 < ns.length) (hb : Ev tb σ H (.int 0)) : EvT (tTest (tOp (rI0 fun i j => .bl (decide (j ≤ i))) (tCB (rMin K) (tCons ta tNil)) tb)) σ H (decide (∀ y ∈ ns, 0 ≤ y)) := by
  obtain ⟨m, hm, hle⟩ := mem_min h0
  refine et_test (ev_is (ev_op (x := .int m) (fun H1 e Q q => ha H1 e _ fun H2 e2 => ⟨l, ns, rfl, ex_l (e.trans e2) h, h0, fun m' hm' hle' => ?_⟩) hb rv_I0) ?_)
  · have : m' = m := Int.le_antisymm (hle' m hm) (hle m' hm')
    rw [this]
    exact q H2 e2
  · refine congrArg V.bl (decide_eq_decide.mpr ⟨fun z y hy => Int.le_trans z (hle y hy), fun z => z m hm⟩)
theorem et_maxLt {l : Addr} {ns : List Int} {n : Int} (ha : Ev ta σ H (.ref l)) (h : SqL K H l (ns.map V.int)) (h0 : 0 < ns.length) (hb : Ev tb σ H (.int n)) : EvT (tTest (tOp (rI0 fun i j => .bl (decide (i < j))) (tCB (rMax K) (tCons ta tNil)) tb)) σ H (decide (∀ y ∈ ns, y < n)) := by
  obtain ⟨m, hm, hle⟩ := mem_max h0
  refine et_test (ev_is (ev_op (x := .int m) (fun H1 e Q q => ha H1 e _ fun H2 e2 => ⟨l, ns, rfl, ex_l (e.trans e2) h, h0, fun m' hm' hle' => ?_⟩) hb rv_I0) ?_)
  · have : m' = m := Int.le_antisymm (hle m' hm') (hle' m hm)
    rw [this]
    exact q H2 e2
  · refine congrArg V.bl (decide_eq_decide.mpr ⟨fun z y hy => Int.lt_of_le_of_lt (hle y hy) z, fun z => z m hm⟩)
end
end BT
namespace BT
open PySem PySem.Spec PyProof.Rows L2 Evl
theorem mem_at0 {ns : List Int} {x : Int} (h : x ∈ ns) : ∃ j : Nat, j < ns.length ∧ x = at0 ns (j : Int) := by
  obtain ⟨j, hj, e⟩ := List.getElem_of_mem h
  refine ⟨j, hj, ?_⟩
  unfold at0
  rw [List.getD_eq_getElem?_getD, Int.toNat_natCast, List.getElem?_eq_getElem hj, ← e]
  rfl
end BT
namespace BT
open PySem PySem.Spec PyProof.Rows L2 Evl
/-! ### texts -/
section
variable {K : PySem.W.Frag} {σ : L2.St} {H H' : Hp} {ta tb te tx to : TE} {v : V}
theorem rv_addS {a b : Str} (h : a.length + b.length ≤ sizeLine) : RV (fun x y H Q => ∃ i j, x = V.str i ∧ y = V.str j ∧ i.length + j.length ≤ sizeLine ∧ Q (.str (i ++ j)) H) (.str a) (.str b) H (.str (a ++ b)) :=
  fun H1 e Q q => ⟨a, b, rfl, rfl, h, q H1 (Ex.refl H1)⟩
theorem ev_strI {i : Int} (ha : Ev ta σ H (.int i)) (h : i.natAbs.log2 < 1920) : Ev (tCB (fun xs H Q => ∃ i : Int, xs = [V.int i] ∧ i.natAbs.log2 < 1920 ∧ Q (.str (toString i)) H) (tCons ta tNil)) σ H (.str (toString i)) :=
  fun H1 e Q q => ha H1 e _ fun H2 e2 => ⟨i, rfl, h, q H2 e2⟩
theorem ev_intS {a : Str} {n : Int} (ha : Ev ta σ H (.str a)) (h : PySem.intText? a = some n) (hl : a.length ≤ 640) : Ev (tCB (fun xs H Q => ∃ (a : Str) (n : Int), xs = [V.str a] ∧ PySem.intText? a = some n ∧ a.length ≤ 640 ∧ Q (.int n) H) (tCons ta tNil)) σ H (.int n) :=
  fun H1 e Q q => ha H1 e _ fun H2 e2 => ⟨a, n, rfl, h, hl, q H2 e2⟩
theorem ev_lenS {a : Str} (ha : Ev ta σ H (.str a)) (h : a.length ≤ sizeLine) : Ev (tCB (fun xs H Q => ∃ z : Str, xs = [V.str z] ∧ z.length ≤ sizeLine ∧ Q (.int z.length) H) (tCons ta tNil)) σ H (.int a.length) :=
  fun H1 e Q q => ha H1 e _ fun H2 e2 => ⟨a, rfl, h, q H2 e2⟩
theorem rv_notInS {c : Nat} {z : Str} : RV rNotInS (.str ⟨#[c]⟩) (.str z) H (.bl (!decide (c ∈ z.cps.toList))) := fun H1 e Q q => ⟨c, z, rfl, rfl, q H1 (Ex.refl H1)⟩
theorem rv_ixS {z : Str} {i : Int} {c : Nat} (hl : z.length ≤ sizeLine) (h : atI z.cps.toList i = some c) : RV rIxS (.str z) (.int i) H (.str ⟨#[c]⟩) := fun H1 e Q q => ⟨z, i, c, rfl, rfl, hl, h, q H1 (Ex.refl H1)⟩
theorem ev_join {a : Str} {ys : List Str} (ho : Ev to σ H (.str a)) (he : EvL te σ H (ys.map V.str)) (h : (ys.map (·.length)).sum + ys.length * a.length ≤ 16777216) :
    Ev (tM1 (fun x xs H Q => ∃ a p, ∃ ys : List Str, x = V.str a ∧ xs = [.ref p] ∧ (SqL K H p (ys.map V.str) ∨ SqT K H p (ys.map V.str)) ∧ (ys.map (·.length)).sum + ys.length * a.length ≤ 16777216 ∧ Q (.str (Txt.join a ys)) H) to te) σ H (.str (Txt.join a ys)) :=
  fun H1 e Q q => ho H1 e _ fun H2 e2 => ⟨⟨a, rfl⟩, he H2 (e.trans e2) _ fun p H3 hp e3 h3 => ⟨a, p, ys, rfl, rfl, .inl (sq_of h3), h, q H3 (e2.trans e3)⟩⟩
theorem el_split {a b : Str} (ho : Ev to σ H (.str a)) (he : Ev te σ H (.str b)) (h : (b.length == 0) = false) (hl : a.length + 2 ≤ sizeLine) :
    EvL (tM1 (fun x xs H Q => ∃ a b, x = V.str a ∧ xs = [.str b] ∧ (b.length == 0) = false ∧ a.length + 2 ≤ sizeLine ∧ rNewStrs (Txt.split a b) H Q) to te) σ H ((Txt.split a b).map V.str) :=
  fun H1 e Q q => ho H1 e _ fun H2 e2 => ⟨⟨a, rfl⟩, he H2 (e.trans e2) _ fun H3 e3 => ⟨a, b, rfl, rfl, h, hl, fun p hp => q p _ (fresh_back (e2.trans e3) hp) ((e2.trans e3).trans (Ex.new hp)) upd_same⟩⟩
end
section
variable {X : Cx}
theorem pe_joinK {K : PySem.W.Frag} {o e : Expr} {to te : TE} {apos pos : Pos} (hK : X.K = K) (ho : PE X o to) (he : PE X e te) (hs : starEach [e] X.env = [(false, eval e X.env)] := by rfl) (hbase : attributeBase o "join" X.env (eval o X.env) = eval o X.env := by rfl) (hline : (apos.endLine == pos.line) = true := by rfl) :
    PE X (.Call (.Attribute o "join" apos) [e] [] pos) (tM1 (fun x xs H Q => ∃ a p, ∃ ys : List Str, x = V.str a ∧ xs = [.ref p] ∧ (SqL K H p (ys.map V.str) ∨ SqT K H p (ys.map V.str)) ∧ (ys.map (·.length)).sum + ys.length * a.length ≤ 16777216 ∧ Q (.str (Txt.join a ys)) H) to te) := by
  subst hK
  exact pe_join ho he hs hbase hline
end
end BT

namespace BT
open PySem PySem.Spec PyProof.Rows L2 Evl
theorem len_app (a b : Str) : (a ++ b).length = a.length + b.length := by
  exact Array.size_append ..
theorem strjoin_len (y : Str) : ∀ parts : List Str, (Str.join y parts).length ≤ (parts.map (·.length)).sum + parts.length * y.length
  | [] => by simp [Str.join]; rfl
  | [p] => by simp [Str.join]
  | p :: q :: r => by
    have ih := strjoin_len y (q :: r)
    show (p ++ y ++ Str.join y (q :: r)).length ≤ _
    rw [len_app, len_app]
    simp only [List.map_cons, List.sum_cons, List.length_cons] at *
    rw [Nat.succ_mul]
    omega
theorem join_len (y : Str) (parts : List Str) : (Txt.join y parts).length ≤ (parts.map (·.length)).sum + parts.length * y.length := by
  rw [TL.join_eq]
  exact strjoin_len y parts
theorem small_all : ((List.range 81).all fun n => decide ((toString ((n : Nat) : Int) : Str).length ≤ 2)) = true := by decide +kernel
theorem str_small {i : Int} (h0 : 0 ≤ i) (h1 : i < 81) : (toString i : Str).length ≤ 2 := by
  obtain ⟨n, rfl⟩ := Int.eq_ofNat_of_zero_le h0
  exact of_decide_eq_true (List.all_eq_true.mp small_all n (List.mem_range.mpr (by omega)))
end BT

namespace BT
open PySem PySem.Spec PyProof.Rows L2 Evl
theorem cut_snoc (xs : List V) (v : V) : cutV (xs ++ [v]) none (some (-1)) = xs := by
  have e1 : HT.sIx (xs ++ [v]).length 0 none = 0 := rfl
  have e2 : HT.sIx (xs ++ [v]).length (xs ++ [v]).length (some (-1)) = (-1 + ((xs ++ [v]).length : Int)).toNat := rfl
  unfold cutV
  rw [e1, e2, List.drop_zero, List.length_append]
  show (xs ++ [v]).take ((-1 + ((xs.length + 1 : Nat) : Int)).toNat - 0) = xs
  rw [show (-1 + ((xs.length + 1 : Nat) : Int)).toNat - 0 = xs.length by omega, List.take_left]
theorem atI_snoc (xs : List V) (v : V) : atI (xs ++ [v]) (-1) = some v := by
  unfold atI ixN
  rw [List.length_append]
  have e : xs.length + [v].length = xs.length + 1 := rfl
  rw [e, if_neg (by decide), if_pos (by omega), show ((-1 : Int) + ((xs.length + 1 : Nat) : Int)).toNat = xs.length by omega]
  show (xs ++ [v])[xs.length]? = some v
  simp
theorem app_empty (a : Str) : a ++ ("" : Str) = a := by
  show (⟨a.cps ++ #[]⟩ : Str) = a
  rw [Array.append_empty]
/-- lines, each with its end -/
theorem ends_join (n : Str) : ∀ ps : List Str, Str.join ("" : Str) (ps.map fun p => p ++ n) = Str.join n (ps ++ [("" : Str)])
  | [] => rfl
  | [p] => by
    show p ++ n = p ++ n ++ ("" : Str)
    rw [app_empty]
  | p :: q :: r => by
    have ih := ends_join n (q :: r)
    show p ++ n ++ ("" : Str) ++ Str.join ("" : Str) ((q :: r).map fun p => p ++ n) = p ++ n ++ Str.join n ((q :: r) ++ [("" : Str)])
    rw [ih, app_empty]
theorem nl_tl : TL.tl ("\n" : Str) = 10 :: [] := by decide
end BT

namespace BT
open PySem PySem.Spec PyProof.Rows L2 Evl
/-! ### loops over a text -/
theorem for_S {z : Str} {g : TG} {tb : TS} {D : Ends} {σ : L2.St} {H : Hp} (Pv : Nat → L2.St → Hp → Prop) (h0 : Pv 0 σ H)
    (hs : ∀ (i : Nat) (c : Nat) (σ : L2.St) (H : Hp), z.cps[i]? = some c → Pv i σ H → g (.str ⟨#[c]⟩) σ H fun σ2 H2 => tb { D with nx := Pv (i + 1), ct := Pv (i + 1), bk := D.nx } σ2 H2) (hd : ∀ σ H, Pv z.cps.size σ H → D.nx σ H) :
    ∃ W : Nat → Nat → L2.St → Hp → Prop, (∃ m, W 0 m σ H) ∧ ∀ i m σ H, W i m σ H →
      ((Its z).stop i H ∧ D.nx σ H) ∨ ((Its z).go i H ∧ ∃ N : L2.St → Hp → Prop, (∀ σ' H', N σ' H' → ∃ m', m' < m ∧ W (i + 1) m' σ' H') ∧ ∀ v H', (Its z).yld i H v H' → g v σ H' fun σ2 H2 => tb { D with nx := N, ct := N, bk := D.nx } σ2 H2) := by
  refine ⟨fun i m σ H => m = z.cps.size - i ∧ i ≤ z.cps.size ∧ Pv i σ H, ⟨z.cps.size, rfl, Nat.zero_le _, h0⟩, ?_⟩
  rintro i m σ H ⟨rfl, hi, p⟩
  by_cases hlt : i < z.cps.size
  · refine .inr ⟨hlt, Pv (i + 1), fun σ' H' p' => ⟨z.cps.size - (i + 1), by omega, rfl, hlt, p'⟩, fun v H' y => ?_⟩
    obtain ⟨e, c, hc, rfl⟩ := y
    subst e
    exact hs i c σ _ hc p
  · have e : i = z.cps.size := by omega
    subst e
    exact .inl ⟨Nat.le_refl _, hd σ H p⟩
theorem go_forS {z : Str} {tl : TE} {j : Nat} {σ : L2.St} {H : Hp} {D : Ends} {tu tz : TS} (h : Ev tl σ H (.str z)) (Pv : Nat → L2.St → Hp → Prop) (h0 : ∀ H1, Ex H H1 → Pv 0 σ H1)
    (hs : ∀ (i c : Nat) σ' H', z.cps[i]? = some c → Pv i σ' H' → Go tu { D with nx := Pv (i + 1), ct := Pv (i + 1), bk := tz D } (σ'.set j (some (.str ⟨#[c]⟩))) H') (hd : ∀ σ' H', Pv z.cps.size σ' H' → Go tz D σ' H') : Go (tSeq (tFor (iStr tl) (gName j) tu) tz) D σ H :=
  fun H1 e => h H1 e _ fun H2 e2 => ⟨z, rfl, for_S (D := { D with nx := tz D }) Pv (h0 H2 (e.trans e2)) (fun i c σ' H' hc p => (hs i c σ' H' hc p).at) (fun σ' H' p => (hd σ' H' p).at)⟩
end BT

namespace BT
open PySem PySem.Spec PyProof.Rows L2 Evl
/-! ### a comprehension over a text -/
theorem lc_S {z : Str} {g : TG} {tt : TT} {te : TE} {vs : List Nat} {σ : L2.St} {H1 : Hp} {D : Addr} {Qd : Hp → Prop} (Pv : Nat → Hp → Prop) (h0 : Pv 0 (upd H1 D (.lst [])))
    (hs : ∀ (i c : Nat) H, z.cps[i]? = some c → Pv i H → g (.str ⟨#[c]⟩) (wipe σ vs) H fun σ2 H2 => wipe σ2 vs = wipe σ vs ∧ tt σ2 H2 fun b H3 =>
      if b = true then te σ2 H3 fun y H4 => ∃ acc, H4 D = some (.lst acc) ∧ acc.length < sizeLine ∧ Pv (i + 1) (upd H4 D (.lst (acc ++ [y]))) else Pv (i + 1) H3) (hd : ∀ H, Pv z.cps.size H → Qd H) :
    ∃ W : Nat → Nat → Hp → Prop, (∃ m, W 0 m (upd H1 D (.lst []))) ∧ ∀ i m H, W i m H →
      ((Its z).stop i H ∧ Qd H) ∨ ((Its z).go i H ∧ ∃ Nx : Hp → Prop, (∀ H', Nx H' → ∃ m', m' < m ∧ W (i + 1) m' H') ∧ ∀ x H', (Its z).yld i H x H' → g x (wipe σ vs) H' fun σ2 H2 => wipe σ2 vs = wipe σ vs ∧ tt σ2 H2 fun b H3 =>
        if b = true then te σ2 H3 fun y H4 => ∃ acc, H4 D = some (.lst acc) ∧ acc.length < sizeLine ∧ Nx (upd H4 D (.lst (acc ++ [y]))) else Nx H3) := by
  refine ⟨fun i m H => m = z.cps.size - i ∧ i ≤ z.cps.size ∧ Pv i H, ⟨z.cps.size, rfl, Nat.zero_le _, h0⟩, ?_⟩
  rintro i m H ⟨rfl, hi, p⟩
  by_cases hlt : i < z.cps.size
  · refine .inr ⟨hlt, Pv (i + 1), fun H' p' => ⟨z.cps.size - (i + 1), by omega, rfl, hlt, p'⟩, fun v H' y => ?_⟩
    obtain ⟨e, c, hc, rfl⟩ := y
    subst e
    exact hs i c _ hc p
  · have e : i = z.cps.size := by omega
    subst e
    exact .inl ⟨Nat.le_refl _, hd H p⟩
theorem el_lcS {σ : L2.St} {H : Hp} {t : TT} {te : TE} {z : Str} {tl : TE} {j : Nat} {vs : List Nat} (f : Nat → Bool) (v : Nat → V) (h : Ev tl σ H (.str z)) (hz : z.cps.size ≤ 40000) (hw : ∀ x, wipe ((wipe σ vs).set j (some x)) vs = wipe σ vs)
    (ht : ∀ (i c : Nat) H1, Ex H H1 → z.cps[i]? = some c → EvT t ((wipe σ vs).set j (some (.str ⟨#[c]⟩))) H1 (f i)) (he : ∀ (i c : Nat) H1, Ex H H1 → z.cps[i]? = some c → f i = true → Ev te ((wipe σ vs).set j (some (.str ⟨#[c]⟩))) H1 (v i)) :
    EvL (tLc (iStr tl) (gName j) t te vs) σ H (given z.cps.size f v) := fun H0 e Q q => h H0 e _ fun H1 e1 => ⟨z, rfl, fun Dl hD =>
  lc_S (Cw H1 f v Dl) ⟨hD, Ex.new hD, upd_same⟩ (fun i c H' hi p => ⟨hw _, cw_turn p (by have := (Array.getElem?_eq_some_iff.mp hi).1; omega) (ht i c H1 (e.trans e1) hi) (fun hf => he i c H1 (e.trans e1) hi hf)⟩)
    (fun H' p => q Dl H' (fresh_back e1 p.1) (e1.trans p.2.1) p.2.2)⟩
end BT

namespace BT
open PySem PySem.Spec PyProof.Rows L2 Evl
/-! ### more of texts: lists over new lists, joins by their signs -/
section
variable {K : PySem.W.Frag} {σ : L2.St} {H H' : Hp} {te tl : TE} {P : V → Hp → Prop} {D : Ends} {tz : TS}
theorem elp_NL {xs : List V} {j : Nat} {vs : List Nat} {P : Nat → V → Hp → Prop} (m : ∀ i, Imm (P i)) (h : EvL tl σ H xs) (hz : xs.length ≤ 40000) (hw : ∀ x, wipe ((wipe σ vs).set j (some x)) vs = wipe σ vs)
    (he : ∀ (i : Nat) (x : V), xs[i]? = some x → EvP te ((wipe σ vs).set j (some x)) H (P i)) : EvLP (tLc (iList K tl) (gName j) tYes te vs) σ H xs.length P := fun H0 e Q q => h H0 e _ fun a H1 ha e1 hx => ⟨a, rfl, ⟨xs, sq_of hx⟩, fun Dl hD =>
  lc_list (xs := xs) (CwP H1 P Dl) ⟨hD, Ex.new hD, [], upd_same, rfl, fun k v hk => by cases hk⟩ (fun i H' _ p => sq_of (p.2.1 a _ hx))
    (fun i x H' hi p => ⟨hw x, cwP_turn m p (by have := (List.getElem?_eq_some_iff.mp hi).1; omega) ((he i x hi).mono (e.trans e1))⟩) (fun H' ⟨p1, p2, ws, p3, p4, p5⟩ => q Dl H' ws (fresh_back e1 p1) (e1.trans p2) p3 p4 p5)⟩
theorem el_is {xs ys : List V} (h : EvL te σ H xs) (e : xs = ys) : EvL te σ H ys := by rw [← e]; exact h
theorem go_dropP (h : EvP te σ H P) (k : ∀ H1, Ex H H1 → Go tz D σ H1) : Go (tSeq (tDrop te) tz) D σ H := fun H1 e => h H1 e _ fun v H2 e2 _ => k H2 (e.trans e2) H2 (Ex.refl H2)
/-- what a new list over a new list gives -/
theorem el_mapNL {xs : List V} {j : Nat} {vs : List Nat} (v : Nat → V) (h : EvL tl σ H xs) (hz : xs.length ≤ 40000) (hw : ∀ x, wipe ((wipe σ vs).set j (some x)) vs = wipe σ vs)
    (he : ∀ (i : Nat) (x : V) H1, Ex H H1 → xs[i]? = some x → Ev te ((wipe σ vs).set j (some x)) H1 (v i)) : EvL (tLc (iList K tl) (gName j) tYes te vs) σ H ((List.range xs.length).map v) := by
  have := el_lcNL (K := K) (t := tYes) (te := te) (fun _ => true) v h hz hw (fun _ _ _ _ _ => et_yes) (fun i x H1 e hi _ => he i x H1 e hi)
  rwa [given_all] at this
end
theorem app_assoc (a b c : Str) : a ++ b ++ c = a ++ (b ++ c) := by
  show (⟨a.cps ++ b.cps ++ c.cps⟩ : Str) = ⟨a.cps ++ (b.cps ++ c.cps)⟩
  rw [Array.append_assoc]
theorem mem_tl_app {a b : Str} {c : Nat} : c ∈ TL.tl (a ++ b) ↔ c ∈ TL.tl a ∨ c ∈ TL.tl b := by rw [TL.tl_append]; exact List.mem_append
theorem mem_join {y : Str} {c : Nat} : ∀ {ps : List Str}, c ∈ TL.tl (Str.join y ps) → c ∈ TL.tl y ∨ ∃ p ∈ ps, c ∈ TL.tl p
  | [], h => by simp [Str.join] at h; exact absurd h (by decide +revert)
  | [p], h => .inr ⟨p, by simp, h⟩
  | p :: q :: r, h => by
    have h : c ∈ TL.tl (p ++ y ++ Str.join y (q :: r)) := h
    rw [mem_tl_app, mem_tl_app] at h
    rcases h with (h | h) | h
    · exact .inr ⟨p, by simp, h⟩
    · exact .inl h
    · rcases mem_join h with h | ⟨z, hz, h⟩
      · exact .inl h
      · exact .inr ⟨z, List.mem_cons_of_mem _ hz, h⟩
theorem join_cons (y p : Str) {ps : List Str} (h : ps ≠ []) : Str.join y (p :: ps) = p ++ y ++ Str.join y ps := by
  cases ps with
  | nil => exact absurd rfl h
  | cons q r => rfl
/-- the signs of a number below 81 -/
theorem num_sig : ((List.range 81).all fun n => (TL.tl (toString ((n : Nat) : Int) : Str)).all fun c => decide (48 ≤ c) && decide (c ≤ 57)) = true := by decide +kernel
theorem num_sigs {i : Int} (h0 : 0 ≤ i) (h1 : i < 81) {c : Nat} (hc : c ∈ TL.tl (toString i : Str)) : 48 ≤ c ∧ c ≤ 57 := by
  obtain ⟨n, rfl⟩ := Int.eq_ofNat_of_zero_le h0
  have := List.all_eq_true.mp (List.all_eq_true.mp num_sig n (List.mem_range.mpr (by omega))) c hc
  simpa using this
end BT

namespace BT
open PySem PySem.Spec PyProof.Rows L2 Evl
theorem sumTx_le {b : Nat} : ∀ (ys : List Str), (∀ y ∈ ys, y.length ≤ b) → (ys.map (·.length)).sum ≤ ys.length * b
  | [], _ => by simp
  | y :: ys, h => by
    have h1 := h y (by simp)
    have h2 := sumTx_le ys fun z hz => h z (List.mem_cons_of_mem _ hz)
    simp only [List.map_cons, List.sum_cons, List.length_cons]
    rw [Nat.succ_mul]
    omega
theorem joinTx_le {b : Nat} (y : Str) (ps : List Str) (h : ∀ p ∈ ps, p.length ≤ b) : (Str.join y ps).length ≤ ps.length * b + ps.length * y.length :=
  Nat.le_trans (strjoin_len y ps) (Nat.add_le_add_right (sumTx_le ps h) _)
end BT
namespace BT
open PySem PySem.Spec PyProof.Rows L2 Evl
/-! ### a comprehension whose element may raise -/
/-- what flies out of a call, and what it leaves: the objects not tracked stay -/
structure Fly (X : Cx) (pins : List (Addr × Obj)) (σ : L2.St) (H : Hp) (s s' : Shared) (E : XK) (u : Value) (a : Addr) (B : Heap) (sI : Shared) (H' : Hp) (cls : Value) (d : Option Addr) : Prop where
  ref : u = .ref a
  inv : Inv X pins σ H' sI
  gr : ∀ b o, sI.heap.get? b = some o → b ∉ frs X.stack → B.get? b = some o
  up : sI.heap.UpToSlots s'.heap
  fly : HandSPX.FlyingZ B X.stack a (Zc cls d) s'.heap
  na : H' a = none
  os : s'.os = sI.os
  bare : AllBare s'.gens
  wish : E cls d H'
  rest : ∀ b o, s.heap.get? b = some o → H b = none → H' b = none ∧ (b ∉ frs X.stack → sI.heap.get? b = some o)
section
variable {X : Cx} {pins : List (Addr × Obj)} {σ : L2.St} {H : Hp} {s s' : Shared} {E : XK} {u : Value}
theorem fly_of_call (I : Inv X pins σ H s) (c : L2.CX X.prog X.w X.stack H s E u s') : ∃ a B sI H' cls d, Fly X pins σ H s s' E u a B sI H' cls d := by
  obtain ⟨a, B, H', cls, d, hu, fl, hok, ub, na, os, ag, hE⟩ := c
  obtain ⟨G, yes, no⟩ := restrict s'.heap fun b => decide (b ∈ frs X.stack) || (B.get? b).isSome
  have inB : ∀ b o, B.get? b = some o → G.get? b = some o := fun b o h => (yes b (by simp [h])).trans (fl.1 b o h)
  have inF : ∀ b, b ∈ frs X.stack → G.get? b = s'.heap.get? b := fun b h => yes b (by simp [h])
  have ofG : ∀ b o, G.get? b = some o → s'.heap.get? b = some o ∧ (b ∉ frs X.stack → B.get? b = some o) := fun b o h => by
    rcases hq : (decide (b ∈ frs X.stack) || (B.get? b).isSome) with _ | _
    · exact absurd ((no b hq).symm.trans h) (by simp)
    · have h' := (yes b hq).symm.trans h
      refine ⟨h', fun hb => ?_⟩
      rw [decide_eq_false hb, Bool.false_or] at hq
      obtain ⟨o', ho⟩ := Option.isSome_iff_exists.mp hq
      rw [ho, ← h', fl.1 b o' ho]
  have slots : ∀ b o, s.heap.get? b = some o → b ∈ frs X.stack → ∃ sl, G.get? b = some { o with slots := sl } := fun b o h hb => by
    obtain ⟨sl, z⟩ := ub.slot b o h hb
    exact ⟨sl, (inF b hb).trans z⟩
  have J : Inv X pins σ H' { s with heap := G, gens := s'.gens, drawn := s'.drawn, toks := s'.toks } :=
    I.call (ch := []) ⟨fun b o h n hb _ => inB b o (ub.keep b o h n hb), fun b o h _ hb _ => slots b o h hb, fun b o h n _ => ub.free b o h n, fun b o h _ => (Decidable.em (b ∈ frs X.stack)).elim (fun hb => (slots b o h hb).elim fun sl z => ⟨_, z⟩) (fun hb => (ub.there b o h hb).elim fun o' z => ⟨o', inB b o' z⟩), ub.tups, ub.frzs, ub.tbls⟩
      (hok.kept inB) ag (fun _ z => nomatch z)
  exact ⟨a, B, _, H', cls, d, hu, J, fun b o h => (ofG b o h).2, Heap.UpToSlots.of_keeps fun b o h => (ofG b o h).1, fl, na, os, ag, hE, fun b o h n => ⟨ub.free b o h n, fun hb => inB b o (ub.keep b o h n hb)⟩⟩
end
theorem Heap.SameBut.get {C : Addr} {h h' : Heap} (sb : Heap.SameBut C h h') {b : Addr} {o : Obj} (hb : b ≠ C) (e : h.get? b = some o) : h'.get? b = some o := (sb.2 b hb).trans e
/-- out of a call in the block: noted by the def's frame, the block is let go, on it flies -/
theorem blk_fails {X : Cx} {W : WX} {pins pb : List (Addr × Obj)} {σ σb : L2.St} {H3 H : Hp} {s3 s s' : Shared} {scope : Scope} {ce : Env} {fp : List Addr} {u : Value}
    (hs : X.stack = X.env :: X.outer) (hf : X.env.frame = some X.env.locals) (tk : L2.Takes X W) (I3 : Inv X pins σ H3 s3) (cF : ce.frame = X.env.frame) (cL : ce.locals = s3.heap.objs.size)
    (f3 : ∀ b ∈ fp, FpOk X pins H3 b ∧ b < s3.heap.objs.size) (Ib : Inv (X.blk s3 H3 scope ce fp) pb σb H s) (c : L2.CX X.prog X.w X.stack H s (fun cls d H' => W cls d σ H') u s') :
    notedBy (model X.prog X.w) X.A ce (CompFails (model X.prog X.w) X.A X.xe ce) u s' := by
  have I7 : Inv X pins σ H s := I3.call' (ch := fp) Ib.os Ib.base Ib.hok Ib.bare fun b hb => ⟨(f3 b hb).1.2.2.2.1, (f3 b hb).1.2.1, (f3 b hb).1.2.2.2.2.1, (f3 b hb).1.2.2.2.2.2⟩
  obtain ⟨a, B, sI, H', cls, d, rfl, I, gr, up, fly, na, os, ag, w, rest⟩ := fly_of_call I7 c
  have hfr : X.A.frames = some (X.env :: X.outer) := by rw [I.ok.frames, hs]
  rw [hs] at fly
  -- the block's names
  obtain ⟨mC, nC, _⟩ := Ib.loc
  have nC : s.heap.Ns ce.locals mC := nC
  have hC : H ce.locals = none := Ib.free
  obtain ⟨oC, es, ep, gC, dC, rC⟩ := nC
  have fC0 : FpOk X pins H' ce.locals := I3.fpOk (by rw [cL]; exact Nat.le_refl _) (rest _ _ gC hC).1
  have fC := fC0
  obtain ⟨fC1, fC2, fC3, fC4, fC5, fC6⟩ := fC
  have nstk : ce.locals ∉ frs X.stack := fun z => by
    rw [hs] at z
    obtain ⟨e, he, q⟩ := List.mem_filterMap.mp z
    rcases List.mem_cons.mp he with rfl | he
    · rw [hf] at q
      exact fC2 (Option.some.inj q).symm
    · exact fC3 (List.mem_filterMap.mpr ⟨e, he, q⟩)
  have gI : sI.heap.Ns ce.locals mC := ⟨oC, es, ep, (rest _ _ gC hC).2 nstk, dC, rC⟩
  show wpAny (model X.prog X.w) X.A (noteFrame (.ref a) ce) _ _ s'
  rw [noteFrame_env _ cF]
  refine HandSPX.looks_onZ Zc.steady hfr hf fly fun h1 held up1 => ?_
  have g1 : h1.Ns ce.locals mC := gI.upToSlots (up.trans up1)
  refine ⟨mC, g1, fun h2 m2 n2 sb => ?_⟩
  obtain ⟨k1, k2, k3, oe, vs, T, oT, ts, e1, e2, e3, e4, e5, e6, e7, e8, e9⟩ := held
  obtain ⟨o1, es1, ep1, q1, d1, _⟩ := g1
  have aC : a ≠ ce.locals := fun z => by
    rw [z, q1] at e1
    cases e1
    rw [d1] at e3
    cases e3
  have tC : T ≠ ce.locals := fun z => by
    rw [z, q1] at e7
    cases e7
    rw [d1] at e8
    cases e8
  have H2 : HandSPX.HeldZ (PySem.W.hideAll B [ce.locals]) (X.env :: X.outer) a (Zc cls d) X.env.locals h2 := by
    have hide : ∀ b, B.get? b = none → (PySem.W.hideAll B [ce.locals]).get? b = none := fun b hb => by
      cases q : (PySem.W.hideAll B [ce.locals]).get? b with
      | none => rfl
      | some o => rw [PySem.W.of_hideAll _ q] at hb; cases hb
    refine ⟨fun b o hb => ?_, hide _ k2, funFrames_none (Heap.FunFrames.sameBut sb n2 k3) fun L hL => hide _ (k3.mem hL).1, oe, vs, T, oT, ts, Heap.SameBut.get sb aC e1, e2, e3, e4, hide _ e5, e6, Heap.SameBut.get sb tC e7, e8, e9⟩
    have hbC : b ≠ ce.locals := fun z => by
      rw [z, PySem.W.hideAll_none _ (List.mem_singleton.mpr rfl)] at hb
      cases hb
    exact Heap.SameBut.get sb hbC (k1 b o (PySem.W.of_hideAll _ hb))
  unfold PySem.passOn
  refine wpAny_bind (wpAny_field (Heap.SameBut.get sb aC e1) e3 e4 ?_)
  rw [if_neg (show ¬ ((Value.ref T == Value.none) = true) from by simp)]
  have fin : wpAny (model X.prog X.w) X.A (setFlight (.ref a) ce.frame) (fun _ s4 => wpAny (model X.prog X.w) X.A (throw (.ref a) : Sem Value) (fun _ _ => False) X.xe s4) X.xe { s' with heap := h2 } := by
    rw [cF, hf]
    refine HandSPX.setFlight_onZ H2 fun h4 H4 up4 => wpAny_throw (tk _ _ ?_)
    refine ⟨a, PySem.W.hideAll B [ce.locals], { sI with heap := PySem.W.hideAll sI.heap [ce.locals] }, pins, σ, H', cls, d, rfl, I.turned (t' := sI.toks) (fun b o hb e => PySem.W.hideAll_get _ e (by simpa using hb)) fC1 fC2 fC4 fC5 fC6, fun b o hb hn => ?_, fun b o hb hd => ?_, .inr (.inr (by rw [hs]; exact H4)), na, os, ag, w⟩
    · have hb' := PySem.W.of_hideAll _ hb
      have hbC : b ≠ ce.locals := fun z => by
        rw [z, PySem.W.hideAll_none _ (List.mem_singleton.mpr rfl)] at hb
        cases hb
      exact PySem.W.hideAll_get _ (gr b o hb' hn) (by simpa using hbC)
    · have hbC : b ≠ ce.locals := fun z => by
        rw [z, PySem.W.hideAll_none _ (List.mem_singleton.mpr rfl)] at hb
        cases hb
      obtain ⟨sl, z1⟩ := (up.trans up1) b o (PySem.W.of_hideAll _ hb) hd
      obtain ⟨sl4, z4⟩ := up4 b _ (Heap.SameBut.get sb hbC z1) hd
      exact ⟨sl4, z4⟩
  first
    | exact wpAny_bind fin
    | exact wpAny_bind (wpAny_pure (wpAny_bind fin))
end BT
namespace BT
open PySem PySem.Spec PyProof.Rows L2 Evl
theorem ends_err {M : Model} {A : Around} {E : Value → Shared → Prop} {use : Option (Value → Sem Unit)} {Q : Value → Shared → Prop} {acc u : Value} {ce : Env} {s : Shared} (h : CompFails M A E ce u s) : compEnds M A E use Q acc ce (.error u) s := by
  cases use <;> exact h
theorem noted_imp {M : Model} {A : Around} {env : Env} {R R' : Value → Shared → Prop} {u : Value} {s : Shared} (h : notedBy M A env R u s) (k : ∀ u s, R u s → R' u s) : notedBy M A env R' u s := wpAny_mono h (fun _ s1 => k u s1) fun u1 s1 => k u1 s1
theorem lc_coreX {X : Cx} {E : XK} {pins : List (Addr × Obj)} {s : Shared} {σ : L2.St} {H : Hp} {Q : VK} {elt tg iter : Expr} {ifs : List Expr} {scope : Scope} {own : List (Str × Nat)} {pos pos' : Pos} {wi : TI} {g : TG} {tt : TT} {te : TE} {use : Option (Value → Sem Unit)} {Qf : Value → Shared → Prop}
    (hst : X.stack = X.env :: X.outer) (hf : X.env.frame = some X.env.locals) (tk : L2.Takes X fun cls d _ H => E cls d H) (hc : X.calm = true) (hN : X.N.Nodup) (I : Inv X pins σ H s) (hi : PI X tg iter wi) (ok : BlkOk X.N X.env.scope scope own)
    (hg : ∀ (s : Shared) (H : Hp) (C : Addr) (cl : List (Str × Addr)) (fp : List Addr), PG (X.blk s H scope (compEnvC scope cl C X.env) fp) tg g)
    (ht : ∀ (s : Shared) (H : Hp) (C : Addr) (cl : List (Str × Addr)) (fp : List Addr), PTs (X.blk s H scope (compEnvC scope cl C X.env) fp) ifs tt)
    (he : ∀ (s : Shared) (H : Hp) (C : Addr) (cl : List (Str × Addr)) (fp : List Addr) (xe : Value → Shared → Prop), Passes (L2.CX X.prog X.w) ((X.blk s H scope (compEnvC scope cl C X.env) fp).wish xe) E → PE ((X.blk s H scope (compEnvC scope cl C X.env) fp).wish xe) elt te)
    (hset : ∀ x, foldedSetIterable iter X.env x = pure x) (h : tLc wi g tt te (own.map (·.2)) σ H Q)
    (hend : ∀ L cl C s' m H', Inv X pins σ H' s' → Q (.ref L) H' → s'.heap.Ns C m → FpOk X pins H' C → compEnds (model X.prog X.w) X.A X.xe use Qf (.ref L) (compEnvC scope cl C X.env) (.ok .next) s') :
    wpAny (model X.prog X.w) X.A (comprehension (.ListComp elt [⟨tg, iter, ifs, 0⟩] scope pos) scope X.env pos' (newList []) false (eval iter X.env) use) Qf X.xe s := by
  have hcell : ∀ y ∈ scope.names, y.2 = .free → ∃ c, X.env.cells.lookup y.1 = some c := fun y hy e => (ok.free y hy e).elim (fun k => I.ok.has _ (.inl k)) fun k => I.ok.has _ (.inr k)
  refine comprehension_at (use := use) rfl hset (closure_ok hcell) ok.kind (fun y hy e => by rw [ok.uniq y hy, e]) (thn (hi.run pins s σ H _ I h) fun _ s1 h1 => thn h1 fun _ s2 h2 => ?_)
  obtain ⟨it, fp, tn, J, H2, rfl, I2, T, t2, f2, q⟩ := h2
  refine wpAny_newObj_type (newEnv_comp ?_) (by show 0 ≤ sizeLine; decide)
  have hL0 : H2 s2.heap.objs.size = none := I2.hok.fresh (Nat.le_refl _)
  obtain ⟨W, ⟨m0, w0⟩, turn⟩ := q s2.heap.objs.size hL0
  generalize hs3 : ({ s2 with heap := s2.heap.push { cls := .type "list", data := .seq ([] : List Value).toArray } } : Shared) = s3
  have e3 : s3.heap = s2.heap.push { cls := .type "list", data := .seq ([] : List Value).toArray } := by rw [← hs3]
  have I3 : Inv X pins σ (upd H2 s2.heap.objs.size (.lst [])) s3 := by
    rw [← hs3]
    exact I2.laid (t' := s2.toks) (fun b o e => Heap.get?_push_of_some _ e) (Nat.le_refl _) ⟨Nat.zero_le _, [], 0, .nil, Heap.get?_push_size _ rfl⟩
  have f3 : ∀ b ∈ fp, FpOk X pins (upd H2 s2.heap.objs.size (.lst [])) b ∧ b < s3.heap.objs.size := fun b hb => by
    obtain ⟨o, eo, _⟩ := T.obj _ _ t2 b hb
    have lt := Heap.lt_size eo
    obtain ⟨p1, p2⟩ := f2 b hb
    exact ⟨⟨by rw [upd_ne (Nat.ne_of_lt lt)]; exact p1, p2⟩, by rw [e3, Heap.size_push]; exact Nat.lt_succ_of_lt lt⟩
  have t3 : tn 0 s3.heap := T.keep _ _ _ t2 fun b _ o e => by rw [e3]; exact Heap.get?_push_of_some _ e
  have I4 := block_start I3 ok hN f3
  generalize hcl : cellsFrom (s3.heap.objs.size + 1) scope.names (cloFrom X.env.cells scope.names []) = cl at I4
  show codeAny _ _ (.compStart (.ListComp elt [⟨tg, iter, ifs, 0⟩] scope pos) 0 (.ref it) (.ref s2.heap.objs.size) (compEnvC scope cl s3.heap.objs.size X.env))
    (compEnds (model X.prog X.w) X.A X.xe use Qf (.ref s2.heap.objs.size) (compEnvC scope cl s3.heap.objs.size X.env)) { s3 with heap := pushCells (s3.heap.push { cls := .type "dict", data := .dict #[] }) scope.names }
  generalize s2.heap.objs.size = L at *
  generalize upd H2 L (.lst []) = H3 at *
  have pg := hg s3 H3 s3.heap.objs.size cl fp
  have pt := ht s3 H3 s3.heap.objs.size cl fp
  have pe := he s3 H3 s3.heap.objs.size cl fp
  have fl := fun {pb σb H s s' u} Ib c => blk_fails (W := fun cls d _ H => E cls d H) (ce := compEnvC scope cl s3.heap.objs.size X.env) (fp := fp) (scope := scope) (pb := pb) (σb := σb) (H := H) (s := s) (s' := s') (u := u) hst hf tk I3 rfl rfl f3 Ib c
  have hend' := hend L cl s3.heap.objs.size
  have cL : (compEnvC scope cl s3.heap.objs.size X.env).locals = s3.heap.objs.size := rfl
  generalize compEnvC scope cl s3.heap.objs.size X.env = ce at *
  generalize hs4 : ({ s3 with heap := pushCells (s3.heap.push { cls := .type "dict", data := .dict #[] }) scope.names } : Shared) = s4 at I4 ⊢
  have t4 : tn 0 s4.heap := T.keep _ _ _ t3 fun b _ o e => by rw [← hs4]; exact pushCells_keeps _ _ _ _ (Heap.get?_push_of_some _ e)
  have still : ∀ {σ' : L2.St} {H' : Hp} {s' : Shared}, Inv (X.blk s3 H3 scope ce fp) [] σ' H' s' → (∀ b ∈ fp, H' b = none) → ∀ b ∈ fp, FpOk (X.blk s3 H3 scope ce fp) [] H' b := fun Ib hn b hb =>
    ⟨hn b hb, (Ib.ok.exf b hb).1, Ib.ok.exfs b hb, .inl hb, fun x c e => (Ib.ok.exf b hb).2 x c e, fun p hp => absurd (show p ∈ ([] : List (Addr × Obj)) ++ [] from hp) (by simp)⟩
  have pe := pe (notedBy (model X.prog X.w) X.A ce fun u s' => compEnds (model X.prog X.w) X.A X.xe use Qf (.ref L) ce (.error u) s') fun pb σb Hb sb u s' Ib c => noted_imp (fl (Inv.unwish Ib) c) fun _ _ z => ends_err z
  refine codeAny_compStart_list (?loop : codeAny _ _ _ _ s4) (T.self X.A 0 _ _ _ t4 ?loop)
  refine compLoop_any (fun n s' => ∃ i H', Inv (X.blk s3 H3 scope ce fp) [] (wipe σ (own.map (·.2))) H' s' ∧ tn i s'.heap ∧ (∀ b ∈ fp, H' b = none) ∧ W i n H') ?_ m0 ⟨0, H3, I4, t4, fun b hb => (f3 b hb).1.1, w0⟩
  rintro n s5 ⟨i, H5, I5, t5, n5, w5⟩
  rcases turn i n H5 w5 with ⟨stop, qq⟩ | ⟨go, Nx, hNx, step⟩
  · refine thnF (T.done (X.blk s3 H3 scope ce fp) rfl rfl rfl hc i [] s5 _ H5 (fun _ _ => False) I5 (still I5 n5) t5 stop) fun r s6 ⟨hr, I6⟩ => ?_
    subst hr
    obtain ⟨m, hn, _⟩ := I6.loc
    have nC : H5 ce.locals = none := I6.free
    have hn : s6.heap.Ns ce.locals m := hn
    rw [cL] at nC hn
    exact hend' s6 m H5 (I3.call' (ch := fp) I6.os I6.base I6.hok I6.bare fun b hb => ⟨(f3 b hb).1.2.2.2.1, (f3 b hb).1.2.1, (f3 b hb).1.2.2.2.2.1, (f3 b hb).1.2.2.2.2.2⟩) qq hn (I3.fpOk (Nat.le_refl _) nC)
  · refine thnF (T.item (X.blk s3 H3 scope ce fp) rfl rfl rfl hc i [] s5 _ H5 (fun _ _ => False) I5 (still I5 n5) t5 go) fun r s6 ⟨u, hr, h6⟩ => ?_
    subst hr
    refine thnF h6 fun _ s7 ⟨x, H7, I7, r7, y7, t7, n7⟩ => ?_
    have I7' := I7.pinned (still I7 n7) (T.obj _ _ t7)
    refine thnF (pg.run _ s7 _ H7 x u _ I7' r7 (step x H7 y7)) fun _ s8 ⟨σ8, H8, I8, hw, q8⟩ => ?_
    refine thnF (pt.run _ s8 σ8 H8 _ I8 q8) fun b s9 ⟨H9, I9, q9⟩ => ?_
    have next : ∀ {s' : Shared} {H' : Hp}, Inv (X.blk s3 H3 scope ce fp) ([] ++ pinsAt fp s7.heap) σ8 H' s' → Nx H' → ∃ m, m < n ∧ ∃ i H', Inv (X.blk s3 H3 scope ce fp) [] (wipe σ (own.map (·.2))) H' s' ∧ tn i s'.heap ∧ (∀ b ∈ fp, H' b = none) ∧ W i m H' := fun {s' H'} Ib nx => by
      obtain ⟨m', hm, w'⟩ := hNx H' nx
      have stay : ∀ b ∈ fp, ∀ o, s7.heap.get? b = some o → s'.heap.get? b = some o ∧ H' b = none := fun b hb o e => by
        have z := Ib.pin (b, o) (List.mem_append_right _ (List.mem_append_right _ (mem_pinsAt hb e)))
        exact ⟨z.1, z.2.1⟩
      refine ⟨m', hm, i + 1, H', (Ib.unpinned (pins := [])).weak (by rw [← hw, wipe_length]) (fun j v e => ?_), T.keep _ _ _ t7 fun b hb o e => (stay b hb o e).1, fun b hb => ?_, w'⟩
      · rw [← hw] at e
        exact (wipe_some e).1
      · obtain ⟨o, e, _⟩ := T.obj _ _ t7 b hb
        exact (stay b hb o e).2
    cases b with
    | false =>
      simp only [Bool.false_eq_true, if_false] at q9 ⊢
      exact next I9 q9
    | true =>
      simp only [if_true] at q9 ⊢
      refine thn (pe.run _ s9 σ8 H9 _ (I9.wish _) q9) fun z s10 ⟨yv, H10, I10, r10, acc, hD, hz, nx⟩ => ?_
      exact app_ok (X := X.blk s3 H3 scope ce fp) I10.unwish hD hz r10 fun s11 I11 => next I11 nx
end BT
namespace BT
open PySem PySem.Spec PyProof.Rows L2 Evl
section
variable {X : Cx} {E : XK}
/-- [.. for ..], an error out of an element's call leaves the def -/
theorem pe_lcX {elt tg iter : Expr} {ifs : List Expr} {scope : Scope} {pos : Pos} {wi : TI} {tt : TT} {te : TE} (own : List (Str × Nat)) (g : TG) (hst : X.stack = X.env :: X.outer) (hf : X.env.frame = some X.env.locals) (tk : L2.Takes X fun cls d _ H => E cls d H) (hc : X.calm = true) (hN : X.N.Nodup) (hi : PI X tg iter wi) (ok : BlkOk X.N X.env.scope scope own)
    (hg : ∀ (s : Shared) (H : Hp) (C : Addr) (cl : List (Str × Addr)) (fp : List Addr), PG (X.blk s H scope (compEnvC scope cl C X.env) fp) tg g)
    (ht : ∀ (s : Shared) (H : Hp) (C : Addr) (cl : List (Str × Addr)) (fp : List Addr), PTs (X.blk s H scope (compEnvC scope cl C X.env) fp) ifs tt)
    (he : ∀ (s : Shared) (H : Hp) (C : Addr) (cl : List (Str × Addr)) (fp : List Addr) (xe : Value → Shared → Prop), Passes (L2.CX X.prog X.w) ((X.blk s H scope (compEnvC scope cl C X.env) fp).wish xe) E → PE ((X.blk s H scope (compEnvC scope cl C X.env) fp).wish xe) elt te)
    (hset : ∀ x, foldedSetIterable iter X.env x = pure x := by intro _; rfl) : PE X (.ListComp elt [⟨tg, iter, ifs, 0⟩] scope pos) (tLc wi g tt te (own.map (·.2))) := by
  constructor
  intro pins s σ H Q I h
  rw [eval_ListComp]
  refine lc_coreX hst hf tk hc hN I hi ok hg ht he hset h fun L cl C s' m H' I' q hn ⟨f0, f1, f2, f3, f4, f5⟩ => ⟨m, hn, fun h2 sb => ?_⟩
  exact ⟨.ref L, H', I'.turned (t' := s'.toks) (fun b o hb e => Heap.SameBut.get sb hb e) f0 f1 f3 f4 f5, rfl, q⟩
/-- name = [.. for ..] -/
theorem ps_setLcX {i : Nat} {y : Str} {py : Pos} {elt tg iter : Expr} {ifs : List Expr} {scope : Scope} {pos spos : Pos} {wi : TI} {tt : TT} {te : TE} (own : List (Str × Nat)) (g : TG) (hst : X.stack = X.env :: X.outer) (hf : X.env.frame = some X.env.locals) (tk : L2.Takes X fun cls d _ H => E cls d H) (hc : X.calm = true) (hN : X.N.Nodup)
    (hy : X.N[i]? = some y) (hyl : X.env.scope.names.lookup y = some .local) (hsw : swapsWith (.ListComp elt [⟨tg, iter, ifs, 0⟩] scope pos) (some (.Name y py)) spos.line X.env = pure true) (hi : PI X tg iter wi) (ok : BlkOk X.N X.env.scope scope own)
    (hg : ∀ (s : Shared) (H : Hp) (C : Addr) (cl : List (Str × Addr)) (fp : List Addr), PG (X.blk s H scope (compEnvC scope cl C X.env) fp) tg g)
    (ht : ∀ (s : Shared) (H : Hp) (C : Addr) (cl : List (Str × Addr)) (fp : List Addr), PTs (X.blk s H scope (compEnvC scope cl C X.env) fp) ifs tt)
    (he : ∀ (s : Shared) (H : Hp) (C : Addr) (cl : List (Str × Addr)) (fp : List Addr) (xe : Value → Shared → Prop), Passes (L2.CX X.prog X.w) ((X.blk s H scope (compEnvC scope cl C X.env) fp).wish xe) E → PE ((X.blk s H scope (compEnvC scope cl C X.env) fp).wish xe) elt te)
    (hset : ∀ x, foldedSetIterable iter X.env x = pure x := by intro _; rfl) : PS X (.Assign [.Name y py] (.ListComp elt [⟨tg, iter, ifs, 0⟩] scope pos) spos) (tAsg (tLc wi g tt te (own.map (·.2))) (gName i)) := by
  constructor
  intro pins s σ H D I h
  rw [exec_Assign_Name_used _ _ _ _ hsw]
  refine wpAny_bind (wpAny_standAt (wpAny_bind ?_))
  show wpAny _ X.A (do let _ ← comprehension (.ListComp elt [⟨tg, iter, ifs, 0⟩] scope pos) scope X.env (firstIterPos [⟨tg, iter, ifs, 0⟩] pos) (newList []) false (eval iter X.env) (some (assign (.Name y py) X.env))) _ _ s
  have h : tLc wi g tt te (own.map (·.2)) σ H (fun x H1 => gName i x σ H1 D.nx) := h
  refine wpAny_bind (thn (lc_coreX (Qf := fun _ s' => SP X pins D .next s') hst hf tk hc hN I hi ok hg ht he hset h fun L cl C s' m H' I' q hn ⟨f0, f1, f2, f3, f4, f5⟩ => ?_) fun _ s' hq => wpAny_pure (wpAny_pure hq))
  show wpAny _ _ (assign (.Name y py) X.env (.ref L)) _ _ _
  refine wpAny_assign_Name (store_ok2 (v := V.ref L) I' hN hy (.inl hyl) rfl (fun s2 I2 ⟨a, sb, ha⟩ => ?_) (.inr hyl))
  refine ⟨m, hn.sameBut sb (ha.elim (fun z => by rw [z]; exact f1) fun z e => f4 y a z e.symm), fun h3 sb3 => ?_⟩
  exact ⟨_, H', I2.turned (t' := s2.toks) (fun b o hb e => Heap.SameBut.get sb3 hb e) f0 f1 f3 f4 f5, q⟩
end
end BT
namespace BT
open PySem PySem.Spec PyProof.Rows L2 Evl
/-- as Fun.okX, the error's context told -/
theorem okXN {P : Program} {w : World} {K : PySem.W.Frag} {mg : Str → Option Value} {base : Heap} {x qual : Str} {st : Stmt} {f : Addr} {fd : FuncData} {N ps : List Str} {k : Nat} {sp : Sp} (F : Fun K x qual st f fd) (S : FnScope N ps (defScope st)) (len : ∀ vs H Q E, sp vs H Q E → vs.length = ps.length)
    (hb : ∀ (cdv : Value) (A : Around) (outer : List Env) (s : Shared) (H : Hp) (vs : List V) (Q : VK) (E : XK), Room k (A.deeper (envOfC qual (defScope st) s.heap.objs.size f cdv)) → sp vs H Q E →
      ∃ t, PSs (cxOf (L2N.CX P w) P w K mg base N qual (defScope st) f cdv A outer s H E) (defBody st) t ∧ t { nx := fun _ H' => Q .non H', rt := Q } (start N vs) H) : FnOk P w K mg base (L2N.CX P w) (k + 1) f fd ps sp := by
  obtain ⟨oc, od, kV, doc, pm, an, cdv, ct, osl, rfl, lk, hcd⟩ := F.ex
  exact fn_of lk hcd S len fun A outer s H vs Q E hr h => hb cdv A outer s H vs Q E hr h
section
variable {K : PySem.W.Frag} {σ : L2.St} {H : Hp} {ta : TA} {P : V → Hp → Prop} {D : Ends} {tz : TS}
/-- try: f(..) except C: raise .. -/
theorem go_tryDropX {c : Value} {ts : Addr → Value → Option Addr → TS} {Wout : WX} {sp : Sp} {vs : List V} {R : Value → Prop} (h : EvA ta σ H vs) (hs : SpX sp vs H P R) (k1 : ∀ v H1, Ex H H1 → P v H1 → Go tz D σ H1)
    (k2 : ∀ cls, R cls → PySem.W.exmOne K cls c = some true ∧ ∀ a H1, Ex H H1 → Go (ts a cls none) { D with nx := tz D } σ H1) : Go (tSeq (fun D σ H => tDrop (tCallS sp (WE (wOnly K c ts Wout D)) ta) D σ H) tz) D σ H :=
  fun H1 e => h H1 e _ fun H2 e2 => hs H2 (e.trans e2) _ _ (fun v H3 e3 hp => k1 v H3 ((e.trans e2).trans e3) hp H3 (Ex.refl H3)) (fun cls H3 e3 hr => ⟨true, (k2 cls hr).1, fun _ a _ => (k2 cls hr).2 a H3 ((e.trans e2).trans e3) H3 (Ex.refl H3), fun z => nomatch z⟩)
end
end BT
namespace BT
open PySem PySem.Spec PyProof.Rows L2 Evl
/-! ### lists of things, each of a kind of its own -/
def AllP (Ps : List (V → Hp → Prop)) (vs : List V) (H : Hp) : Prop := vs.length = Ps.length ∧ ∀ (i : Nat) (v : V) (P : V → Hp → Prop), vs[i]? = some v → Ps[i]? = some P → P v H
def LsP (Ps : List (V → Hp → Prop)) (v : V) (H : Hp) : Prop := ∃ p vs, v = .ref p ∧ H p = some (.lst vs) ∧ AllP Ps vs H
section
variable {K : PySem.W.Frag} {σ : L2.St} {H H' : Hp} {ta tb te tl : TE} {tr : TA} {P : V → Hp → Prop} {Ps : List (V → Hp → Prop)}
theorem AllP.up {vs : List V} (hm : ∀ P ∈ Ps, Mono P) (e : Ex H H') (h : AllP Ps vs H) : AllP Ps vs H' := ⟨h.1, fun i v P a b => hm P (List.mem_of_getElem? b) v H H' e (h.2 i v P a b)⟩
theorem lsP_mono (hm : ∀ P ∈ Ps, Mono P) : Mono (LsP Ps) := fun v H H' e ⟨p, vs, h1, h2, h3⟩ => ⟨p, vs, h1, e _ _ h2, h3.up hm e⟩
theorem eap_nilP : EvAP tNil σ H (AllP []) := fun H1 e Q q => q [] H1 (Ex.refl H1) ⟨rfl, fun i v P h => by simp at h⟩
theorem eap_consP (m : Mono P) (h : EvP te σ H P) (hr : EvAP tr σ H (AllP Ps)) : EvAP (tCons te tr) σ H (AllP (P :: Ps)) :=
  eap_cons m h hr fun v vs H1 _ hv hvs => ⟨by rw [List.length_cons, List.length_cons, hvs.1], fun i u Q a b => by
    cases i with
    | zero => cases a; cases b; exact hv
    | succ i => exact hvs.2 i u Q a b⟩
theorem ep_lstP (hm : ∀ P ∈ Ps, Mono P) (h : EvAP tr σ H (AllP Ps)) (hl : Ps.length ≤ 1000) : EvP (tLst tr) σ H (LsP Ps) :=
  fun H1 e Q q => h H1 e _ fun vs H2 e2 hv => ⟨sz_of (by rw [hv.1]; omega), fun p hp => q _ _ (e2.trans (Ex.new hp)) ⟨p, vs, rfl, upd_same, hv.up hm (Ex.new hp)⟩⟩
theorem ep_ixP {i : Int} (ha : EvP ta σ H (LsP Ps)) (hb : ∀ H1, Ex H H1 → Ev tb σ H1 (.int i)) (hm : Mono P) (h0 : 0 ≤ i) (hP : Ps[i.toNat]? = some P) : EvP (tOp (rIxL K) ta tb) σ H P :=
  fun H1 e Q q => ha H1 e _ fun v H2 e2 ⟨p, vs, hv, h2, hA⟩ => hb H2 (e.trans e2) H2 (Ex.refl _) _ fun H3 e3 => by
    have hlt : i.toNat < vs.length := by rw [hA.1]; exact (List.getElem?_eq_some_iff.mp hP).1
    have hg : vs[i.toNat]? = some vs[i.toNat] := List.getElem?_eq_getElem hlt
    have hx : atI vs i = some vs[i.toNat] := by
      have := atI_nat hg
      rwa [show ((i.toNat : Nat) : Int) = i by omega] at this
    exact ⟨p, vs, i, _, hv, rfl, ex_l e3 (sq_of h2), hx, q _ H3 (e2.trans e3) (hm _ _ _ e3 (hA.2 _ _ _ hg hP))⟩
theorem ep_LP {n : Nat} {P : Nat → V → Hp → Prop} (h : EvLP te σ H n P) : EvP te σ H (fun v H1 => ∃ p vs, v = .ref p ∧ H1 p = some (.lst vs) ∧ vs.length = n ∧ ∀ (i : Nat) (v : V), vs[i]? = some v → P i v H1) :=
  fun H1 e Q q => h H1 e Q fun p H2 vs _ e2 h1 h2 h3 => q _ H2 e2 ⟨p, vs, rfl, h1, h2, h3⟩
theorem ep_pair {a b : Int} (ha : Ev ta σ H (.int a)) (hb : Ev tb σ H (.int b)) : EvP (tTup (tCons ta (tCons tb tNil))) σ H (RwV K [a, b]) :=
  ep_U (eu_tup (vs := [.int a, .int b]) (ea_cons ha (ea_cons hb ea_nil)) (by show (2 : Nat) ≤ 100000; decide)) fun t H1 _ ht => ⟨t, rfl, st_of ht⟩
end
end BT

namespace BT
open PySem PySem.Spec PyProof.Rows L2 Evl
/-! ### what never comes to a value -/
def EvX (te : TE) (σ : L2.St) (H : Hp) : Prop := ∀ H1, Ex H H1 → ∀ Q : VK, te σ H1 Q
section
variable {K : PySem.W.Frag} {σ : L2.St} {H H' : Hp} {ta tb te tl : TE} {P : V → Hp → Prop}
theorem EvX.p (h : EvX te σ H) : EvP te σ H P := fun H1 e Q _ => h H1 e Q
theorem EvX.l {xs : List V} (h : EvX te σ H) : EvL te σ H xs := fun H1 e Q _ => h H1 e Q
theorem ex_call {sp : Sp} {dvs vs : List V} {E : XK} {ta : TA} (h : EvA ta σ H vs) (hs : ∀ H1, Ex H H1 → ∀ Q : VK, sp (vs ++ dvs) H1 Q E) : EvX (tCall sp dvs E ta) σ H := fun H1 e Q => h H1 e _ fun H2 e2 => hs H2 (e.trans e2) Q
theorem ex_cb {r : List V → Hp → VK → Prop} {tr : TA} (h : EvX te σ H) : EvX (tCB r (tCons te tr)) σ H := fun H1 e Q => h H1 e _
theorem ex_lc {g : TG} {tt : TT} {vs : List Nat} (h : EvX tl σ H) : EvX (tLc (iList K tl) g tt te vs) σ H := fun H1 e Q => h H1 e _
/-- a value, or an error that is wished for -/
theorem epx_call {sp : Sp} {dvs vs : List V} {E : XK} {ta : TA} (h : EvA ta σ H vs) (hs : ∀ H1, Ex H H1 → ∀ Q : VK, (∀ v H2, Ex H1 H2 → P v H2 → Q v H2) → sp (vs ++ dvs) H1 Q E) : EvP (tCall sp dvs E ta) σ H P :=
  fun H1 e Q q => h H1 e _ fun H2 e2 => hs H2 (e.trans e2) Q fun v H3 e3 p => q v H3 (e2.trans e3) p
end
end BT

namespace BT
open PySem PySem.Spec PyProof.Rows L2 Evl
section
variable {K : PySem.W.Frag} {σ : L2.St} {H H' : Hp} {ta tb te tl : TE} {P : V → Hp → Prop} {D : Ends} {tz : TS} {t : TT}
/-- xs + ys -/
theorem el_cat {l : Addr} {xs zs : List V} (ha : Ev ta σ H (.ref l)) (hl : H l = some (.lst xs)) (hb : EvL tb σ H zs) (hz : xs.length + zs.length ≤ 100000) : EvL (tOp rCat ta tb) σ H (xs ++ zs) :=
  fun H1 e Q q => ha H1 e _ fun H2 e2 => hb H2 (e.trans e2) _ fun p H3 hp e3 h3 => ⟨l, p, xs, zs, rfl, rfl, e3 _ _ (e2 _ _ (e _ _ hl)), h3, sz_of hz, fun r hr => q r _ (fresh_back (e2.trans e3) hr) ((e2.trans e3).trans (Ex.new hr)) upd_same⟩
/-- text[i:j] -/
theorem ev_slS {z : Str} {tlo thi : TO} {lo hi : Option Int} (h : Ev te σ H (.str z)) (h1 : EvO tlo σ H lo) (h2 : EvO thi σ H hi) (hz : z.length ≤ 1000) : Ev (tSl rSlS te tlo thi) σ H (.str (cutS z lo hi)) :=
  fun H1 e Q q => h H1 e _ fun H2 e2 => h1 H2 (e.trans e2) _ fun H3 e3 => h2 H3 ((e.trans e2).trans e3) _ fun H4 e4 => ⟨z, rfl, sz_of (by omega), q H4 ((e2.trans e3).trans e4)⟩
/-- xs.insert(i, x) -/
theorem gl_insAt {l : Addr} {xs : List V} {i : Int} {v : V} (hl : H l = some (.lst xs)) (ha : Ev ta σ H (.ref l)) (hi : Ev tb σ H (.int i)) (h : Ev te σ H v) (h0 : 0 ≤ i) (h1 : i ≤ 1000) (hz : xs.length < 100000) (k : ∀ H1, Ex H H1 → GoN D σ (upd H1 l (.lst (xs.take i.toNat ++ [v] ++ xs.drop i.toNat)))) :
    Go (tDrop (tBM K "list" rInsert ta (tCons tb (tCons te tNil)))) D σ H :=
  fun H1 e => ha H1 e _ fun H2 e2 => ⟨.inl ⟨rfl, xs, sq_of (e2 l _ (e l _ hl))⟩, hi H2 (e.trans e2) _ fun H3 e3 => h H3 ((e.trans e2).trans e3) _ fun H4 e4 =>
    ⟨l, xs, i, v, rfl, rfl, e4 l _ (e3 l _ (e2 l _ (e l _ hl))), sz_lt hz, h0, by omega, k H4 (((e.trans e2).trans e3).trans e4) _ (Ex.refl _)⟩⟩
/-- try: if ..: f(..) else: g(..) -/
theorem go_tryIf {b : Bool} {i : Nat} {c : Value} {ts : Addr → Value → Option Addr → TS} {Wout : WX} {s1 s2 : Sp} {t1 t2 : TA} (ht : EvT t σ H b) (h1 : b = true → Go (tSeq (fun D σ H => tDrop (tCallS s1 (WE (wAs K c i ts Wout D)) t1) D σ H) tz) D σ H) (h2 : b = false → Go (tSeq (fun D σ H => tDrop (tCallS s2 (WE (wAs K c i ts Wout D)) t2) D σ H) tz) D σ H) :
    Go (tSeq (fun D σ H => tIfS t (tDrop (tCallS s1 (WE (wAs K c i ts Wout D)) t1)) (tDrop (tCallS s2 (WE (wAs K c i ts Wout D)) t2)) D σ H) tz) D σ H :=
  fun H1 e => ht H1 e _ fun H2 e2 => by
    cases b with
    | true => exact h1 rfl H2 (e.trans e2)
    | false => exact h2 rfl H2 (e.trans e2)
end
end BT
/-! ### the text -/
namespace BT
open PySem PySem.Spec PyProof.Rows L2 Evl
def topS (i : Nat) : Stmt := PySem.Challenge.pw_blockturn_k17_texts_refused.main.body.getD i (.Pass ⟨0, 0, 0, 0⟩)
abbrev s_looked : Stmt := topS 7
theorem sc_looked : FnScope ["rule", "colours", "many", "number"] ["rule", "colours"] (defScope s_looked) := ⟨rfl, rfl, rfl, by decide +kernel, rfl, by decide +kernel, by decide +kernel⟩
abbrev s_is_size : Stmt := topS 9
theorem sc_is_size : FnScope ["many"] ["many"] (defScope s_is_size) := ⟨rfl, rfl, rfl, by decide +kernel, rfl, by decide +kernel, by decide +kernel⟩
abbrev s_looked_board : Stmt := topS 10
theorem sc_looked_board : FnScope ["board", "colours", "row", "colour"] ["board", "colours"] (defScope s_looked_board) := ⟨rfl, rfl, rfl, by decide +kernel, rfl, by decide +kernel, by decide +kernel⟩
abbrev s_lines_of : Stmt := topS 13
theorem sc_lines_of : FnScope ["text", "lines"] ["text"] (defScope s_lines_of) := ⟨rfl, rfl, rfl, by decide +kernel, rfl, by decide +kernel, by decide +kernel⟩
abbrev s_row_of : Stmt := topS 14
theorem sc_row_of : FnScope ["line", "sign"] ["line"] (defScope s_row_of) := ⟨rfl, rfl, rfl, by decide +kernel, rfl, by decide +kernel, by decide +kernel⟩
abbrev s_read_board : Stmt := topS 15
theorem sc_read_board : FnScope ["text", "colours", "board", "line"] ["text", "colours"] (defScope s_read_board) := ⟨rfl, rfl, rfl, by decide +kernel, rfl, by decide +kernel, by decide +kernel⟩
abbrev s_whole_of : Stmt := topS 16
theorem sc_whole_of : FnScope ["word", "sign"] ["word"] (defScope s_whole_of) := ⟨rfl, rfl, rfl, by decide +kernel, rfl, by decide +kernel, by decide +kernel⟩
abbrev s_read_rule : Stmt := topS 17
theorem sc_read_rule : FnScope ["text", "lines", "colours", "rule", "word"] ["text"] (defScope s_read_rule) := ⟨rfl, rfl, rfl, by decide +kernel, rfl, by decide +kernel, by decide +kernel⟩
abbrev s__law_cell_at : Stmt := topS 19
theorem sc__law_cell_at : FnScope ["script", "k"] ["script", "k"] (defScope s__law_cell_at) := ⟨rfl, rfl, rfl, by decide +kernel, rfl, by decide +kernel, by decide +kernel⟩
abbrev s__law_rule_by : Stmt := topS 20
theorem sc__law_rule_by : FnScope ["cell", "colours", "k", "rest", "out", "a", "b"] ["cell", "colours"] (defScope s__law_rule_by) := ⟨rfl, rfl, rfl, by decide +kernel, rfl, by decide +kernel, by decide +kernel⟩
abbrev s__law_named : Stmt := topS 21
theorem sc__law_named : FnScope ["kind", "number", "bits", "three", "bit"] ["kind", "number"] (defScope s__law_named) := ⟨rfl, rfl, rfl, by decide +kernel, rfl, by decide +kernel, by decide +kernel⟩
abbrev s__law_board_by : Stmt := topS 22
theorem sc__law_board_by : FnScope ["cell", "width", "height", "colours", "rows", "y", "row", "x"] ["cell", "width", "height", "colours"] (defScope s__law_board_by) := ⟨rfl, rfl, rfl, by decide +kernel, rfl, by decide +kernel, by decide +kernel⟩
abbrev s__law_refused : Stmt := topS 23
theorem sc__law_refused : FnScope ["way", "text", "colours", "marks", "e"] ["way", "text", "colours"] (defScope s__law_refused) := ⟨rfl, rfl, rfl, by decide +kernel, rfl, by decide +kernel, by decide +kernel⟩
abbrev s__law_bad_board : Stmt := topS 24
theorem sc__law_bad_board : FnScope ["rows", "colours", "cell", "way", "y", "at", "bad", "sign", "row"] ["rows", "colours", "cell"] (defScope s__law_bad_board) := ⟨rfl, rfl, rfl, by decide +kernel, rfl, by decide +kernel, by decide +kernel⟩
abbrev s__law_bad_rule : Stmt := topS 25
theorem sc__law_bad_rule : FnScope ["rule", "colours", "cell", "words", "head", "way", "at", "some", "more", "number"] ["rule", "colours", "cell"] (defScope s__law_bad_rule) := ⟨rfl, rfl, rfl, by decide +kernel, rfl, by decide +kernel, by decide +kernel⟩
abbrev s_law : Stmt := topS 26
theorem sc_law : FnScope ["script", "colours", "rule", "width", "board", "rows", "k", "row", "colour"] ["script"] (defScope s_law) := ⟨rfl, rfl, rfl, by decide +kernel, rfl, by decide +kernel, by decide +kernel⟩
structure Bl (mg : Str → Option Value) : Prop where
  ValueError_ : mg "ValueError" = none
  int_ : mg "int" = none
  isinstance_ : mg "isinstance" = none
  len_ : mg "len" = none
  list_ : mg "list" = none
  range_ : mg "range" = none
  set_ : mg "set" = none
  str_ : mg "str" = none
  sum_ : mg "sum" = none
  tuple_ : mg "tuple" = none
structure Cls (K : PySem.W.Frag) (mg : Str → Option Value) (C_BlockError C_NoBoard C_NoRule C_NotBack C_BadNote : Addr) : Prop where
  BlockError : ErrAt K mg "BlockError" C_BlockError
  NoBoard : ErrAt K mg "NoBoard" C_NoBoard
  NoRule : ErrAt K mg "NoRule" C_NoRule
  NotBack : ErrAt K mg "NotBack" C_NotBack
  BadNote : ErrAt K mg "BadNote" C_BadNote
  S_BlockError_NoBoard : PySem.W.subIn K (.ref C_BlockError) (.ref C_NoBoard) = some false
  S_BlockError_NoRule : PySem.W.subIn K (.ref C_BlockError) (.ref C_NoRule) = some false
  S_BlockError_NotBack : PySem.W.subIn K (.ref C_BlockError) (.ref C_NotBack) = some false
  S_BlockError_BadNote : PySem.W.subIn K (.ref C_BlockError) (.ref C_BadNote) = some false
  S_NoBoard_BlockError : PySem.W.subIn K (.ref C_NoBoard) (.ref C_BlockError) = some true
  S_NoBoard_NoRule : PySem.W.subIn K (.ref C_NoBoard) (.ref C_NoRule) = some false
  S_NoBoard_NotBack : PySem.W.subIn K (.ref C_NoBoard) (.ref C_NotBack) = some false
  S_NoBoard_BadNote : PySem.W.subIn K (.ref C_NoBoard) (.ref C_BadNote) = some false
  S_NoRule_BlockError : PySem.W.subIn K (.ref C_NoRule) (.ref C_BlockError) = some true
  S_NoRule_NoBoard : PySem.W.subIn K (.ref C_NoRule) (.ref C_NoBoard) = some false
  S_NoRule_NotBack : PySem.W.subIn K (.ref C_NoRule) (.ref C_NotBack) = some false
  S_NoRule_BadNote : PySem.W.subIn K (.ref C_NoRule) (.ref C_BadNote) = some false
  S_NotBack_BlockError : PySem.W.subIn K (.ref C_NotBack) (.ref C_BlockError) = some true
  S_NotBack_NoBoard : PySem.W.subIn K (.ref C_NotBack) (.ref C_NoBoard) = some false
  S_NotBack_NoRule : PySem.W.subIn K (.ref C_NotBack) (.ref C_NoRule) = some false
  S_NotBack_BadNote : PySem.W.subIn K (.ref C_NotBack) (.ref C_BadNote) = some false
  S_BadNote_BlockError : PySem.W.subIn K (.ref C_BadNote) (.ref C_BlockError) = some true
  S_BadNote_NoBoard : PySem.W.subIn K (.ref C_BadNote) (.ref C_NoBoard) = some false
  S_BadNote_NoRule : PySem.W.subIn K (.ref C_BadNote) (.ref C_NoRule) = some false
  S_BadNote_NotBack : PySem.W.subIn K (.ref C_BadNote) (.ref C_NotBack) = some false
end BT
open PySem PySem.Spec PyProof.Rows L2 Evl BT
local macro_rules | `(tactic| walk_at "le") => `(tactic| first | omega | decide | with_reducible assumption | (simp only [List.length_map, len_rowOf, len_mk, List.length_cons, List.length_nil] at *; omega))
local macro_rules | `(tactic| walk_at "sq") => `(tactic| first | assumption | exact sq_of (by assumption) | exact st_of (by assumption))
local macro_rules | `(tactic| walk_at "rv") => `(tactic| first
  | ((with_reducible show RV (rI0 _) _ _ _ _); exact rv_I0)
  | ((with_reducible show RV rEq _ _ _ _); first | exact rv_eqI | exact rv_eqS | exact rv_eqBl)
  | ((with_reducible show RV rNe _ _ _ _); first | exact rv_neI | exact rv_neS)
  | ((with_reducible show RV (rI (fun _ j => 0 < j) fun i j => V.int (i % j)) _ _ _ _); exact rv_mod (by walk_at "le"))
  | ((with_reducible show RV (rI CDiv _) _ _ _ _); exact rv_fdiv (by walk_at "le") (by walk_at "le"))
  | ((with_reducible show RV (rI CMul _) _ _ _ _); first | exact rv_mulR (by walk_at "le") (by walk_at "le") | exact rv_mulL (by walk_at "le") (by walk_at "le"))
  | ((with_reducible show RV (rI CPow _) _ _ _ _); exact rv_pow ⟨by decide, by decide, by decide⟩)
  | ((with_reducible show RV (rEqD _) _ _ _ _); first | exact rv_eqB (by assumption) (by assumption) | exact rv_eqL (by walk_at "sq") (by walk_at "sq") | exact rv_eqT (by assumption) (by assumption))
  | ((with_reducible show RV (rNeD _) _ _ _ _); first | exact rv_neB (by assumption) (by assumption) | exact rv_neL (by walk_at "sq") (by walk_at "sq") | exact rv_neT (by assumption) (by assumption)))
local macro_rules | `(tactic| walk_at "ev") => `(tactic| first
  | ((with_reducible show Ev (tVar _) _ _ _); exact ev_var rfl)
  | ((with_reducible show Ev (tC _) _ _ _); exact ev_c)
  | ((with_reducible show Ev (tCB (rLenS _) (tCons (tOp (rIxT _) _ _) tNil)) _ _ _); exact ev_wide (by walk_at "le") (by walk_at "ev") (by walk_at "ev") (by assumption))
  | ((with_reducible show Ev (tCB (rLenS _) (tCons _ tNil)) _ _ _); first | exact ev_lenM (by walk_at "ev") (by assumption) | exact ev_lenLI (by walk_at "ev") (by walk_at "sq") | exact ev_lenTI (by walk_at "ev") (by walk_at "sq") | exact ev_lenL (by walk_at "ev") (by walk_at "sq") | exact ev_lenT (by walk_at "ev") (by walk_at "sq"))
  | ((with_reducible show Ev (tOp (rIxT _) (tOp (rIxT _) _ _) _) _ _ _); exact ev_cell (by walk_at "ev") (by walk_at "ev") (by walk_at "ev") (by assumption) (by walk_at "le") (by walk_at "le") (by walk_at "le") (by walk_at "le"))
  | ((with_reducible show Ev (tOp (rIxL _) _ _) _ _ _); exact ev_ixLI (by walk_at "ev") (by walk_at "ev") (by walk_at "sq") (by walk_at "le") (by walk_at "le"))
  | ((with_reducible show Ev (tOp (rIxT _) _ _) _ _ _); exact ev_ixTI (by walk_at "ev") (by walk_at "ev") (by walk_at "sq") (by walk_at "le") (by walk_at "le"))
  | ((with_reducible show Ev (tOp _ _ _) _ _ _); exact ev_op (by walk_at "ev") (by walk_at "ev") (by walk_at "rv"))
  | ((with_reducible show Ev (tUn _ _) _ _ _); exact ev_un (by walk_at "ev") ru_neg)
  | ((with_reducible show Ev (tCall _ _ _ _) _ _ _); exact ev_call (by walk_at "ea") (by walk_at "sp"))
  | ((with_reducible show Ev (tCB (rSum _) (tCons _ tNil)) _ _ _); exact ev_sumL (by walk_at "ev") (by walk_at "sq"))
  | ((with_reducible show Ev (tCB (rSumT _) (tCons _ tNil)) _ _ _); exact ev_sumT (by walk_at "ev") (by walk_at "sq"))
  | ((with_reducible show Ev (tCB rMin2 _) _ _ _); exact ev_min2 (by walk_at "ev") (by walk_at "ev"))
  | ((with_reducible show Ev (tCB rInt1 _) _ _ _); exact ev_intB (by walk_at "ev"))
  | ((with_reducible show Ev (tNotV _) _ _ _); exact ev_notV (by walk_at "ev"))
  | ((with_reducible show Ev (tAndV _ _) _ _ _); exact ev_andV (by walk_at "ev") (by (intro _; walk_at "ev")))
  | ((with_reducible show Ev (tOrV _ _) _ _ _); exact ev_orV (by walk_at "ev") (by (intro _; walk_at "ev"))))
local macro_rules | `(tactic| walk_at "ea") => `(tactic| first
  | ((with_reducible show EvA tNil _ _ _); exact ea_nil)
  | ((with_reducible show EvA (tCons _ _) _ _ _); exact ea_cons (by walk_at "ev") (by walk_at "ea")))
local macro_rules | `(tactic| walk_at "et") => `(tactic| first
  | ((with_reducible show EvT tYes _ _ _); exact et_yes)
  | ((with_reducible show EvT (tTest _) _ _ _); exact et_test (by walk_at "ev"))
  | ((with_reducible show EvT (tB _) _ _ _); exact et_B (by walk_at "ev"))
  | ((with_reducible show EvT (tNot _) _ _ _); exact et_not (by walk_at "et"))
  | ((with_reducible show EvT (tAnd _ _) _ _ _); exact et_and (by walk_at "et") (by (intro _; walk_at "et")))
  | ((with_reducible show EvT (tOr _ _) _ _ _); exact et_or (by walk_at "et") (by (intro _; walk_at "et"))))
namespace BT
open PySem PySem.Spec PyProof.Rows L2 Evl
/-! #### lines_of -/
def sp_lines_of (K : PySem.W.Frag) : Sp := fun vs H Q E => ∃ ls : List Str, vs = [.str (Str.join ("\n" : Str) ls)] ∧ ls ≠ [] ∧ (∀ p ∈ ls, 10 ∉ TL.tl p) ∧ ls.length ≤ 200 ∧ (Str.join ("\n" : Str) ls).length ≤ 100000 ∧
  (∀ ps, ls = ps ++ [("" : Str)] → RetL (ps.map V.str) H Q) ∧ ((∀ ps, ls ≠ ps ++ [("" : Str)]) → RaiseE K "BadNote" H E)
theorem cal_lines_of {P : Program} {w : World} {K : PySem.W.Frag} {mg : Str → Option Value} {base : Heap} {f : Addr} {fd : FuncData} (Bt : Bl mg) (D : DefAt K mg "lines_of" s_lines_of ["text"] f fd) {C_BlockError C_NoBoard C_NoRule C_NotBack C_BadNote : Addr} (Cl : Cls K mg C_BlockError C_NoBoard C_NoRule C_NotBack C_BadNote)  :
    CalE P w K mg base (L2.CX P w) 1 "lines_of" ["text"] (sp_lines_of K) := by
  refine ⟨f, fd, D.F.okX sc_lines_of (fun vs H Q E h => ?_) (fun cdv A outer s H vs Q E hRm h => ?_), D.g, D.F.kp, D.b⟩
  · obtain ⟨ls, rfl, _⟩ := h; rfl
  · obtain ⟨ls, rfl, h0, h1, h2, h3, q, qe⟩ := h
    have hsp : Txt.split (Str.join ("\n" : Str) ls) ("\n" : Str) = ls := by
      rw [← TL.join_eq]
      exact TL.split_join nl_tl (by decide +kernel) h0 h1
    have hz : (16777216 : Nat) ≤ sizeLine := by rw [sizeLine_eq]; exact Nat.le_refl _
    obtain ⟨ps, l, rfl⟩ : ∃ ps l, ls = ps ++ [l] := ⟨_, _, (List.dropLast_concat_getLast h0).symm⟩
    refine ⟨_, (pss_cons (ps_set (i := 1) sc_lines_of.nd rfl (Or.inl rfl) (pe_split (pv 0) pe_str))
 (pss_cons (ps_if (pt_cmpR op_ne (pe_ix (ix_listK (K := K) rfl) (pv 1) (pe_un un_neg pe_int) (fun _ _ => rfl)) pe_str (nomark _)) (pss_one (ps_raise rfl (takes_of rfl rfl rfl rfl) (pmk_own PySem.F.excBase_ValueError Cl.BadNote.xP Cl.BadNote.gP Cl.BadNote.kP (raises_own Cl.BadNote.bP Cl.BadNote.tP) (by rfl)))) pss_nil)
 (pss_one (ps_ret (pe_slice (sl_listK (K := K) rfl) (pv 1) po_none (po_some (pe_un un_neg pe_int))))))), Go.at ?_⟩
    refine go_asgL (el_split (ev_var rfl) ev_c (by decide) (by omega)) fun p H1 hp e1 hl => ?_
    rw [hsp, List.map_append] at hl
    refine go_when (p := l ≠ ("" : Str)) (et_test (ev_op (ev_ixL (i := -1) (ev_var rfl) (ev_un ev_c ru_neg) (sq_of hl) (atI_snoc _ _)) ev_c rv_neS)) (fun hn => fun H2 e2 => qe (fun qs z => hn (by have := List.append_inj_right' z rfl; simpa using this)) _ Cl.BadNote.nP H2 (e1.trans e2)) (fun hn => ?_)
    have hn : l = ("" : Str) := by simpa using hn
    subst hn
    refine go_retL (el_sl (ev_var rfl) eo_none (eo_some (ev_un ev_c ru_neg)) (sq_of hl)) fun p2 H2 hp2 e2 h2' => ?_
    have ec := cut_snoc (ps.map V.str) (V.str ("" : Str))
    rw [show (List.map V.str [("" : Str)]) = [V.str ("" : Str)] from rfl, ec] at h2'
    exact q ps rfl p2 H2 (fresh_back e1 hp2) (e1.trans e2) h2'
/-! #### row_of -/
/-- what a row's signs write -/
def rowV (z : Str) : Option (List Int) := if ∀ c ∈ z.cps.toList, c ∈ ("0123456789" : Str).cps.toList then some (z.cps.toList.map fun c : Nat => (c : Int) - 48) else none
theorem dig_fig : ("0123456789" : Str).cps.toList = [48, 49, 50, 51, 52, 53, 54, 55, 56, 57] := by decide +kernel
theorem dig_val : ∀ c ∈ ([48, 49, 50, 51, 52, 53, 54, 55, 56, 57] : List Nat), PySem.intText? (⟨#[c]⟩ : Str) = some ((c : Int) - 48) := by decide +kernel
def sp_row_of (K : PySem.W.Frag) : Sp := fun vs H Q E => ∃ z : Str, vs = [.str z] ∧ z.length ≤ 1000 ∧ (∀ r, rowV z = some r → RetP (RwV K r) H Q) ∧ (rowV z = none → RaiseE K "BadNote" H E)
theorem cal_row_of {P : Program} {w : World} {K : PySem.W.Frag} {mg : Str → Option Value} {base : Heap} {f : Addr} {fd : FuncData} (Bt : Bl mg) (D : DefAt K mg "row_of" s_row_of ["line"] f fd) {C_BlockError C_NoBoard C_NoRule C_NotBack C_BadNote : Addr} (Cl : Cls K mg C_BlockError C_NoBoard C_NoRule C_NotBack C_BadNote) {V_FIGURES : Tok} (C_FIGURES : mg "FIGURES" = some (Value.str "0123456789" V_FIGURES))  :
    CalE P w K mg base (L2.CX P w) 1 "row_of" ["line"] (sp_row_of K) := by
  refine ⟨f, fd, D.F.okX sc_row_of (fun vs H Q E h => ?_) (fun cdv A outer s H vs Q E hRm h => ?_), D.g, D.F.kp, D.b⟩
  · obtain ⟨z, rfl, _⟩ := h; rfl
  · obtain ⟨z, rfl, hl, q, qe⟩ := h
    refine ⟨_, (pss_cons (ps_for (passes_of rfl) rfl (pi_str (pv 0)) (pg_name (i := 1) sc_row_of.nd rfl (Or.inl rfl))
 (pss_one (ps_if (pt_cmpR op_notInS (pv 1) (pe_glob (v := .str "0123456789") rfl C_FIGURES ⟨_, rfl⟩) (by rfl)) (pss_one (ps_raise rfl (takes_of rfl rfl rfl rfl) (pmk_own PySem.F.excBase_ValueError Cl.BadNote.xP Cl.BadNote.gP Cl.BadNote.kP (raises_own Cl.BadNote.bP Cl.BadNote.tP) (by rfl)))) pss_nil)))
 (pss_one (ps_ret (pe_callTy (call_tupK (K := K) rfl) (by rfl) Bt.tuple_ (by decide +kernel) (pa_cons (pe_lc (own := [("sign", 1)]) (g := gName 1) (by rfl) sc_row_of.nd (pi_str (pv 0)) (blkOk_by (own := [("sign", 1)]) (N := ["line", "sign"]) (sc := defScope s_row_of) (by decide +kernel)) (fun _ _ _ _ _ => pg_name (i := 1) sc_row_of.nd rfl (Or.inl rfl)) (fun _ _ _ _ _ => pts_nil) (fun _ _ _ _ _ => (pe_callTy call_int_str (by rfl) Bt.int_ (by decide +kernel) (pa_cons (pv 1) pa_nil)))) pa_nil))))), Go.at ?_⟩
    refine go_forS (ev_var rfl) (fun i σ' H' => ∃ y, σ' = [some (.str z), y] ∧ Ex H H' ∧ ∀ (j c : Nat), j < i → z.cps[j]? = some c → c ∈ ("0123456789" : Str).cps.toList) (fun H1 e1 => ⟨_, rfl, e1, fun j c hj => by omega⟩) (fun i c σ' H1 hc ⟨y, hσ, e1, hj⟩ => ?_) (fun σ' H1 ⟨y, hσ, e1, hj⟩ => ?_)
    · subst hσ
      refine gl_whenb (b := !decide (c ∈ ("0123456789" : Str).cps.toList)) (et_test (ev_op (ev_var rfl) ev_c rv_notInS)) (fun hb => fun H2 e2 => qe ?_ _ Cl.BadNote.nP H2 (e1.trans e2)) (fun hb => fun H2 e2 => ⟨_, rfl, e1.trans e2, fun j d hj2 hd => ?_⟩)
      · unfold rowV
        rw [if_neg fun k => ?_]
        have := k c (by rw [Array.mem_toList_iff]; exact Array.mem_of_getElem? hc)
        rw [decide_eq_true this] at hb
        cases hb
      · rcases Nat.lt_or_ge j i with h3 | h3
        · exact hj j d h3 hd
        · obtain rfl : j = i := by omega
          rw [hc] at hd
          cases hd
          rw [Bool.not_eq_false', decide_eq_true_eq] at hb
          exact hb
    · subst hσ
      have hd : ∀ c ∈ z.cps.toList, c ∈ ("0123456789" : Str).cps.toList := fun c hc => by
        obtain ⟨j, hj2, e⟩ := List.getElem_of_mem hc
        rw [Array.length_toList] at hj2
        exact hj j c hj2 (by rw [Array.getElem?_eq_getElem hj2, ← e]; rfl)
      have hr : rowV z = some (z.cps.toList.map fun c : Nat => (c : Int) - 48) := by
        unfold rowV
        rw [if_pos hd]
      have hzl : z.cps.size ≤ 1000 := hl
      refine go_retP (P := RwV K (z.cps.toList.map fun c : Nat => (c : Int) - 48)) (ep_U (eu_tupL ?_) fun p H2 _ hp => ⟨p, rfl, st_of hp⟩) fun v H2 e2 hv => q _ hr v H2 (e1.trans e2) hv
      refine el_is (el_lcS (fun _ => true) (fun i => V.int (((z.cps.toList.getD i 0 : Nat) : Int) - 48)) (ev_var rfl) (by omega) (fun _ => rfl) (fun _ _ _ _ _ => et_yes) (fun i c H2 e hc _ => ?_)) ?_
      · have hm : c ∈ z.cps.toList := by rw [Array.mem_toList_iff]; exact Array.mem_of_getElem? hc
        have hg : z.cps.toList.getD i 0 = c := by
          rw [List.getD_eq_getElem?_getD, Array.getElem?_toList, hc]
          rfl
        rw [hg]
        exact ev_intS (ev_var rfl) (dig_val c (by rw [← dig_fig]; exact hd c hm)) (by show (1 : Nat) ≤ 640; decide)
      · rw [given_all]
        apply List.ext_getElem
        · simp
        · intro i h1 h2
          simp only [List.length_map, List.length_range] at h1
          simp [h1]
/-! #### is_size -/
def sizeT (k : Int) : Bool := decide (2 ≤ k) && (decide (k ≤ 16) && decide (k % 2 = 0))
theorem sizeT_iff {k : Int} : sizeT k = true ↔ 2 ≤ k ∧ k ≤ 16 ∧ k % 2 = 0 := by
  unfold sizeT
  rw [Bool.and_eq_true, Bool.and_eq_true, decide_eq_true_eq, decide_eq_true_eq, decide_eq_true_eq]
def sp_is_size (K : PySem.W.Frag) : Sp := fun vs H Q _ => ∃ k : Int, vs = [.int k] ∧ RetV (.bl (sizeT k)) H Q
theorem spv_is_size {K : PySem.W.Frag} {H : Hp} {k : Int} : SpV (sp_is_size K) [.int k] H (.bl (sizeT k)) := fun H1 e Q q E => ⟨k, rfl, q⟩
theorem cal_is_size {P : Program} {w : World} {K : PySem.W.Frag} {mg : Str → Option Value} {base : Heap} {f : Addr} {fd : FuncData} (Bt : Bl mg) (D : DefAt K mg "is_size" s_is_size ["many"] f fd)  :
    CalE P w K mg base CX0 1 "is_size" ["many"] (sp_is_size K) := by
  refine ⟨f, fd, D.F.ok sc_is_size (fun vs H Q E h => ?_) (fun cdv A outer s H vs Q E hRm h => ?_), D.g, D.F.kp, D.b⟩
  · obtain ⟨k, rfl, _⟩ := h; rfl
  · obtain ⟨k, rfl, q⟩ := h
    refine ⟨_, (pss_one (ps_ret (pe_and (pe_cmpR op_ge (pv 0) pe_int (nomark _)) (pe_and (pe_cmpR op_le (pv 0) pe_int (nomark _)) (pe_one (pe_cmpR op_eq (pe_op op_mod (pv 0) pe_int) pe_int (nomark _))))))), Go.at ?_⟩
    exact go_ret (v := .bl (decide (2 ≤ k) && (decide (k ≤ 16) && decide (k % 2 = 0)))) (by walk_at "ev") q
/-! #### looked_board -/
structure GoodB (c : Int) (R : List (List Int)) : Prop where
  h : sizeT (R.length : Int) = true
  w : sizeT ((R.getD 0 []).length : Int) = true
  r : ∀ (i : Nat) (r : List Int), R[i]? = some r → r.length = (R.getD 0 []).length ∧ ∀ x ∈ r, 0 ≤ x ∧ x < c
def sp_looked_board (K : PySem.W.Frag) : Sp := fun vs H Q E => ∃ (v : V) (R : List (List Int)) (c : Int), vs = [v, .int c] ∧ BdV K R v H ∧
  (GoodB c R → RetP (RwV K [((R.getD 0 []).length : Int), (R.length : Int)]) H Q) ∧ (¬ GoodB c R → RaiseE K "NoBoard" H E)
theorem spp_looked_board {K : PySem.W.Frag} {H : Hp} {v : V} {R : List (List Int)} {c : Int} (hB : BdV K R v H) (hg : GoodB c R) : SpP (sp_looked_board K) [v, .int c] H (RwV K [((R.getD 0 []).length : Int), (R.length : Int)]) :=
  fun H1 e Q q E => ⟨v, R, c, rfl, hB.up e, fun _ => q, fun z => absurd hg z⟩
theorem cal_looked_board {P : Program} {w : World} {K : PySem.W.Frag} {mg : Str → Option Value} {base : Heap} {f : Addr} {fd : FuncData} (Bt : Bl mg) (D : DefAt K mg "looked_board" s_looked_board ["board", "colours"] f fd) {C_BlockError C_NoBoard C_NoRule C_NotBack C_BadNote : Addr} (Cl : Cls K mg C_BlockError C_NoBoard C_NoRule C_NotBack C_BadNote) (C_is_size : CalE P w K mg base CX0 1 "is_size" ["many"] (sp_is_size K)) :
    CalE P w K mg base (L2N.CX P w) 2 "looked_board" ["board", "colours"] (sp_looked_board K) := by
  obtain ⟨f_is_size, fd_is_size, G_is_size, g_is_size, k_is_size, b_is_size⟩ := C_is_size.ex
  refine ⟨f, fd, okXN D.F sc_looked_board (fun vs H Q E h => ?_) (fun cdv A outer s H vs Q E hRm h => ?_), D.g, D.F.kp, D.b⟩
  · obtain ⟨v, R, c, rfl, _⟩ := h; rfl
  · obtain ⟨v, R, c, rfl, hB, q, qe⟩ := h
    obtain ⟨p, us, rfl, hs, hlen, hrows⟩ := id hB
    have row0 : 0 < R.length → ∃ a0, us[0]? = some (.ref a0) ∧ SqT K H a0 ((R.getD 0 []).map V.int) := fun h0 => by
      have e : R[0]? = some (R.getD 0 []) := by rw [List.getD_eq_getElem?_getD, List.getElem?_eq_getElem h0]; rfl
      exact bd_row (p := p) hlen hrows e
    refine ⟨_, (pss_cons (ps_if (PW.pt (pw_or (pt_not (pt_val (pe_call G_is_size (hRm.mono (by decide)) (by rfl) g_is_size k_is_size b_is_size .nil pass0 (pa_cons (pe_callB (call_lenK (K := K) rfl) (by rfl) Bt.len_ (by decide +kernel) (pa_cons (pv 0) pa_nil)) pa_nil)))) (pw_or1 (pt_not (pt_val (pe_call G_is_size (hRm.mono (by decide)) (by rfl) g_is_size k_is_size b_is_size .nil pass0 (pa_cons (pe_callB (call_lenK (K := K) rfl) (by rfl) Bt.len_ (by decide +kernel) (pa_cons (pe_ix (ix_tupK (K := K) rfl) (pv 0) pe_int (fun _ _ => rfl)) pa_nil)) pa_nil))))))) (pss_one (L2N.ps_raise rfl (L2N.takes_of rfl rfl rfl rfl) (L2N.pmk_own PySem.F.excBase_ValueError Cl.NoBoard.xP Cl.NoBoard.gP Cl.NoBoard.kP (raises_own Cl.NoBoard.bP Cl.NoBoard.tP) (by rfl)))) pss_nil)
 (pss_cons (ps_for (passes_of rfl) rfl (pi_tupK (K := K) rfl (pv 0)) (pg_name (i := 2) sc_looked_board.nd rfl (Or.inl rfl))
 (pss_cons (ps_if (pt_cmpR op_ne (pe_callB (call_lenK (K := K) rfl) (by rfl) Bt.len_ (by decide +kernel) (pa_cons (pv 2) pa_nil)) (pe_callB (call_lenK (K := K) rfl) (by rfl) Bt.len_ (by decide +kernel) (pa_cons (pe_ix (ix_tupK (K := K) rfl) (pv 0) pe_int (fun _ _ => rfl)) pa_nil)) (nomark _)) (pss_one (L2N.ps_raise rfl (L2N.takes_of rfl rfl rfl rfl) (L2N.pmk_own PySem.F.excBase_ValueError Cl.NoBoard.xP Cl.NoBoard.gP Cl.NoBoard.kP (raises_own Cl.NoBoard.bP Cl.NoBoard.tP) (by rfl)))) pss_nil)
 (pss_one (ps_for (passes_of rfl) rfl (pi_tupK (K := K) rfl (pv 2)) (pg_name (i := 3) sc_looked_board.nd rfl (Or.inl rfl))
 (pss_one (ps_if (PW.pt (pw_or (pt_cmpR op_lt (pv 3) pe_int (nomark _)) (pw_or1 (pt_cmpR op_ge (pv 3) (pv 1) (nomark _))))) (pss_one (L2N.ps_raise rfl (L2N.takes_of rfl rfl rfl rfl) (L2N.pmk_own PySem.F.excBase_ValueError Cl.NoBoard.xP Cl.NoBoard.gP Cl.NoBoard.kP (raises_own Cl.NoBoard.bP Cl.NoBoard.tP) (by rfl)))) pss_nil))))))
 (pss_one (ps_ret (pe_tup (pa_cons (pe_callB (call_lenK (K := K) rfl) (by rfl) Bt.len_ (by decide +kernel) (pa_cons (pe_ix (ix_tupK (K := K) rfl) (pv 0) pe_int (fun _ _ => rfl)) pa_nil)) (pa_cons (pe_callB (call_lenK (K := K) rfl) (by rfl) Bt.len_ (by decide +kernel) (pa_cons (pv 0) pa_nil)) pa_nil))))))), Go.at ?_⟩
    refine go_whenb (b := !sizeT (R.length : Int) || !sizeT ((R.getD 0 []).length : Int)) (et_or (et_not (et_B (ev_call (ea_cons (ev_lenB (ev_var rfl) hB) ea_nil) spv_is_size))) (fun hb => ?_)) (fun hb => fun H1 e1 => qe (fun g => ?_) _ Cl.NoBoard.nP H1 e1) (fun hb => ?_)
    · have hz : sizeT (R.length : Int) = true := by simpa using hb
      obtain ⟨a0, ha0, hq0⟩ := row0 (by have := (sizeT_iff.mp hz).1; omega)
      exact et_not (et_B (ev_call (ea_cons (ev_lenTI (ev_ixT (i := ((0 : Nat) : Int)) (ev_var rfl) ev_c hs (atI_nat ha0)) hq0) ea_nil) spv_is_size))
    · rw [g.h, g.w] at hb
      cases hb
    · rw [Bool.or_eq_false_iff, Bool.not_eq_false', Bool.not_eq_false'] at hb
      obtain ⟨hz, hz2⟩ := hb
      have hpos : 0 < R.length := by have := (sizeT_iff.mp hz).1; omega
      obtain ⟨a0, ha0, hq0⟩ := row0 hpos
      refine go_forT (a := p) (ev_var rfl) hs (fun i σ' H' => ∃ y2 y3, σ' = [some (.ref p), some (.int c), y2, y3] ∧ Ex H H' ∧ ∀ (j : Nat) (r : List Int), j < i → R[j]? = some r → r.length = (R.getD 0 []).length ∧ ∀ x ∈ r, 0 ≤ x ∧ x < c)
        (fun H1 e1 => ⟨_, _, rfl, e1, fun j r hj => by omega⟩) (fun i σ' H' _ ⟨_, _, _, e, _⟩ => ex_t e hs) (fun i x σ' H' hi ⟨y2, y3, hσ, e, hj⟩ => ?_) (fun σ' H1 ⟨y2, y3, hσ, e1, hj⟩ => ?_)
      · subst hσ
        have hiR : i < R.length := by rw [← hlen]; exact (List.getElem?_eq_some_iff.mp hi).1
        obtain ⟨a, rfl, ha⟩ := hrows i x _ hi (List.getElem?_eq_getElem hiR)
        have hRi : R[i]? = some R[i] := List.getElem?_eq_getElem hiR
        generalize hrr : R[i] = r at *
        have ha' := ex_t e ha
        have hs' := ex_t e hs
        have hq0' := ex_t e hq0
        refine go_when (p := (r.length : Int) ≠ ((R.getD 0 []).length : Int)) (et_test (ev_op (ev_lenTI (ev_var rfl) ha') (ev_lenTI (ev_ixT (i := ((0 : Nat) : Int)) (ev_var rfl) ev_c hs' (atI_nat ha0)) hq0') rv_neI)) (fun h1 => fun H1 e1 => qe (fun g => h1 (by rw [(g.r i r hRi).1])) _ Cl.NoBoard.nP H1 (e.trans e1)) (fun h1 => ?_)
        refine gl_forT (a := a) (ev_var rfl) ha' (fun k σ' H2 => ∃ y3, σ' = [some (.ref p), some (.int c), some (.ref a), y3] ∧ Ex H H2 ∧ ∀ l : Nat, l < k → 0 ≤ at0 r (l : Int) ∧ at0 r (l : Int) < c)
          (fun H1 e1 => ⟨_, rfl, e.trans e1, fun l hl => by omega⟩) (fun k σ' H2 _ ⟨_, _, e2, _⟩ => ex_t e2 ha) (fun k x σ' H2 hk ⟨y3, hσ, e2, hl⟩ => ?_) (fun σ' H2 ⟨y3, hσ, e2, hl⟩ => ?_)
        · subst hσ
          obtain ⟨rfl, hkl⟩ := at0_of hk
          refine gl_whenb (b := decide (at0 r (k : Int) < 0) || decide (c ≤ at0 r (k : Int))) (by walk_at "et") (fun hb => fun H3 e3 => qe (fun g => ?_) _ Cl.NoBoard.nP H3 (e2.trans e3)) (fun hb => fun H3 e3 => ⟨_, rfl, e2.trans e3, fun l hl2 => ?_⟩)
          · have := (g.r i r hRi).2 _ (at0_mem (r := r) (i := (k : Int)) (by omega) (by omega))
            rw [Bool.or_eq_true, decide_eq_true_eq, decide_eq_true_eq] at hb
            omega
          · rw [Bool.or_eq_false_iff, decide_eq_false_iff_not, decide_eq_false_iff_not] at hb
            rcases Nat.lt_or_ge l k with h3 | h3
            · exact hl l h3
            · rw [show l = k by omega]
              omega
        · subst hσ
          rw [List.length_map] at hl
          refine fun H3 e3 => ⟨_, _, rfl, e2.trans e3, fun j r2 hji hr2 => ?_⟩
          rcases Nat.lt_or_ge j i with h3 | h3
          · exact hj j r2 h3 hr2
          · obtain rfl : j = i := by omega
            rw [hRi] at hr2
            obtain rfl := Option.some.inj hr2
            exact ⟨by omega, fun x hx => by obtain ⟨l, hl2, rfl⟩ := mem_at0 hx; exact hl l hl2⟩
      · subst hσ
        have hB1 := hB.up e1
        have hs1 := ex_t e1 hs
        have hq1 := ex_t e1 hq0
        have hgood : GoodB c R := ⟨hz, hz2, fun i r hr => hj i r (by rw [hlen]; exact (List.getElem?_eq_some_iff.mp hr).1) hr⟩
        exact go_retP (P := RwV K [((R.getD 0 []).length : Int), (R.length : Int)]) (ep_U (eu_tup (vs := [.int ((R.getD 0 []).length : Int), .int (R.length : Int)]) (ea_cons (ev_lenTI (ev_ixT (i := ((0 : Nat) : Int)) (ev_var rfl) ev_c hs1 (atI_nat ha0)) hq1) (ea_cons (ev_lenB (ev_var rfl) hB1) ea_nil)) (by show (2 : Nat) ≤ 100000; decide)) fun t H2 _ ht => ⟨t, rfl, st_of ht⟩) fun v H2 e2 hv => q hgood v H2 (e1.trans e2) hv
/-! #### read_board -/
def rowsV (ps : List Str) : List (List Int) := ps.map fun p => (rowV p).getD []
/-- lines that write no board -/
def BadB (c : Int) (ls : List Str) : Prop := (∀ ps, ls ≠ ps ++ [("" : Str)]) ∨ ∃ ps, ls = ps ++ [("" : Str)] ∧ ((∃ p ∈ ps, rowV p = none) ∨ ¬ GoodB c (rowsV ps))
/-- lines of a text -/
structure LnsOk (ls : List Str) : Prop where
  ne : ls ≠ []
  nl : ∀ p ∈ ls, 10 ∉ TL.tl p
  few : ls.length ≤ 200
  len : (Str.join ("\n" : Str) ls).length ≤ 100000
  each : ∀ p ∈ ls, p.length ≤ 1000
def sp_read_board (K : PySem.W.Frag) : Sp := fun vs H Q E => ∃ (ls : List Str) (c : Int), vs = [.str (Str.join ("\n" : Str) ls), .int c] ∧ LnsOk ls ∧ BadB c ls ∧ RaiseE K "BadNote" H E
theorem cal_read_board {P : Program} {w : World} {K : PySem.W.Frag} {mg : Str → Option Value} {base : Heap} {f : Addr} {fd : FuncData} (Bt : Bl mg) (D : DefAt K mg "read_board" s_read_board ["text", "colours"] f fd) {C_BlockError C_NoBoard C_NoRule C_NotBack C_BadNote : Addr} (Cl : Cls K mg C_BlockError C_NoBoard C_NoRule C_NotBack C_BadNote) (C_lines_of : CalE P w K mg base (L2.CX P w) 1 "lines_of" ["text"] (sp_lines_of K)) (C_row_of : CalE P w K mg base (L2.CX P w) 1 "row_of" ["line"] (sp_row_of K)) (C_looked_board : CalE P w K mg base (L2N.CX P w) 2 "looked_board" ["board", "colours"] (sp_looked_board K)) :
    CalE P w K mg base (L2.CX P w) 3 "read_board" ["text", "colours"] (sp_read_board K) := by
  obtain ⟨f_lines_of, fd_lines_of, G_lines_of, g_lines_of, k_lines_of, b_lines_of⟩ := C_lines_of.ex
  obtain ⟨f_row_of, fd_row_of, G_row_of, g_row_of, k_row_of, b_row_of⟩ := C_row_of.ex
  obtain ⟨f_looked_board, fd_looked_board, G_looked_board, g_looked_board, k_looked_board, b_looked_board⟩ := C_looked_board.ex
  refine ⟨f, fd, D.F.okX sc_read_board (fun vs H Q E h => ?_) (fun cdv A outer s H vs Q E hRm h => ?_), D.g, D.F.kp, D.b⟩
  · obtain ⟨ls, c, rfl, _⟩ := h; rfl
  · obtain ⟨ls, c, rfl, ok, bad, qe⟩ := h
    refine ⟨_, (pss_cons (ps_set (i := 2) sc_read_board.nd rfl (Or.inl rfl) (pe_callTy (call_tupK (K := K) rfl) (by rfl) Bt.tuple_ (by decide +kernel) (pa_cons (pe_lcX (E := E) [("line", 3)] (gName 3) rfl rfl (takes_of rfl rfl rfl rfl) (by rfl) sc_read_board.nd (pi_listK (K := K) rfl (pe_call G_lines_of (hRm.mono (by decide)) (by rfl) g_lines_of k_lines_of b_lines_of .nil (passes_call (takes_of rfl rfl rfl rfl) (fun _ _ _ _ h => h)) (pa_cons (pv 0) pa_nil))) (blkOk_by (own := [("line", 3)]) (N := ["text", "colours", "board", "line"]) (sc := defScope s_read_board) (by decide +kernel)) (fun _ _ _ _ _ => pg_name (i := 3) sc_read_board.nd rfl (Or.inl rfl)) (fun _ _ _ _ _ => pts_nil) (fun _ _ _ _ _ xe hp => (pe_call G_row_of (hRm.mono (by decide)) (by rfl) g_row_of k_row_of b_row_of .nil hp (pa_cons (pv 3) pa_nil)))) pa_nil)))
 (pss_cons (L2H.ps_try_onlyX rfl rfl ⟨rfl, by decide, Or.inl Cl.BlockError.gP⟩ (L2H.passesAt_of rfl) (takes_of rfl rfl rfl rfl) (fun W pn xe tkn tkl po => (pss_one (ps_expr (pe_callS G_looked_board (hRm.mono (by decide)) (by rfl) g_looked_board k_looked_board b_looked_board (fun σ => L2N.passAt tkn σ) (pa_cons (pv 2) (pa_cons (pv 1) pa_nil)))))) (fun a oe cls d pn hz hf tkS hot => (pss_one (L2H.ps_raiseH hot tkS (L2N.pmk_own PySem.F.excBase_ValueError Cl.BadNote.xP Cl.BadNote.gP Cl.BadNote.kP (raises_own Cl.BadNote.bP Cl.BadNote.tP) (by rfl))))))
 (pss_one (ps_ret (pv 2))))), Go.at ?_⟩
    by_cases hl : ∃ ps, ls = ps ++ [("" : Str)]
    · obtain ⟨ps, rfl⟩ := hl
      have hbad : (∃ p ∈ ps, rowV p = none) ∨ ¬ GoodB c (rowsV ps) := by
        rcases bad with bad | ⟨qs, e, bad⟩
        · exact absurd rfl (bad ps)
        · have := List.append_inj_left' e rfl
          rw [this]
          exact bad
      have hlen : (ps.map V.str).length = ps.length := List.length_map ..
      have hfew := ok.few
      rw [List.length_append] at hfew
      refine go_asgP (P := fun v H1 => BdV K (rowsV ps) v H1 ∧ ∀ p ∈ ps, rowV p ≠ none) (ep_weak (ep_tupLP (n := (ps.map V.str).length) (P := fun i v H1 => ∃ r, (ps[i]?).bind rowV = some r ∧ RwV K r v H1) (fun i v H H' e ⟨r, h1, h2⟩ => ⟨r, h1, rw_imm r v _ _ (ExI.of e) h2⟩)
        (elp_NL (K := K) (xs := ps.map V.str) (fun i v H H' e ⟨r, h1, h2⟩ => ⟨r, h1, rw_imm r v _ _ e h2⟩) (fun H1 e1 Q q => (ea_cons (ev_var rfl) ea_nil : EvA _ _ H _) H1 e1 _ fun H2 e2 => ⟨_, rfl, ok.ne, ok.nl, ok.few, ok.len, fun qs z => by
            rw [← List.append_inj_left' z rfl]
            exact fun p H3 hp e3 h3 => q p H3 (fresh_back e2 hp) (e2.trans e3) h3, fun z => absurd rfl (z ps)⟩) (by omega) (fun _ => rfl) fun i x hi => ?_)) fun v H1 _ hp => ?_) fun v H1 e1 hv => ?_
      · have hil : i < ps.length := by rw [← hlen]; exact (List.getElem?_eq_some_iff.mp hi).1
        rw [List.getElem?_map, List.getElem?_eq_getElem hil] at hi
        have hi := Option.some.inj hi
        subst hi
        refine epx_call (ea_cons (ev_var rfl) ea_nil) fun H2 e2 Q2 q2 => ⟨ps[i], rfl, ok.each _ (List.mem_append.mpr (.inl (List.getElem_mem hil))), fun r hr v H3 e3 hv => q2 v H3 e3 ⟨r, by rw [List.getElem?_eq_getElem hil]; exact hr, hv⟩, fun _ => qe.up e2⟩
      · obtain ⟨p, vs, rfl, hs, hvl, hr⟩ := hp
        rw [hlen] at hvl
        refine ⟨⟨p, vs, rfl, hs, by unfold rowsV; rw [List.length_map, hvl], fun i u r h1 h2 => ?_⟩, fun s hs2 => ?_⟩
        · obtain ⟨r', h3, h4⟩ := hr i u h1
          unfold rowsV at h2
          rw [List.getElem?_map] at h2
          obtain ⟨s, h5, rfl⟩ := Option.map_eq_some_iff.mp h2
          rw [h5] at h3
          rw [show rowV s = some r' from h3]
          exact h4
        · obtain ⟨i, hi, rfl⟩ := List.getElem_of_mem hs2
          obtain ⟨r', h3, _⟩ := hr i _ (List.getElem?_eq_getElem (by omega))
          rw [List.getElem?_eq_getElem hi] at h3
          rw [show rowV ps[i] = some r' from h3]
          simp
      · obtain ⟨hB, hg⟩ := hv
        have hnb : ¬ GoodB c (rowsV ps) := by
          rcases hbad with ⟨p, hp, z⟩ | z
          · exact absurd z (hg p hp)
          · exact z
        refine go_tryDropX (P := fun _ _ => False) (R := fun cls => cls = .ref C_NoBoard) (ea_cons (ev_var rfl) (ea_cons (ev_var rfl) ea_nil)) (fun H2 e2 Q2 E2 _ hE => ⟨v, _, c, rfl, hB.up e2, fun z => absurd z hnb, fun _ C hC H3 e3 => hE _ H3 e3 (by rw [Cl.NoBoard.same hC])⟩) (fun v H2 e2 z => z.elim) (fun cls hcls => ?_)
        subst hcls
        exact ⟨Cl.BlockError.exm Cl.S_NoBoard_BlockError, fun ea H2 e2 => fun H3 e3 => qe _ Cl.BadNote.nP H3 ((e1.trans e2).trans e3)⟩
    · refine go_asgP (P := fun _ _ => False) (EvX.p (ex_cb (ex_lc (ex_call (ea_cons (ev_var rfl) ea_nil) fun H2 e2 Q => ⟨ls, rfl, ok.ne, ok.nl, ok.few, ok.len, fun ps z => absurd ⟨ps, z⟩ hl, fun _ => qe.up e2⟩)))) fun v H1 e1 z => z.elim
/-! #### whole_of -/
def figS : Str := "0123456789"
/-- what a word writes -/
def wordV (w : Str) : Option Int :=
  if w.length = 0 ∨ 2 < w.length ∨ (w.cps.toList.headD 0 = 48 ∧ w ≠ ("0" : Str)) ∨ ¬ (∀ c ∈ w.cps.toList, c ∈ figS.cps.toList) then none else PySem.intText? w
theorem fig_dig : figS.cps.toList = [48, 49, 50, 51, 52, 53, 54, 55, 56, 57] := by decide +kernel
theorem dig1 : ∀ a ∈ ([48, 49, 50, 51, 52, 53, 54, 55, 56, 57] : List Nat), (PySem.intText? (⟨#[a]⟩ : Str)).isSome = true := by decide +kernel
theorem dig2 : ∀ a ∈ ([48, 49, 50, 51, 52, 53, 54, 55, 56, 57] : List Nat), ∀ b ∈ ([48, 49, 50, 51, 52, 53, 54, 55, 56, 57] : List Nat), (PySem.intText? (⟨#[a, b]⟩ : Str)).isSome = true := by decide +kernel
theorem word_some {w : Str} (h0 : w.length ≠ 0) (h2 : w.length ≤ 2) (hd : ∀ c ∈ w.cps.toList, c ∈ figS.cps.toList) : ∃ n, PySem.intText? w = some n := by
  rw [fig_dig] at hd
  have hl : w.length = w.cps.toList.length := TL.len_tl w
  have hw : w = ⟨w.cps.toList.toArray⟩ := (TL.mk_tl w).symm
  generalize w.cps.toList = l at *
  subst hw
  match l, hd with
  | [], _ => exact absurd hl h0
  | [a], hd => exact Option.isSome_iff_exists.mp (dig1 a (hd a (by simp)))
  | [a, b], hd => exact Option.isSome_iff_exists.mp (dig2 a (hd a (by simp)) b (hd b (by simp)))
  | _ :: _ :: _ :: _, _ => simp only [List.length_cons] at hl; omega
def sp_whole_of (K : PySem.W.Frag) : Sp := fun vs H Q E => ∃ w : Str, vs = [.str w] ∧ w.length ≤ 1000 ∧ (∀ n, wordV w = some n → RetV (.int n) H Q) ∧ (wordV w = none → RaiseE K "BadNote" H E)
theorem spv_whole_of {K : PySem.W.Frag} {H : Hp} {w : Str} {n : Int} (h : wordV w = some n) (hl : w.length ≤ 1000) : SpV (sp_whole_of K) [.str w] H (.int n) :=
  fun H1 e Q q E => ⟨w, rfl, hl, fun m hm => by rw [h] at hm; cases hm; exact q, fun z => by rw [h] at z; cases z⟩
theorem cal_whole_of {P : Program} {w : World} {K : PySem.W.Frag} {mg : Str → Option Value} {base : Heap} {f : Addr} {fd : FuncData} (Bt : Bl mg) (D : DefAt K mg "whole_of" s_whole_of ["word"] f fd) {C_BlockError C_NoBoard C_NoRule C_NotBack C_BadNote : Addr} (Cl : Cls K mg C_BlockError C_NoBoard C_NoRule C_NotBack C_BadNote) {V_FIGURES : Tok} (C_FIGURES : mg "FIGURES" = some (Value.str "0123456789" V_FIGURES))  :
    CalE P w K mg base (L2.CX P w) 1 "whole_of" ["word"] (sp_whole_of K) := by
  refine ⟨f, fd, D.F.okX sc_whole_of (fun vs H Q E h => ?_) (fun cdv A outer s H vs Q E hRm h => ?_), D.g, D.F.kp, D.b⟩
  · obtain ⟨w, rfl, _⟩ := h; rfl
  · obtain ⟨w, rfl, hl, q, qe⟩ := h
    have hz : (16777216 : Nat) ≤ sizeLine := by rw [sizeLine_eq]; exact Nat.le_refl _
    have e0 : (w = ("" : Str)) ↔ w.length = 0 := by
      rw [TL.len_tl]
      constructor
      · intro z; rw [z]; rfl
      · intro z
        exact TL.ext_tl (List.length_eq_zero_iff.mp z)
    refine ⟨_, (pss_cons (ps_if (PW.pt (pw_or (pt_cmpR op_eq (pv 0) pe_str (nomark _)) (pw_or (pt_cmpR op_gt (pe_callB call_len_str (by rfl) Bt.len_ (by decide +kernel) (pa_cons (pv 0) pa_nil)) pe_int (nomark _)) (pw_or1 (PW.pt (pw_and (pt_cmpR op_eq (pe_ix ix_str (pv 0) pe_int (fun _ _ => rfl)) pe_str (nomark _)) (pw_and1 (pt_cmpR op_ne (pv 0) pe_str (nomark _))))))))) (pss_one (ps_raise rfl (takes_of rfl rfl rfl rfl) (pmk_own PySem.F.excBase_ValueError Cl.BadNote.xP Cl.BadNote.gP Cl.BadNote.kP (raises_own Cl.BadNote.bP Cl.BadNote.tP) (by rfl)))) pss_nil)
 (pss_cons (ps_for (passes_of rfl) rfl (pi_str (pv 0)) (pg_name (i := 1) sc_whole_of.nd rfl (Or.inl rfl))
 (pss_one (ps_if (pt_cmpR op_notInS (pv 1) (pe_glob (v := .str "0123456789") rfl C_FIGURES ⟨_, rfl⟩) (by rfl)) (pss_one (ps_raise rfl (takes_of rfl rfl rfl rfl) (pmk_own PySem.F.excBase_ValueError Cl.BadNote.xP Cl.BadNote.gP Cl.BadNote.kP (raises_own Cl.BadNote.bP Cl.BadNote.tP) (by rfl)))) pss_nil)))
 (pss_one (ps_ret (pe_callTy call_int_str (by rfl) Bt.int_ (by decide +kernel) (pa_cons (pv 0) pa_nil)))))), Go.at ?_⟩
    refine go_whenb (b := decide (w = ("" : Str)) || (decide ((2 : Int) < (w.length : Int)) || (decide ((⟨#[w.cps.toList.headD 0]⟩ : Str) = ("0" : Str)) && decide (w ≠ ("0" : Str)))))
      (et_or (et_test (ev_op (ev_var rfl) ev_c rv_eqS)) (fun h0 => et_or (et_test (ev_op (ev_lenS (ev_var rfl) (by omega)) ev_c rv_I0)) (fun h1 => et_and (et_test (ev_op (ev_op (ev_var rfl) ev_c (BT.rv_ixS (by omega) ?_)) ev_c rv_eqS)) (fun h2 => et_test (ev_op (ev_var rfl) ev_c rv_neS))))) (fun hb => ?_) (fun hb => ?_)
    · have h0 : w ≠ ("" : Str) := of_decide_eq_false h0
      have : w.cps.toList.length ≠ 0 := fun z => h0 (e0.mpr (by rw [TL.len_tl]; exact z))
      cases hc : w.cps.toList with
      | nil => rw [hc] at this; exact absurd rfl this
      | cons c r => exact atI_nat (j := 0) rfl
    · refine fun H1 e1 => qe ?_ _ Cl.BadNote.nP H1 e1
      unfold wordV
      rw [if_pos]
      simp only [Bool.or_eq_true, Bool.and_eq_true, decide_eq_true_eq] at hb
      rcases hb with hb | hb | ⟨hb, hb2⟩
      · exact .inl (e0.mp hb)
      · exact .inr (.inl (by omega))
      · refine .inr (.inr (.inl ⟨?_, hb2⟩))
        have := congrArg TL.tl hb
        have : [w.cps.toList.headD 0] = [48] := this
        exact List.head_eq_of_cons_eq this
    · simp only [Bool.or_eq_false_iff, Bool.and_eq_false_iff, decide_eq_false_iff_not] at hb
      obtain ⟨b0, b1, b2⟩ := hb
      have l0 : w.length ≠ 0 := fun z => b0 (e0.mpr z)
      refine go_forS (ev_var rfl) (fun i σ' H' => ∃ y, σ' = [some (.str w), y] ∧ Ex H H' ∧ ∀ (j c : Nat), j < i → w.cps[j]? = some c → c ∈ figS.cps.toList) (fun H1 e1 => ⟨_, rfl, e1, fun j c hj => by omega⟩) (fun i c σ' H1 hc ⟨y, hσ, e1, hj⟩ => ?_) (fun σ' H1 ⟨y, hσ, e1, hj⟩ => ?_)
      · subst hσ
        refine gl_whenb (b := !decide (c ∈ figS.cps.toList)) (et_test (ev_op (ev_var rfl) ev_c rv_notInS)) (fun z => fun H2 e2 => qe ?_ _ Cl.BadNote.nP H2 (e1.trans e2)) (fun z => fun H2 e2 => ⟨_, rfl, e1.trans e2, fun j d hj2 hd => ?_⟩)
        · unfold wordV
          rw [if_pos]
          refine .inr (.inr (.inr fun k => ?_))
          have := k c (by rw [Array.mem_toList_iff]; exact Array.mem_of_getElem? hc)
          rw [decide_eq_true this] at z
          cases z
        · rcases Nat.lt_or_ge j i with h3 | h3
          · exact hj j d h3 hd
          · obtain rfl : j = i := by omega
            rw [hc] at hd
            cases hd
            rw [Bool.not_eq_false', decide_eq_true_eq] at z
            exact z
      · subst hσ
        have hd : ∀ c ∈ w.cps.toList, c ∈ figS.cps.toList := fun c hc => by
          obtain ⟨j, hj2, e⟩ := List.getElem_of_mem hc
          rw [Array.length_toList] at hj2
          exact hj j c hj2 (by rw [Array.getElem?_eq_getElem hj2, ← e]; rfl)
        obtain ⟨n, hn⟩ := word_some l0 (by omega) hd
        refine go_ret (ev_intS (ev_var rfl) hn (by omega)) fun H2 e2 => q n ?_ H2 (e1.trans e2)
        unfold wordV
        rw [if_neg]
        · exact hn
        · rintro (z | z | ⟨z1, z2⟩ | z)
          · exact l0 z
          · omega
          · rcases b2 with b2 | b2
            · exact b2 (by rw [z1]; decide)
            · exact b2 z2
          · exact z hd
/-! #### looked -/
def InR (c : Int) (ns : List Int) : Prop := ns.length = n4 c ∧ ∀ x ∈ ns, 0 ≤ x ∧ x < n4 c
def movedL (c : Int) (ns : List Int) : List V := given (n4 c) (fun i => decide (at0 ns (i : Int) ≠ (i : Int))) (fun i => V.int (i : Int))
theorem rule_cnt {c : Int} {ns : List Int} (h : InR c ns) (hc : n4 c ≤ cntD ns) : IsRule (n4 c) ns := by
  refine isRule_of h.1 (fun i i0 i1 => h.2 _ (at0_mem i0 (by rw [h.1]; exact i1))) (fun i j i0 i1 j0 j1 e => ?_)
  obtain ⟨i, rfl⟩ := Int.eq_ofNat_of_zero_le i0
  obtain ⟨j, rfl⟩ := Int.eq_ofNat_of_zero_le j0
  have e : ns.getD i 0 = ns.getD j 0 := e
  have hl := h.1
  rcases Nat.lt_trichotomy i j with z | z | z
  · have := cntD_dup z (by omega) e
    omega
  · rw [z]
  · have := cntD_dup z (by omega) e.symm
    omega
def sp_looked (K : PySem.W.Frag) : Sp := fun vs H Q E => ∃ (a : Addr) (ns : List Int) (c : Int), vs = [.ref a, .int c] ∧ SqL K H a (ns.map V.int) ∧ 2 ≤ c ∧ c ≤ 3 ∧ ns.length ≤ 200 ∧
  (IsRule (n4 c) ns → RetV (.int ((movedL c ns).length : Int)) H Q) ∧ (¬ InR c ns → RaiseE K "NoRule" H E) ∧ (InR c ns → ¬ IsRule (n4 c) ns → RaiseE K "NotBack" H E)
theorem inR_of {c : Int} {ns : List Int} (h : IsRule (n4 c) ns) : InR c ns := ⟨h.len, fun x hx => h.mem.mp hx⟩
theorem spv_looked {K : PySem.W.Frag} {H : Hp} {a : Addr} {ns : List Int} {c : Int} (h : SqL K H a (ns.map V.int)) (c0 : 2 ≤ c) (c1 : c ≤ 3) (hr : IsRule (n4 c) ns) : SpV (sp_looked K) [.ref a, .int c] H (.int ((movedL c ns).length : Int)) :=
  fun H1 e Q q E => ⟨a, ns, c, rfl, ex_l e h, c0, c1, by rw [hr.len]; have := (n4_int c0 c1).2.1; omega, fun _ => q, fun z => absurd (inR_of hr) z, fun _ z => absurd hr z⟩
theorem cal_looked {P : Program} {w : World} {K : PySem.W.Frag} {mg : Str → Option Value} {base : Heap} {f : Addr} {fd : FuncData} (Bt : Bl mg) (D : DefAt K mg "looked" s_looked ["rule", "colours"] f fd) {C_BlockError C_NoBoard C_NoRule C_NotBack C_BadNote : Addr} (Cl : Cls K mg C_BlockError C_NoBoard C_NoRule C_NotBack C_BadNote)  :
    CalE P w K mg base (L2N.CX P w) 1 "looked" ["rule", "colours"] (sp_looked K) := by
  refine ⟨f, fd, okXN D.F sc_looked (fun vs H Q E h => ?_) (fun cdv A outer s H vs Q E hRm h => ?_), D.g, D.F.kp, D.b⟩
  · obtain ⟨a, ns, c, rfl, _⟩ := h; rfl
  · obtain ⟨a, ns, c, rfl, hS, c0, c1, hle, q, qr, qb⟩ := h
    obtain ⟨hn, hn2, hn3⟩ := n4_int c0 c1
    refine ⟨_, (pss_cons (ps_set (i := 2) sc_looked.nd rfl (Or.inl rfl) (pe_op op_mul (pe_op op_mul (pe_op op_mul (pv 1) (pv 1)) (pv 1)) (pv 1)))
 (pss_cons (ps_if (pt_cmpR op_ne (pe_callB (call_lenK (K := K) rfl) (by rfl) Bt.len_ (by decide +kernel) (pa_cons (pv 0) pa_nil)) (pv 2) (nomark _)) (pss_one (L2N.ps_raise rfl (L2N.takes_of rfl rfl rfl rfl) (L2N.pmk_own PySem.F.excBase_ValueError Cl.NoRule.xP Cl.NoRule.gP Cl.NoRule.kP (raises_own Cl.NoRule.bP Cl.NoRule.tP) (by rfl)))) pss_nil)
 (pss_cons (ps_for (passes_of rfl) rfl (pi_listK (K := K) rfl (pv 0)) (pg_name (i := 3) sc_looked.nd rfl (Or.inl rfl))
 (pss_one (ps_if (PW.pt (pw_or (pt_cmpR op_lt (pv 3) pe_int (nomark _)) (pw_or1 (pt_cmpR op_ge (pv 3) (pv 2) (nomark _))))) (pss_one (L2N.ps_raise rfl (L2N.takes_of rfl rfl rfl rfl) (L2N.pmk_own PySem.F.excBase_ValueError Cl.NoRule.xP Cl.NoRule.gP Cl.NoRule.kP (raises_own Cl.NoRule.bP Cl.NoRule.tP) (by rfl)))) pss_nil)))
 (pss_cons (ps_if (pt_cmpR op_lt (pe_lenSetN rfl (by rfl) Bt.len_ (by rfl) Bt.set_ (pv 0)) (pv 2) (nomark _)) (pss_one (L2N.ps_raise rfl (L2N.takes_of rfl rfl rfl rfl) (L2N.pmk_own PySem.F.excBase_ValueError Cl.NotBack.xP Cl.NotBack.gP Cl.NotBack.kP (raises_own Cl.NotBack.bP Cl.NotBack.tP) (by rfl)))) pss_nil)
 (pss_one (ps_ret (pe_callB (call_lenK (K := K) rfl) (by rfl) Bt.len_ (by decide +kernel) (pa_cons (pe_lc (own := [("number", 3)]) (g := gName 3) (by rfl) sc_looked.nd (pi_range1 (by rfl) Bt.range_ (pa_cons (pv 2) pa_nil)) (blkOk_by (own := [("number", 3)]) (N := ["rule", "colours", "many", "number"]) (sc := defScope s_looked) (by decide +kernel)) (fun _ _ _ _ _ => pg_name (i := 3) sc_looked.nd rfl (Or.inl rfl)) (fun _ _ _ _ _ => pts_one (pt_cmpR op_ne (pe_ix (ix_listK (K := K) rfl) (pv 0) (pv 3) (fun _ _ => rfl)) (pv 3) (nomark _))) (fun _ _ _ _ _ => (pv 3))) pa_nil)))))))), Go.at ?_⟩
    refine go_asg (v := .int (n4 c : Int)) (ev_is (v := .int (c * c * c * c)) (by walk_at "ev") (by rw [hn])) ?_
    refine go_when (p := (ns.length : Int) ≠ (n4 c : Int)) (by walk_at "et") (fun h1 => fun H1 e1 => qr (fun z => h1 (by rw [z.1])) _ Cl.NoRule.nP H1 e1) (fun h1 => ?_)
    have hl : ns.length = n4 c := by omega
    refine go_forL (a := a) (ev_var rfl) hS (fun i σ' H' => ∃ y, σ' = [some (.ref a), some (.int c), some (.int (n4 c : Int)), y] ∧ Ex H H' ∧ ∀ j : Nat, j < i → 0 ≤ at0 ns (j : Int) ∧ at0 ns (j : Int) < n4 c)
      (fun H1 e1 => ⟨_, rfl, e1, fun j hj => by omega⟩) (fun i σ' H' _ ⟨_, _, e, _⟩ => ex_l e hS) (fun i x σ' H' hi ⟨y, hσ, e, hj⟩ => ?_) (fun σ' H1 ⟨y, hσ, e1, hj⟩ => ?_)
    · subst hσ
      obtain ⟨rfl, hil⟩ := at0_of hi
      refine gl_whenb (b := decide (at0 ns (i : Int) < 0) || decide ((n4 c : Int) ≤ at0 ns (i : Int))) (by walk_at "et") (fun hb => fun H1 e1 => qr (fun z => ?_) _ Cl.NoRule.nP H1 (e.trans e1)) (fun hb => fun H1 e1 => ⟨_, rfl, e.trans e1, fun j hj2 => ?_⟩)
      · have := z.2 _ (at0_mem (r := ns) (i := (i : Int)) (by omega) (by omega))
        rw [Bool.or_eq_true, decide_eq_true_eq, decide_eq_true_eq] at hb
        omega
      · rw [Bool.or_eq_false_iff, decide_eq_false_iff_not, decide_eq_false_iff_not] at hb
        rcases Nat.lt_or_ge j i with h3 | h3
        · exact hj j h3
        · rw [show j = i by omega]
          omega
    · subst hσ
      rw [List.length_map] at hj
      have hS1 := ex_l e1 hS
      have hIn : InR c ns := ⟨hl, fun x hx => by obtain ⟨j, hj2, rfl⟩ := mem_at0 hx; exact hj j hj2⟩
      refine go_when (p := (cntD ns : Int) < (n4 c : Int)) (et_test (ev_op (ev_lenSet (ev_var rfl) hS1 (by omega)) (ev_var rfl) rv_I0)) (fun h2 => fun H2 e2 => qb hIn (fun z => ?_) _ Cl.NotBack.nP H2 (e1.trans e2)) (fun h2 => ?_)
      · have := cntD_nodup z.nodup
        omega
      · have hru := rule_cnt hIn (by omega)
        refine go_ret (ev_is (ev_lenN (el_lcR1 (n := (n4 c : Int)) (fun i => decide (at0 ns (i : Int) ≠ (i : Int))) (fun i => V.int (i : Int)) (by walk_at "ea") (by omega) (fun _ => rfl) (fun i H2 e2 hi => ?_) (fun i H2 e2 hi _ => ev_var rfl))) (by rw [Int.toNat_natCast]; rfl)) fun H2 e2 => q hru H2 (e1.trans e2)
        have hS2 := ex_l e2 hS1
        exact et_test (ev_op (ev_ixLI (ev_var rfl) (ev_var rfl) hS2 (by omega) (by omega)) (ev_var rfl) rv_neI)
/-! #### read_rule -/
def headC (h : Str) : Option Int := if h = ("rule 2" : Str) then some 2 else if h = ("rule 3" : Str) then some 3 else none
def wordsV (ws : List Str) : List Int := ws.map fun w => (wordV w).getD 0
structure WsOk (ws : List Str) : Prop where
  ne : ws ≠ []
  bl : ∀ w ∈ ws, 32 ∉ TL.tl w
  few : ws.length ≤ 200
  each : ∀ w ∈ ws, w.length ≤ 1000
/-- lines that write no rule -/
def BadR (ls : List Str) : Prop := (∀ ps, ls ≠ ps ++ [("" : Str)]) ∨ ∃ ps, ls = ps ++ [("" : Str)] ∧ (ps.length ≠ 2 ∨ ∃ h l, ps = [h, l] ∧ (headC h = none ∨ ∃ c ws, headC h = some c ∧ l = Str.join (" " : Str) ws ∧ WsOk ws ∧ ((∃ w ∈ ws, wordV w = none) ∨ ¬ IsRule (n4 c) (wordsV ws))))
def sp_read_rule (K : PySem.W.Frag) : Sp := fun vs H Q E => ∃ (ls : List Str), vs = [.str (Str.join ("\n" : Str) ls)] ∧ LnsOk ls ∧ BadR ls ∧ RaiseE K "BadNote" H E
theorem eqV_str (a b : Str) : eqV (.str a) (.str b) = decide (a = b) := by
  show (a == b) = _
  by_cases h : a = b
  · rw [decide_eq_true h, h]; exact beq_self_eq_true b
  · rw [decide_eq_false h]; exact beq_eq_false_iff_ne.mpr h
theorem head_inV (h : Str) : inV (.str h) [.str ("rule 2" : Str), .str ("rule 3" : Str)] = (headC h).isSome := by
  unfold headC
  have e : inV (.str h) [.str ("rule 2" : Str), .str ("rule 3" : Str)] = (decide (("rule 2" : Str) = h) || decide (("rule 3" : Str) = h)) := by
    simp [inV, eqV_str]
  rw [e]
  by_cases h1 : h = ("rule 2" : Str)
  · rw [if_pos h1, decide_eq_true h1.symm]; rfl
  · rw [if_neg h1, decide_eq_false fun z => h1 z.symm]
    by_cases h2 : h = ("rule 3" : Str)
    · rw [if_pos h2, decide_eq_true h2.symm]; rfl
    · rw [if_neg h2, decide_eq_false fun z => h2 z.symm]; rfl
theorem head_some {h : Str} {c : Int} (e : headC h = some c) : 2 ≤ c ∧ c ≤ 3 ∧ atI h.cps.toList (-1) = some (48 + c.toNat) ∧ PySem.intText? (⟨#[48 + c.toNat]⟩ : Str) = some c ∧ h.length ≤ 10 := by
  unfold headC at e
  split at e
  · rename_i h1
    cases e
    subst h1
    decide +kernel
  · split at e
    · rename_i h1
      cases e
      subst h1
      decide +kernel
    · cases e
theorem sl_nl : TL.tl (" " : Str) = 32 :: [] := by decide
theorem cal_read_rule {P : Program} {w : World} {K : PySem.W.Frag} {mg : Str → Option Value} {base : Heap} {f : Addr} {fd : FuncData} (Bt : Bl mg) (D : DefAt K mg "read_rule" s_read_rule ["text"] f fd) {C_BlockError C_NoBoard C_NoRule C_NotBack C_BadNote : Addr} (Cl : Cls K mg C_BlockError C_NoBoard C_NoRule C_NotBack C_BadNote) (C_lines_of : CalE P w K mg base (L2.CX P w) 1 "lines_of" ["text"] (sp_lines_of K)) (C_whole_of : CalE P w K mg base (L2.CX P w) 1 "whole_of" ["word"] (sp_whole_of K)) (C_looked : CalE P w K mg base (L2N.CX P w) 1 "looked" ["rule", "colours"] (sp_looked K)) :
    CalE P w K mg base (L2.CX P w) 2 "read_rule" ["text"] (sp_read_rule K) := by
  obtain ⟨f_lines_of, fd_lines_of, G_lines_of, g_lines_of, k_lines_of, b_lines_of⟩ := C_lines_of.ex
  obtain ⟨f_whole_of, fd_whole_of, G_whole_of, g_whole_of, k_whole_of, b_whole_of⟩ := C_whole_of.ex
  obtain ⟨f_looked, fd_looked, G_looked, g_looked, k_looked, b_looked⟩ := C_looked.ex
  refine ⟨f, fd, D.F.okX sc_read_rule (fun vs H Q E h => ?_) (fun cdv A outer s H vs Q E hRm h => ?_), D.g, D.F.kp, D.b⟩
  · obtain ⟨ls, rfl, _⟩ := h; rfl
  · obtain ⟨ls, rfl, ok, bad, qe⟩ := h
    have hz : (16777216 : Nat) ≤ sizeLine := by rw [sizeLine_eq]; exact Nat.le_refl _
    refine ⟨_, (pss_cons (ps_set (i := 1) sc_read_rule.nd rfl (Or.inl rfl) (pe_call G_lines_of (hRm.mono (by decide)) (by rfl) g_lines_of k_lines_of b_lines_of .nil (passes_call (takes_of rfl rfl rfl rfl) (fun _ _ _ _ h => h)) (pa_cons (pv 0) pa_nil)))
 (pss_cons (ps_if (PW.pt (pw_or (pt_cmpR op_ne (pe_callB (call_lenK (K := K) rfl) (by rfl) Bt.len_ (by decide +kernel) (pa_cons (pv 1) pa_nil)) pe_int (nomark _)) (pw_or1 (pt_cmpR (op_notInK (K := K) rfl) (pe_ix (ix_listK (K := K) rfl) (pv 1) pe_int (fun _ _ => rfl)) (pe_tup (pa_cons pe_str (pa_cons pe_str pa_nil))) (by rfl))))) (pss_one (ps_raise rfl (takes_of rfl rfl rfl rfl) (pmk_own PySem.F.excBase_ValueError Cl.BadNote.xP Cl.BadNote.gP Cl.BadNote.kP (raises_own Cl.BadNote.bP Cl.BadNote.tP) (by rfl)))) pss_nil)
 (pss_cons (ps_set (i := 2) sc_read_rule.nd rfl (Or.inl rfl) (pe_callTy call_int_str (by rfl) Bt.int_ (by decide +kernel) (pa_cons (pe_ix ix_str (pe_ix (ix_listK (K := K) rfl) (pv 1) pe_int (fun _ _ => rfl)) (pe_un un_neg pe_int) (fun _ _ => rfl)) pa_nil)))
 (pss_cons (ps_setLcX (E := E) (i := 3) [("word", 4)] (gName 4) rfl rfl (takes_of rfl rfl rfl rfl) (by rfl) sc_read_rule.nd rfl rfl (sw_true rfl rfl rfl (by decide +kernel)) (pi_listK (K := K) rfl (pe_split (pe_ix (ix_listK (K := K) rfl) (pv 1) pe_int (fun _ _ => rfl)) pe_str)) (blkOk_by (own := [("word", 4)]) (N := ["text", "lines", "colours", "rule", "word"]) (sc := defScope s_read_rule) (by decide +kernel)) (fun _ _ _ _ _ => pg_name (i := 4) sc_read_rule.nd rfl (Or.inl rfl)) (fun _ _ _ _ _ => pts_nil) (fun _ _ _ _ _ xe hp => (pe_call G_whole_of (hRm.mono (by decide)) (by rfl) g_whole_of k_whole_of b_whole_of .nil hp (pa_cons (pv 4) pa_nil))))
 (pss_cons (L2H.ps_try_onlyX rfl rfl ⟨rfl, by decide, Or.inl Cl.BlockError.gP⟩ (L2H.passesAt_of rfl) (takes_of rfl rfl rfl rfl) (fun W pn xe tkn tkl po => (pss_one (ps_expr (pe_callS G_looked (hRm.mono (by decide)) (by rfl) g_looked k_looked b_looked (fun σ => L2N.passAt tkn σ) (pa_cons (pv 3) (pa_cons (pv 2) pa_nil)))))) (fun a oe cls d pn hz hf tkS hot => (pss_one (L2H.ps_raiseH hot tkS (L2N.pmk_own PySem.F.excBase_ValueError Cl.BadNote.xP Cl.BadNote.gP Cl.BadNote.kP (raises_own Cl.BadNote.bP Cl.BadNote.tP) (by rfl))))))
 (pss_one (ps_ret (pe_tup (pa_cons (pv 2) (pa_cons (pv 3) pa_nil)))))))))), Go.at ?_⟩
    by_cases hl : ∃ ps, ls = ps ++ [("" : Str)]
    · obtain ⟨ps, rfl⟩ := hl
      have hbad : ps.length ≠ 2 ∨ ∃ h l, ps = [h, l] ∧ (headC h = none ∨ ∃ c ws, headC h = some c ∧ l = Str.join (" " : Str) ws ∧ WsOk ws ∧ ((∃ w ∈ ws, wordV w = none) ∨ ¬ IsRule (n4 c) (wordsV ws))) := by
        rcases bad with bad | ⟨qs, e, bad⟩
        · exact absurd rfl (bad ps)
        · have := List.append_inj_left' e rfl
          rw [this]
          exact bad
      refine go_asgL (xs := ps.map V.str) (fun H1 e1 Q q => (ea_cons (ev_var rfl) ea_nil : EvA (tCons (tVar 0) tNil) _ H [.str (Str.join ("\n" : Str) (ps ++ [("" : Str)]))]) H1 e1 _ fun H2 e2 => ⟨_, rfl, ok.ne, ok.nl, ok.few, ok.len, fun qs z => by
            rw [← List.append_inj_left' z rfl]
            exact fun p H3 hp e3 h3 => q p H3 (fresh_back e2 hp) (e2.trans e3) h3, fun z => absurd rfl (z ps)⟩) fun p H1 hp e1 h1 => ?_
      have hp1 := sq_of (K := K) h1
      by_cases h2 : ps.length = 2
      · obtain ⟨h, l, rfl⟩ : ∃ h l, ps = [h, l] := by
          match ps, h2 with
          | [h, l], _ => exact ⟨h, l, rfl⟩
        have i0 : atI ([h, l].map V.str) 0 = some (.str h) := rfl
        have i1 : atI ([h, l].map V.str) 1 = some (.str l) := rfl
        refine go_whenb (b := decide ((([h, l].map V.str).length : Int) ≠ 2) || !inV (.str h) [.str ("rule 2" : Str), .str ("rule 3" : Str)]) (et_or (et_test (ev_op (ev_lenL (ev_var rfl) hp1) ev_c rv_neI)) (fun _ => et_test (ev_niU (xs := [.str ("rule 2" : Str), .str ("rule 3" : Str)]) (ev_ixL (ev_var rfl) ev_c hp1 i0) (eu_tup (ea_cons ev_c (ea_cons ev_c ea_nil)) (by show (2 : Nat) ≤ 100000; decide)) rfl rfl))) (fun _ => fun H2 e2 => qe _ Cl.BadNote.nP H2 (e1.trans e2)) (fun hb => ?_)
        rw [head_inV, Bool.or_eq_false_iff, Bool.not_eq_false'] at hb
        obtain ⟨c, hc⟩ := Option.isSome_iff_exists.mp hb.2
        rcases hbad with hbad | ⟨h', l', e, hbad⟩
        · exact absurd h2 hbad
        simp only [List.cons.injEq, and_true] at e
        obtain ⟨rfl, rfl⟩ := e
        rcases hbad with hbad | ⟨c', ws, hc', rfl, wok, hbad⟩
        · rw [hc] at hbad
          cases hbad
        obtain rfl : c = c' := by rw [hc] at hc'; cases hc'; rfl
        obtain ⟨c0, c1, k2, k3, k4⟩ := head_some hc
        refine go_asg (ev_intS (ev_op (ev_ixL (ev_var rfl) ev_c hp1 i0) (ev_un ev_c ru_neg) (BT.rv_ixS (by omega) k2)) k3 (by show (1 : Nat) ≤ 640; decide)) ?_
        have hlen : (ws.map V.str).length = ws.length := List.length_map ..
        have hfew := wok.few
        have hjl : (Str.join (" " : Str) ws).length ≤ 1000000 := by
          have := joinTx_le (b := 1000) (" " : Str) ws wok.each
          have e1 : (" " : Str).length = 1 := by decide
          rw [e1] at this
          omega
        have hsp : Txt.split (Str.join (" " : Str) ws) (" " : Str) = ws := by
          rw [← TL.join_eq]
          exact TL.split_join sl_nl (by decide +kernel) wok.ne wok.bl
        refine go_asgP (P := fun v H1 => (∃ p, v = .ref p ∧ H1 p = some (.lst ((wordsV ws).map V.int))) ∧ ∀ w ∈ ws, wordV w ≠ none) (ep_weak (ep_LP (elp_NL (K := K) (xs := ws.map V.str) (P := fun i v H1 => ∃ n, (ws[i]?).bind wordV = some n ∧ v = .int n) (fun i v H H' e h => h)
          (el_is ?_ (show (Txt.split (Str.join (" " : Str) ws) (" " : Str)).map V.str = ws.map V.str by rw [hsp])) (by omega) (fun _ => rfl) fun i x hi => ?_)) fun v H2 _ ⟨q, vs, hv, h2, hvl, hP⟩ => ?_) fun v H2 e2 ⟨⟨q, hv, h2⟩, hg⟩ => ?_
        · exact el_split (ev_ixL (ev_var rfl) ev_c hp1 i1) ev_c (by decide) (by omega)
        · have hil : i < ws.length := by rw [← hlen]; exact (List.getElem?_eq_some_iff.mp hi).1
          rw [List.getElem?_map, List.getElem?_eq_getElem hil] at hi
          have hi := Option.some.inj hi
          subst hi
          exact epx_call (ea_cons (ev_var rfl) ea_nil) fun H2 e2 Q2 q2 => ⟨ws[i], rfl, wok.each _ (List.getElem_mem hil), fun n hn H3 e3 => q2 _ H3 e3 ⟨n, by rw [List.getElem?_eq_getElem hil]; exact hn, rfl⟩, fun _ => qe.up (e1.trans e2)⟩
        · rw [hlen] at hvl
          refine ⟨⟨q, hv, ?_⟩, fun w hw => ?_⟩
          · have e : vs = (wordsV ws).map V.int := by
              apply List.ext_getElem?
              intro i
              by_cases hi : i < ws.length
              · obtain ⟨n, h3, h4⟩ := hP i vs[i] (List.getElem?_eq_getElem (by omega))
                rw [List.getElem?_eq_getElem hi] at h3
                unfold wordsV
                rw [List.getElem?_map, List.getElem?_map, List.getElem?_eq_getElem hi, List.getElem?_eq_getElem (by omega), h4]
                show some (V.int n) = some (V.int ((wordV ws[i]).getD 0))
                rw [show wordV ws[i] = some n from h3]
                rfl
              · rw [List.getElem?_eq_none (by omega), List.getElem?_eq_none (by unfold wordsV; rw [List.length_map, List.length_map]; omega)]
            rw [← e]
            exact h2
          · obtain ⟨i, hi, rfl⟩ := List.getElem_of_mem hw
            obtain ⟨n, h3, _⟩ := hP i _ (List.getElem?_eq_getElem (by omega))
            rw [List.getElem?_eq_getElem hi] at h3
            rw [show wordV ws[i] = some n from h3]
            simp
        · subst hv
          have hnr : ¬ IsRule (n4 c) (wordsV ws) := by
            rcases hbad with ⟨w, hw, z⟩ | z
            · exact absurd z (hg w hw)
            · exact z
          refine go_tryDropX (P := fun _ _ => False) (R := fun cls => cls = .ref C_NoRule ∨ cls = .ref C_NotBack) (ea_cons (ev_var rfl) (ea_cons (ev_var rfl) ea_nil)) (fun H3 e3 Q2 E2 _ hE => ⟨q, wordsV ws, c, rfl, sq_of (e3 _ _ h2), c0, c1, by unfold wordsV; rw [List.length_map]; exact hfew, fun z => absurd z hnr, fun _ C hC H4 e4 => hE _ H4 e4 (.inl (by rw [Cl.NoRule.same hC])), fun _ _ C hC H4 e4 => hE _ H4 e4 (.inr (by rw [Cl.NotBack.same hC]))⟩) (fun v H3 e3 z => z.elim) (fun cls hcls => ?_)
          rcases hcls with rfl | rfl
          · exact ⟨Cl.BlockError.exm Cl.S_NoRule_BlockError, fun ea H3 e3 => fun H4 e4 => qe _ Cl.BadNote.nP H4 (((e1.trans e2).trans e3).trans e4)⟩
          · exact ⟨Cl.BlockError.exm Cl.S_NotBack_BlockError, fun ea H3 e3 => fun H4 e4 => qe _ Cl.BadNote.nP H4 (((e1.trans e2).trans e3).trans e4)⟩
      · refine go_whenb (b := true || true) (et_or (et_is (et_test (ev_op (ev_lenL (ev_var rfl) hp1) ev_c rv_neI)) (by rw [List.length_map]; exact decide_eq_true (by omega))) (fun z => by cases z)) (fun _ => fun H2 e2 => qe _ Cl.BadNote.nP H2 (e1.trans e2)) (fun z => by cases z)
    · refine go_asgP (P := fun _ _ => False) (EvX.p (ex_call (ea_cons (ev_var rfl) ea_nil) fun H2 e2 Q => ⟨ls, rfl, ok.ne, ok.nl, ok.few, ok.len, fun ps z => absurd ⟨ps, z⟩ hl, fun _ => qe.up e2⟩)) fun v H1 e1 z => z.elim
/-! #### _law_refused -/
def sp__law_refused (K : PySem.W.Frag) : Sp := fun vs H Q _ => ∃ (way c : Int) (ls : List Str), vs = [.int way, .str (Str.join ("\n" : Str) ls), .int c] ∧ LnsOk ls ∧ (way = 0 → BadB c ls) ∧ (way ≠ 0 → BadR ls) ∧ RetV (.bl true) H Q
theorem cal__law_refused {P : Program} {w : World} {K : PySem.W.Frag} {mg : Str → Option Value} {base : Heap} {f : Addr} {fd : FuncData} (Bt : Bl mg) (D : DefAt K mg "_law_refused" s__law_refused ["way", "text", "colours"] f fd) {C_BlockError C_NoBoard C_NoRule C_NotBack C_BadNote : Addr} (Cl : Cls K mg C_BlockError C_NoBoard C_NoRule C_NotBack C_BadNote) (C_read_board : CalE P w K mg base (L2.CX P w) 3 "read_board" ["text", "colours"] (sp_read_board K)) (C_read_rule : CalE P w K mg base (L2.CX P w) 2 "read_rule" ["text"] (sp_read_rule K)) :
    CalE P w K mg base CX0 4 "_law_refused" ["way", "text", "colours"] (sp__law_refused K) := by
  obtain ⟨f_read_board, fd_read_board, G_read_board, g_read_board, k_read_board, b_read_board⟩ := C_read_board.ex
  obtain ⟨f_read_rule, fd_read_rule, G_read_rule, g_read_rule, k_read_rule, b_read_rule⟩ := C_read_rule.ex
  refine ⟨f, fd, D.F.ok sc__law_refused (fun vs H Q E h => ?_) (fun cdv A outer s H vs Q E hRm h => ?_), D.g, D.F.kp, D.b⟩
  · obtain ⟨way, c, ls, rfl, _⟩ := h; rfl
  · obtain ⟨way, c, ls, rfl, ok, b0, b1, q⟩ := h
    refine ⟨_, (pss_cons (ps_set (i := 3) sc__law_refused.nd rfl (Or.inl rfl) (pe_lst pa_nil))
 (pss_cons (ps_try_as (i := 4) rfl rfl sc__law_refused.nd rfl rfl ⟨rfl, by decide, Or.inl Cl.BlockError.gP⟩ takes0 (fun W pn xe tk _ => (pss_one (ps_if (pt_cmpR op_eq (pv 0) pe_int (nomark _)) (pss_one (ps_expr (pe_callS G_read_board (hRm.mono (by decide)) (by rfl) g_read_board k_read_board b_read_board (fun σ => passAt tk σ) (pa_cons (pv 1) (pa_cons (pv 2) pa_nil))))) (pss_one (ps_expr (pe_callS G_read_rule (hRm.mono (by decide)) (by rfl) g_read_rule k_read_rule b_read_rule (fun σ => passAt tk σ) (pa_cons (pv 1) pa_nil))))))) (fun a oe cls d pn hz hf => (pss_cons (ps_set (i := 3) sc__law_refused.nd rfl (Or.inl rfl) (pe_lst (pa_cons (pe_callB (call_isX hz hf) (by rfl) Bt.isinstance_ (by decide +kernel) (pa_cons (pv 4) (pa_cons (pe_glob (v := .ref C_BadNote) rfl Cl.BadNote.gP rfl) pa_nil))) (pa_cons (pe_callB (call_isX hz hf) (by rfl) Bt.isinstance_ (by decide +kernel) (pa_cons (pv 4) (pa_cons (pe_bltn (v := .ty "ValueError") (by rfl) Bt.ValueError_ (by decide +kernel) rfl) pa_nil))) (pa_cons (pe_callB (call_isX hz hf) (by rfl) Bt.isinstance_ (by decide +kernel) (pa_cons (pv 4) (pa_cons (pe_glob (v := .ref C_NoBoard) rfl Cl.NoBoard.gP rfl) pa_nil))) pa_nil)))))
 (pss_one (ps_set (i := 3) sc__law_refused.nd rfl (Or.inl rfl) (pe_op op_cat (pv 3) (pe_lst (pa_cons (pe_callB (call_isX hz hf) (by rfl) Bt.isinstance_ (by decide +kernel) (pa_cons (pv 4) (pa_cons (pe_glob (v := .ref C_NoRule) rfl Cl.NoRule.gP rfl) pa_nil))) (pa_cons (pe_callB (call_isX hz hf) (by rfl) Bt.isinstance_ (by decide +kernel) (pa_cons (pv 4) (pa_cons (pe_glob (v := .ref C_NotBack) rfl Cl.NotBack.gP rfl) pa_nil))) pa_nil)))))))))
 (pss_one (ps_ret (pe_cmpR (op_eqDK (K := K) rfl hRm.units) (pv 3) (pe_lst (pa_cons pe_bl (pa_cons pe_bl (pa_cons pe_bl (pa_cons pe_bl (pa_cons pe_bl pa_nil)))))) (nomark _)))))), Go.at ?_⟩
    refine go_asgL (xs := []) (el_lst ea_nil (by decide)) fun p H1 hp e1 hl => ?_
    have fin : ∀ cls, cls = .ref C_BadNote → ∀ (H2 : Hp), Ex H1 H2 → PySem.W.exmOne K cls (.ref C_BlockError) = some true := fun cls hc _ _ => by rw [hc]; exact Cl.BlockError.exm Cl.S_BadNote_BlockError
    refine go_tryIf (b := decide (way = 0)) (by walk_at "et") (fun hb => ?_) (fun hb => ?_)
    · refine go_tryAsD (P := fun _ _ => False) (vs := [.str (Str.join ("\n" : Str) ls), .int c]) (R := fun cls => cls = .ref C_BadNote) (by walk_at "ea")
        (fun H2 e2 Q E hQ hE => ⟨ls, c, rfl, ok, b0 (of_decide_eq_true hb), fun C hC H3 e3 => hE _ H3 e3 (by rw [Cl.BadNote.same hC])⟩) (fun u H5 e5 z => z.elim) (fun cls hcls => ?_)
      subst hcls
      refine ⟨Cl.BlockError.exm Cl.S_BadNote_BlockError, fun ea H5 e5 => ?_⟩
      refine go_asgL (xs := [true, true, false].map V.bl) (el_lst (ea_cons (ev_isX (ev_var rfl) ev_c Cl.BadNote.E (fun u h => h) kit_self) (ea_cons (ev_isX (ev_var rfl) ev_c Cl.BadNote.E (fun u h => h) Cl.BadNote.kitV) (ea_cons (ev_isX (ev_var rfl) ev_c Cl.BadNote.E (fun u h => h) (Cl.NoBoard.kitF Cl.S_BadNote_NoBoard)) ea_nil))) (by show (3 : Nat) ≤ 100000; decide)) fun p2 H6 hp2 e6 h6 => ?_
      refine gl_asgL (xs := [true, true, false].map V.bl ++ [false, false].map V.bl) (el_cat (ev_var rfl) h6 (el_lst (ea_cons (ev_isX (ev_var rfl) ev_c Cl.BadNote.E (fun u h => h) (Cl.NoRule.kitF Cl.S_BadNote_NoRule)) (ea_cons (ev_isX (ev_var rfl) ev_c Cl.BadNote.E (fun u h => h) (Cl.NotBack.kitF Cl.S_BadNote_NotBack)) ea_nil)) (by show (2 : Nat) ≤ 100000; decide)) (by show (5 : Nat) ≤ 100000; decide)) fun p3 H7 hp3 e7 h7 => gn_suite ?_
      exact go_ret (v := .bl true) (ev_is (ev_eqBs (ns := [true, true, false, false, false]) (ms := [true, true, false, false, false]) (ev_var rfl) (sq_of h7) (el_lst (ea_cons ev_c (ea_cons ev_c (ea_cons ev_c (ea_cons ev_c (ea_cons ev_c ea_nil))))) (by show (5 : Nat) ≤ 100000; decide))) (by simp)) fun H8 e8 => q H8 ((((e1.trans e5).trans e6).trans e7).trans e8)
    · refine go_tryAsD (P := fun _ _ => False) (vs := [.str (Str.join ("\n" : Str) ls)]) (R := fun cls => cls = .ref C_BadNote) (by walk_at "ea")
        (fun H2 e2 Q E hQ hE => ⟨ls, rfl, ok, b1 (of_decide_eq_false hb), fun C hC H3 e3 => hE _ H3 e3 (by rw [Cl.BadNote.same hC])⟩) (fun u H5 e5 z => z.elim) (fun cls hcls => ?_)
      subst hcls
      refine ⟨Cl.BlockError.exm Cl.S_BadNote_BlockError, fun ea H5 e5 => ?_⟩
      refine go_asgL (xs := [true, true, false].map V.bl) (el_lst (ea_cons (ev_isX (ev_var rfl) ev_c Cl.BadNote.E (fun u h => h) kit_self) (ea_cons (ev_isX (ev_var rfl) ev_c Cl.BadNote.E (fun u h => h) Cl.BadNote.kitV) (ea_cons (ev_isX (ev_var rfl) ev_c Cl.BadNote.E (fun u h => h) (Cl.NoBoard.kitF Cl.S_BadNote_NoBoard)) ea_nil))) (by show (3 : Nat) ≤ 100000; decide)) fun p2 H6 hp2 e6 h6 => ?_
      refine gl_asgL (xs := [true, true, false].map V.bl ++ [false, false].map V.bl) (el_cat (ev_var rfl) h6 (el_lst (ea_cons (ev_isX (ev_var rfl) ev_c Cl.BadNote.E (fun u h => h) (Cl.NoRule.kitF Cl.S_BadNote_NoRule)) (ea_cons (ev_isX (ev_var rfl) ev_c Cl.BadNote.E (fun u h => h) (Cl.NotBack.kitF Cl.S_BadNote_NotBack)) ea_nil)) (by show (2 : Nat) ≤ 100000; decide)) (by show (5 : Nat) ≤ 100000; decide)) fun p3 H7 hp3 e7 h7 => gn_suite ?_
      exact go_ret (v := .bl true) (ev_is (ev_eqBs (ns := [true, true, false, false, false]) (ms := [true, true, false, false, false]) (ev_var rfl) (sq_of h7) (el_lst (ea_cons ev_c (ea_cons ev_c (ea_cons ev_c (ea_cons ev_c (ea_cons ev_c ea_nil))))) (by show (5 : Nat) ≤ 100000; decide))) (by simp)) fun H8 e8 => q H8 ((((e1.trans e5).trans e6).trans e7).trans e8)
/-! #### _law_cell_at -/
def sp__law_cell_at (K : PySem.W.Frag) : Sp := fun vs H Q _ => ∃ (a : Addr) (ns : List Int) (k : Int), vs = [.ref a, .int k] ∧ SqL K H a (ns.map V.int) ∧ 0 ≤ k ∧ RetV (.int (at0 ns k)) H Q
theorem spv__law_cell_at {K : PySem.W.Frag} {H : Hp} {a : Addr} {ns : List Int} {k : Int} (h : SqL K H a (ns.map V.int)) (h0 : 0 ≤ k) : SpV (sp__law_cell_at K) [.ref a, .int k] H (.int (at0 ns k)) :=
  fun H1 e Q q E => ⟨a, ns, k, rfl, ex_l e h, h0, q⟩
local macro_rules | `(tactic| walk_at "sp") => `(tactic| (refine' spv__law_cell_at ?h1 ?h2; (case h1 => walk_at "sq"); (case h2 => walk_at "le")))
theorem cal__law_cell_at {P : Program} {w : World} {K : PySem.W.Frag} {mg : Str → Option Value} {base : Heap} {f : Addr} {fd : FuncData} (Bt : Bl mg) (D : DefAt K mg "_law_cell_at" s__law_cell_at ["script", "k"] f fd)  :
    CalE P w K mg base CX0 1 "_law_cell_at" ["script", "k"] (sp__law_cell_at K) := by
  refine ⟨f, fd, D.F.ok sc__law_cell_at (fun vs H Q E h => ?_) (fun cdv A outer s H vs Q E hRm h => ?_), D.g, D.F.kp, D.b⟩
  · obtain ⟨a, ns, k, rfl, _⟩ := h; rfl
  · obtain ⟨a, ns, k, rfl, hS, h0, q⟩ := h
    refine ⟨_, (pss_cons (ps_if (pt_cmpR op_lt (pv 1) (pe_callB (call_lenK (K := K) rfl) (by rfl) Bt.len_ (by decide +kernel) (pa_cons (pv 0) pa_nil)) (nomark _)) (pss_one (ps_ret (pe_ix (ix_listK (K := K) rfl) (pv 0) (pv 1) (fun _ _ => rfl)))) pss_nil)
 (pss_one (ps_ret pe_int))), Go.at ?_⟩
    refine go_when (p := k < (ns.length : Int)) (by walk_at "et") (fun hk => ?_) (fun hk => ?_)
    · exact go_ret (by walk_at "ev") q
    · refine go_ret (by walk_at "ev") (v := .int 0) ?_
      have e0 : at0 ns k = 0 := by
        unfold at0
        rw [List.getD_eq_getElem?_getD, List.getElem?_eq_none (by omega)]
        rfl
      rw [e0] at q
      exact q
/-! #### _law_named -/
def bitsN (n : Int) : List Int := [n / 8 % 2, n / 4 % 2, n / 2 % 2, n % 2]
def na1 (k : Int) (r : List Int) : List Int := if k = 0 then [at0 r 2, at0 r 0, at0 r 3, at0 r 1] else r
def na2 (k : Int) (r : List Int) : List Int := if k = 1 ∧ r.sum = 1 then r.reverse else if k = 1 ∧ at0 r 0 = at0 r 3 ∧ at0 r 1 = at0 r 2 ∧ r.sum = 2 then r.map (fun x => 1 - x) else r
def na3 (k : Int) (r : List Int) : List Int := if k = 2 ∧ r.sum ≠ 2 then (if r.sum = 3 then (r.map (fun x => 1 - x)).reverse else r.map (fun x => 1 - x)) else r
def nameN (k n : Int) : Int := let r := na3 k (na2 k (na1 k (bitsN n))); 8 * at0 r 0 + 4 * at0 r 1 + 2 * at0 r 2 + at0 r 3
theorem na1_len (k n : Int) : (na1 k (bitsN n)).length = 4 := by unfold na1; split <;> rfl
theorem na2_len (k : Int) {r : List Int} (h : r.length = 4) : (na2 k r).length = 4 := by
  unfold na2
  split
  · rw [List.length_reverse, h]
  · split
    · rw [List.length_map, h]
    · exact h
theorem na3_len (k : Int) {r : List Int} (h : r.length = 4) : (na3 k r).length = 4 := by
  unfold na3
  split
  · split
    · rw [List.length_reverse, List.length_map, h]
    · rw [List.length_map, h]
  · exact h
def sp__law_named (K : PySem.W.Frag) : Sp := fun vs H Q _ => ∃ (k n : Int), vs = [.int k, .int n] ∧ RetV (.int (nameN k n)) H Q
theorem spv__law_named {K : PySem.W.Frag} {H : Hp} {k n : Int} : SpV (sp__law_named K) [.int k, .int n] H (.int (nameN k n)) := fun H1 e Q q E => ⟨k, n, rfl, q⟩
local macro_rules | `(tactic| walk_at "sp") => `(tactic| exact spv__law_named)
theorem cal__law_named {P : Program} {w : World} {K : PySem.W.Frag} {mg : Str → Option Value} {base : Heap} {f : Addr} {fd : FuncData} (Bt : Bl mg) (D : DefAt K mg "_law_named" s__law_named ["kind", "number"] f fd)  :
    CalE P w K mg base CX0 1 "_law_named" ["kind", "number"] (sp__law_named K) := by
  refine ⟨f, fd, D.F.ok sc__law_named (fun vs H Q E h => ?_) (fun cdv A outer s H vs Q E hRm h => ?_), D.g, D.F.kp, D.b⟩
  · obtain ⟨k, n, rfl, _⟩ := h; rfl
  · obtain ⟨k, n, rfl, q⟩ := h
    refine ⟨_, (pss_cons (ps_set (i := 2) sc__law_named.nd rfl (Or.inl rfl) (pe_lst (pa_cons (pe_op op_mod (pe_op op_fdiv (pv 1) pe_int) pe_int) (pa_cons (pe_op op_mod (pe_op op_fdiv (pv 1) pe_int) pe_int) (pa_cons (pe_op op_mod (pe_op op_fdiv (pv 1) pe_int) pe_int) (pa_cons (pe_op op_mod (pv 1) pe_int) pa_nil))))))
 (pss_cut (ps_if (pt_cmpR op_eq (pv 0) pe_int (nomark _)) (pss_one (ps_set (i := 2) sc__law_named.nd rfl (Or.inl rfl) (pe_lst (pa_cons (pe_ix (ix_listK (K := K) rfl) (pv 2) pe_int (fun _ _ => rfl)) (pa_cons (pe_ix (ix_listK (K := K) rfl) (pv 2) pe_int (fun _ _ => rfl)) (pa_cons (pe_ix (ix_listK (K := K) rfl) (pv 2) pe_int (fun _ _ => rfl)) (pa_cons (pe_ix (ix_listK (K := K) rfl) (pv 2) pe_int (fun _ _ => rfl)) pa_nil))))))) pss_nil)
 (pss_cut (ps_if (PW.pt (pw_and (pt_cmpR op_eq (pv 0) pe_int (nomark _)) (pw_and1 (pt_cmpR op_eq (pe_callB (cr_sumK (K := K) rfl rfl) (by rfl) Bt.sum_ (by decide +kernel) (pa_cons (pv 2) pa_nil)) pe_int (nomark _))))) (pss_one (ps_expr (pe_bm0 PySem.F.plainAttrs_list PySem.F.slot_list_reverse PySem.F.type_list_reverse mt_reverse (pv 2)))) (pss_one (ps_if (PW.pt (pw_and (pt_cmpR op_eq (pv 0) pe_int (nomark _)) (pw_and (pt_cmpR op_eq (pe_ix (ix_listK (K := K) rfl) (pv 2) pe_int (fun _ _ => rfl)) (pe_ix (ix_listK (K := K) rfl) (pv 2) pe_int (fun _ _ => rfl)) (nomark _)) (pw_and (pt_cmpR op_eq (pe_ix (ix_listK (K := K) rfl) (pv 2) pe_int (fun _ _ => rfl)) (pe_ix (ix_listK (K := K) rfl) (pv 2) pe_int (fun _ _ => rfl)) (nomark _)) (pw_and1 (pt_cmpR op_eq (pe_callB (cr_sumK (K := K) rfl rfl) (by rfl) Bt.sum_ (by decide +kernel) (pa_cons (pv 2) pa_nil)) pe_int (nomark _))))))) (pss_one (ps_setLc (i := 2) (own := [("bit", 4)]) (g := gName 4) (by rfl) sc__law_named.nd rfl rfl (sw_true rfl rfl rfl (by decide +kernel)) (pi_listK (K := K) rfl (pv 2)) (blkOk_by (own := [("bit", 4)]) (N := ["kind", "number", "bits", "three", "bit"]) (sc := defScope s__law_named) (by decide +kernel)) (fun _ _ _ _ _ => pg_name (i := 4) sc__law_named.nd rfl (Or.inl rfl)) (fun _ _ _ _ _ => pts_nil) (fun _ _ _ _ _ => (pe_op op_sub pe_int (pv 4))))) pss_nil)))
 (pss_cut (ps_if (PW.pt (pw_and (pt_cmpR op_eq (pv 0) pe_int (nomark _)) (pw_and1 (pt_cmpR op_ne (pe_callB (cr_sumK (K := K) rfl rfl) (by rfl) Bt.sum_ (by decide +kernel) (pa_cons (pv 2) pa_nil)) pe_int (nomark _))))) (pss_cons (ps_set (i := 3) sc__law_named.nd rfl (Or.inl rfl) (pe_cmpR op_eq (pe_callB (cr_sumK (K := K) rfl rfl) (by rfl) Bt.sum_ (by decide +kernel) (pa_cons (pv 2) pa_nil)) pe_int (nomark _)))
 (pss_cons (ps_setLc (i := 2) (own := [("bit", 4)]) (g := gName 4) (by rfl) sc__law_named.nd rfl rfl (sw_true rfl rfl rfl (by decide +kernel)) (pi_listK (K := K) rfl (pv 2)) (blkOk_by (own := [("bit", 4)]) (N := ["kind", "number", "bits", "three", "bit"]) (sc := defScope s__law_named) (by decide +kernel)) (fun _ _ _ _ _ => pg_name (i := 4) sc__law_named.nd rfl (Or.inl rfl)) (fun _ _ _ _ _ => pts_nil) (fun _ _ _ _ _ => (pe_op op_sub pe_int (pv 4))))
 (pss_one (ps_if (pt_val (pv 3)) (pss_one (ps_expr (pe_bm0 PySem.F.plainAttrs_list PySem.F.slot_list_reverse PySem.F.type_list_reverse mt_reverse (pv 2)))) pss_nil)))) pss_nil)
 (pss_one (ps_ret (pe_op op_add (pe_op op_add (pe_op op_add (pe_op op_mul pe_int (pe_ix (ix_listK (K := K) rfl) (pv 2) pe_int (fun _ _ => rfl))) (pe_op op_mul pe_int (pe_ix (ix_listK (K := K) rfl) (pv 2) pe_int (fun _ _ => rfl)))) (pe_op op_mul pe_int (pe_ix (ix_listK (K := K) rfl) (pv 2) pe_int (fun _ _ => rfl)))) (pe_ix (ix_listK (K := K) rfl) (pv 2) pe_int (fun _ _ => rfl))))))))), Go.at ?_⟩
    refine go_asgL (xs := (bitsN n).map V.int) (el_lst (by walk_at "ea") (by show (4 : Nat) ≤ 100000; decide)) fun p H1 hp e1 h1 => ?_
    refine go_cutIfd (p := k = 0) (fun σ' H' => ∃ p, σ' = [some (.int k), some (.int n), some (.ref p), none, none] ∧ Ex H H' ∧ H p = none ∧ H' p = some (.lst ((na1 k (bitsN n)).map V.int)))
      (by walk_at "et") (fun hk => ?_) (fun hk => ?_) (fun σ' H2 ⟨p2, hσ, e2, hp2, h2⟩ => ?_)
    · have hs : SqL K H1 p ((bitsN n).map V.int) := sq_of h1
      have hl : (bitsN n).length = 4 := rfl
      refine gl_asgL (xs := ([at0 (bitsN n) 2, at0 (bitsN n) 0, at0 (bitsN n) 3, at0 (bitsN n) 1]).map V.int) (el_lst (by walk_at "ea") (by show (4 : Nat) ≤ 100000; decide)) fun p2 H2 hp2 e2 h2 => fun H3 e3 => ⟨p2, rfl, (e1.trans e2).trans e3, fresh_back e1 hp2, ?_⟩
      rw [e3 _ _ h2]
      unfold na1
      rw [if_pos hk]
    · exact fun H2 e2 => ⟨p, rfl, e1.trans e2, hp, by rw [e2 _ _ h1]; unfold na1; rw [if_neg hk]⟩
    · subst hσ
      have l1 := na1_len k n
      generalize er1 : na1 k (bitsN n) = r1 at *
      have hs : SqL K H2 p2 (r1.map V.int) := sq_of h2
      refine go_cutIf (b := decide (k = 1) && decide (r1.sum = 1)) (fun σ' H' => ∃ p, σ' = [some (.int k), some (.int n), some (.ref p), none, none] ∧ Ex H H' ∧ H p = none ∧ H' p = some (.lst ((na2 k r1).map V.int)))
        (by walk_at "et") (fun hk => ?_) (fun hk => ?_) (fun σ' H3 ⟨p3, hσ, e3, hp3, h3⟩ => ?_)
      · simp only [Bool.and_eq_true, decide_eq_true_eq] at hk
        refine gl_rev h2 (ev_var rfl) fun H3 e3 => fun H4 e4 => ⟨p2, rfl, ((e2.trans e3).mut hp2).trans e4, hp2, ?_⟩
        rw [e4 _ _ upd_same]
        unfold na2
        rw [if_pos hk, List.map_reverse]
      · simp only [Bool.and_eq_false_iff, decide_eq_false_iff_not] at hk
        have hk' : ¬ (k = 1 ∧ r1.sum = 1) := fun z => by rcases hk with h | h; exact h z.1; exact h z.2
        refine gl_if (b := decide (k = 1) && (decide (at0 r1 0 = at0 r1 3) && (decide (at0 r1 1 = at0 r1 2) && decide (r1.sum = 2)))) (by walk_at "et") (fun hb => ?_) (fun hb => ?_)
        · simp only [Bool.and_eq_true, decide_eq_true_eq] at hb
          refine gl_asgL (el_mapL (fun x => .int (1 - x)) (ev_var rfl) hs (by omega) (fun _ => rfl) (fun x _ => by walk_at "ev")) fun p3 H3 hp3 e3 h3 => fun H4 e4 => ⟨p3, rfl, (e2.trans e3).trans e4, fresh_back e2 hp3, ?_⟩
          rw [e4 _ _ h3]
          unfold na2
          rw [if_neg hk', if_pos hb, List.map_map]
          rfl
        · have hb' : ¬ (k = 1 ∧ at0 r1 0 = at0 r1 3 ∧ at0 r1 1 = at0 r1 2 ∧ r1.sum = 2) := fun z => by simp [z] at hb
          refine fun H3 e3 => ⟨p2, rfl, e2.trans e3, hp2, ?_⟩
          rw [e3 _ _ h2]
          unfold na2
          rw [if_neg hk', if_neg hb']
      · subst hσ
        have l2 := na2_len k l1
        have e0 : nameN k n = 8 * at0 (na3 k (na2 k r1)) 0 + 4 * at0 (na3 k (na2 k r1)) 1 + 2 * at0 (na3 k (na2 k r1)) 2 + at0 (na3 k (na2 k r1)) 3 := by rw [← er1]; rfl
        generalize na2 k r1 = r2 at *
        have hs3 : SqL K H3 p3 (r2.map V.int) := sq_of h3
        refine go_cutIf (b := decide (k = 2) && decide (r2.sum ≠ 2)) (fun σ' H' => ∃ p y, σ' = [some (.int k), some (.int n), some (.ref p), y, none] ∧ Ex H H' ∧ H' p = some (.lst ((na3 k r2).map V.int)))
          (by walk_at "et") (fun hb => ?_) (fun hb => ?_) (fun σ' H4 ⟨p4, y, hσ, e4, h4⟩ => ?_)
        · simp only [Bool.and_eq_true, decide_eq_true_eq] at hb
          refine go_asg (by walk_at "ev") ?_
          refine go_asgL (el_mapL (fun x => .int (1 - x)) (ev_var rfl) hs3 (by omega) (fun _ => rfl) (fun x _ => by walk_at "ev")) fun p4 H4 hp4 e4 h4 => ?_
          refine gl_whenb (b := decide (r2.sum = 3)) (by walk_at "et") (fun ht => ?_) (fun ht => ?_)
          · refine gl_rev h4 (ev_var rfl) fun H5 e5 => fun H6 e6 => ⟨p4, _, rfl, (((e3.trans e4).trans e5).mut (fresh_back e3 hp4)).trans e6, ?_⟩
            rw [e6 _ _ upd_same]
            unfold na3
            rw [if_pos hb, if_pos (of_decide_eq_true ht), List.map_reverse, List.map_map]
            rfl
          · refine fun H5 e5 => ⟨p4, _, rfl, (e3.trans e4).trans e5, ?_⟩
            rw [e5 _ _ h4]
            unfold na3
            rw [if_pos hb, if_neg (of_decide_eq_false ht), List.map_map]
            rfl
        · have hb' : ¬ (k = 2 ∧ r2.sum ≠ 2) := fun z => by simp [z] at hb
          refine fun H4 e4 => ⟨p3, none, rfl, e3.trans e4, ?_⟩
          rw [e4 _ _ h3]
          unfold na3
          rw [if_neg hb']
        · subst hσ
          have l3 := na3_len k l2
          rw [e0] at q
          generalize na3 k r2 = r3 at *
          have hs4 : SqL K H4 p4 (r3.map V.int) := sq_of h4
          exact go_ret (by walk_at "ev") fun H5 e5 => q H5 (e4.trans e5)
/-! #### _law_rule_by -/
theorem named_all : ∀ k ∈ [(0 : Int), 1, 2], ((List.range 16).all fun i => ((List.range 16).map fun j : Nat => nameN k j).contains (i : Int)) = true := by decide +kernel
theorem named_rule {k : Int} (h0 : 0 ≤ k) (h1 : k < 3) : ((rng 16).map (nameN k)).Perm (rng 16) := by
  have hk := named_all k (by simp; omega)
  refine (sub_count (nodup_rng 16) (fun x hx => ?_) (by rw [List.length_map]; exact Nat.le_refl _)).symm
  obtain ⟨x0, x1⟩ := mem_rng.mp hx
  have := List.all_eq_true.mp hk x.toNat (List.mem_range.mpr (by omega))
  rw [List.contains_iff_mem] at this
  unfold rng ranI
  rw [List.map_map]
  rw [show ((x.toNat : Nat) : Int) = x by omega] at this
  exact this
def sp__law_rule_by (K : PySem.W.Frag) : Sp := fun vs H Q _ => ∃ (cell c : Int), vs = [.int cell, .int c] ∧ 2 ≤ c ∧ c ≤ 3 ∧ ∀ r, IsRule (n4 c) r → RetL (r.map V.int) H Q
theorem spr__law_rule_by {K : PySem.W.Frag} {H : Hp} {cell c : Int} (h0 : 2 ≤ c) (h1 : c ≤ 3) : SpR (sp__law_rule_by K) [.int cell, .int c] H (IsRule (n4 c)) := fun H1 e Q q E => ⟨cell, c, rfl, h0, h1, q⟩
theorem cal__law_rule_by {P : Program} {w : World} {K : PySem.W.Frag} {mg : Str → Option Value} {base : Heap} {f : Addr} {fd : FuncData} (Bt : Bl mg) (D : DefAt K mg "_law_rule_by" s__law_rule_by ["cell", "colours"] f fd) (C__law_named : CalE P w K mg base CX0 1 "_law_named" ["kind", "number"] (sp__law_named K)) :
    CalE P w K mg base CX0 2 "_law_rule_by" ["cell", "colours"] (sp__law_rule_by K) := by
  obtain ⟨f__law_named, fd__law_named, G__law_named, g__law_named, k__law_named, b__law_named⟩ := C__law_named.ex
  refine ⟨f, fd, D.F.ok sc__law_rule_by (fun vs H Q E h => ?_) (fun cdv A outer s H vs Q E hRm h => ?_), D.g, D.F.kp, D.b⟩
  · obtain ⟨cell, c, rfl, _⟩ := h; rfl
  · obtain ⟨cell, c, rfl, c0, c1, q⟩ := h
    obtain ⟨hn, hn2, hn3⟩ := n4_int c0 c1
    refine ⟨_, (pss_cons (ps_setLc (i := 3) (own := [("k", 2)]) (g := gName 2) (by rfl) sc__law_rule_by.nd rfl rfl (sw_true rfl rfl rfl (by decide +kernel)) (pi_range1 (by rfl) Bt.range_ (pa_cons (pe_op op_mul (pe_op op_mul (pe_op op_mul (pv 1) (pv 1)) (pv 1)) (pv 1)) pa_nil)) (blkOk_by (own := [("k", 2)]) (N := ["cell", "colours", "k", "rest", "out", "a", "b"]) (sc := defScope s__law_rule_by) (by decide +kernel)) (fun _ _ _ _ _ => pg_name (i := 2) sc__law_rule_by.nd rfl (Or.inl rfl)) (fun _ _ _ _ _ => pts_nil) (fun _ _ _ _ _ => (pv 2)))
 (pss_cons (ps_if (pt_cmpR op_eq (pe_op op_mod (pv 0) pe_int) pe_int (nomark _)) (pss_one (ps_ret (pe_ifExp (pt_cmpR op_eq (pv 1) pe_int (nomark _)) (pe_lc (own := [("k", 2)]) (g := gName 2) (by rfl) sc__law_rule_by.nd (pi_listK (K := K) rfl (pv 3)) (blkOk_by (own := [("k", 2)]) (N := ["cell", "colours", "k", "rest", "out", "a", "b"]) (sc := defScope s__law_rule_by) (by decide +kernel)) (fun _ _ _ _ _ => pg_name (i := 2) sc__law_rule_by.nd rfl (Or.inl rfl)) (fun _ _ _ _ _ => pts_nil) (fun _ _ _ _ _ => (pe_call G__law_named (hRm.mono (by decide)) (by rfl) g__law_named k__law_named b__law_named .nil pass0 (pa_cons (pe_op op_mod (pe_op op_fdiv (pv 0) pe_int) pe_int) (pa_cons (pv 2) pa_nil))))) (pv 3)))) pss_nil)
 (pss_cons (ps_set (i := 4) sc__law_rule_by.nd rfl (Or.inl rfl) (pe_lst pa_nil))
 (pss_cons (ps_if (pt_cmpR op_eq (pe_op op_mod (pv 0) pe_int) pe_int (nomark _)) (pss_cons (ps_set (i := 4) sc__law_rule_by.nd rfl (Or.inl rfl) (pe_callTy (call_listK (K := K) rfl) (by rfl) Bt.list_ (by decide +kernel) (pa_cons (pv 3) pa_nil)))
 (pss_cons (ps_for PassesOwn.never rfl (pi_range1 (by rfl) Bt.range_ (pa_cons pe_int pa_nil)) (pg_name (i := 2) sc__law_rule_by.nd rfl (Or.inl rfl))
 (pss_cons (ps_set (i := 0) sc__law_rule_by.nd rfl (Or.inr rfl) (pe_op op_mod (pe_op op_add (pe_op op_mul (pv 0) pe_int) pe_int) pe_int))
 (pss_cons (ps_set (i := 5) sc__law_rule_by.nd rfl (Or.inl rfl) (pe_op op_mod (pe_op op_fdiv (pv 0) pe_int) (pe_callB (call_lenK (K := K) rfl) (by rfl) Bt.len_ (by decide +kernel) (pa_cons (pv 4) pa_nil))))
 (pss_cons (ps_set (i := 6) sc__law_rule_by.nd rfl (Or.inl rfl) (pe_op op_mod (pe_op op_fdiv (pe_op op_fdiv (pv 0) pe_int) (pe_callB (call_lenK (K := K) rfl) (by rfl) Bt.len_ (by decide +kernel) (pa_cons (pv 4) pa_nil))) (pe_callB (call_lenK (K := K) rfl) (by rfl) Bt.len_ (by decide +kernel) (pa_cons (pv 4) pa_nil))))
 (pss_one (ps_asg (pe_tup (pa_cons (pe_ix (ix_listK (K := K) rfl) (pv 4) (pv 6) (fun _ _ => rfl)) (pa_cons (pe_ix (ix_listK (K := K) rfl) (pv 4) (pv 5) (fun _ _ => rfl)) pa_nil))) (pg_tupK (K := K) rfl (by rfl) (pgs_cons (pg_sub (pv 4) (pv 5) set_list) (pgs_cons (pg_sub (pv 4) (pv 6) set_list) pgs_nil)))))))))
 (pss_one (ps_ret (pv 4))))) pss_nil)
 (pss_cons (ps_while PassesOwn.never (pt_cmpR op_gt (pe_callB (call_lenK (K := K) rfl) (by rfl) Bt.len_ (by decide +kernel) (pa_cons (pv 3) pa_nil)) pe_int (nomark _))
 (pss_cons (ps_set (i := 0) sc__law_rule_by.nd rfl (Or.inr rfl) (pe_op op_mod (pe_op op_add (pe_op op_mul (pv 0) pe_int) pe_int) pe_int))
 (pss_one (ps_expr (pe_bm PySem.F.plainAttrs_list PySem.F.slot_list_append PySem.F.type_list_append mt_append (pv 4) (pa_cons (pe_bm PySem.F.plainAttrs_list PySem.F.slot_list_pop PySem.F.type_list_pop mt_popAt (pv 3) (pa_cons (pe_op op_mod (pe_op op_fdiv (pv 0) pe_int) (pe_callB (call_lenK (K := K) rfl) (by rfl) Bt.len_ (by decide +kernel) (pa_cons (pv 3) pa_nil))) pa_nil)) pa_nil))))))
 (pss_one (ps_ret (pv 4)))))))), Go.at ?_⟩
    refine go_asgL (xs := (rng (n4 c)).map V.int) (el_mapRI (fun i => i) (n := c * c * c * c) (by walk_at "ea") (by omega) (fun _ => rfl) (fun i hi => ev_var rfl)) fun p H1 hp e1 h1 => ?_
    have hs1 : SqL K H1 p ((rng (n4 c)).map V.int) := sq_of h1
    have hlr : (rng (n4 c)).length = n4 c := len_rng _
    refine go_when (p := cell % 5 = 0) (by walk_at "et") (fun h5 => ?_) (fun h5 => ?_)
    · refine go_retIf (b := decide (c = 2)) (by walk_at "et") (fun h2 => ?_) (fun h2 => ?_)
      · have k0 := Int.emod_nonneg (cell / 5) (show (3 : Int) ≠ 0 by decide)
        have k1 := Int.emod_lt_of_pos (cell / 5) (show (0 : Int) < 3 by decide)
        refine go_retL (el_mapL (fun x => .int (nameN (cell / 5 % 3) x)) (ev_var rfl) hs1 (by omega) (fun _ => rfl) (fun x hx => by walk_at "ev")) fun p2 H2 hp2 e2 h2' => ?_
        have hc2 : n4 c = 16 := by rw [of_decide_eq_true h2]; rfl
        refine q ((rng (n4 c)).map (nameN (cell / 5 % 3))) ?_ p2 H2 (fresh_back e1 hp2) (e1.trans e2) (by rw [h2', List.map_map]; rfl)
        rw [hc2]
        exact named_rule k0 k1
      · exact go_ret (ev_var rfl) fun H2 e2 => q _ (List.Perm.refl _) p H2 hp (e1.trans e2) (e2 _ _ h1)
    · refine go_asgL (el_lst ea_nil (by decide)) fun o H2 ho e2 h2 => ?_
      have hs2 := ex_l e2 hs1
      have hn0 : (0 : Int) < (n4 c : Int) := by omega
      refine go_when (p := cell % 5 = 1) (by walk_at "et") (fun h51 => ?_) (fun h51 => ?_)
      · refine go_asgL (el_list (ev_var rfl) hs2) fun o H3 ho3 e3 h3 => ?_
        refine go_forR1 (n := 3) (by walk_at "ea") (by decide) (fun i σ' H' => ∃ cl r y a b, σ' = [some (.int cl), some (.int c), y, some (.ref p), some (.ref o), a, b] ∧ Ex H H' ∧ H' o = some (.lst (r.map V.int)) ∧ IsRule (n4 c) r)
          (fun H4 e4 => ⟨cell, rng (n4 c), _, _, _, rfl, ((e1.trans e2).trans e3).trans e4, e4 _ _ h3, List.Perm.refl _⟩) (fun i σ' H' hi ⟨cl, r, y, a, b, hσ, e, hl, hr⟩ => ?_) (fun σ' H' ⟨cl, r, y, a, b, hσ, e, hl, hr⟩ => ?_)
        · subst hσ
          have hrl := hr.len
          have hsr : SqL K H' o (r.map V.int) := sq_of hl
          refine go_asg (v := .int ((cl * 48271 + 7) % 2147483647)) (by walk_at "ev") ?_
          refine go_asg (v := .int ((cl * 48271 + 7) % 2147483647 / 5 % r.length)) (by walk_at "ev") ?_
          have hr30 : (r.length : Int) < 1073741824 := by omega
          have hr31 : (0 : Int) < r.length := by omega
          refine go_asg (ev_op (ev_op (ev_op (ev_var rfl) ev_c (rv_fdiv (by decide) (by decide))) (ev_lenLI (ev_var rfl) hsr) (rv_fdiv hr31 hr30)) (ev_lenLI (ev_var rfl) hsr) (rv_mod hr31)) ?_
          have a0 := Int.emod_nonneg ((cl * 48271 + 7) % 2147483647 / 5) (show (r.length : Int) ≠ 0 by omega)
          have a1 := Int.emod_lt_of_pos ((cl * 48271 + 7) % 2147483647 / 5) (show (0 : Int) < r.length by omega)
          have b0 := Int.emod_nonneg ((cl * 48271 + 7) % 2147483647 / 11 / r.length) (show (r.length : Int) ≠ 0 by omega)
          have b1 := Int.emod_lt_of_pos ((cl * 48271 + 7) % 2147483647 / 11 / r.length) (show (0 : Int) < r.length by omega)
          generalize (cl * 48271 + 7) % 2147483647 / 5 % r.length = a' at *
          generalize (cl * 48271 + 7) % 2147483647 / 11 / r.length % r.length = b' at *
          generalize (cl * 48271 + 7) % 2147483647 = cl' at *
          refine gl_swap hl (ev_var rfl) (ev_var rfl) (fun _ => ev_var rfl) (fun _ => ev_var rfl) (ev_var rfl) (fun _ => ev_var rfl) (ev_var rfl) (fun _ => ev_var rfl) a0 a1 b0 b1 fun H4 e4 H5 k5 h5 => fun H6 e6 =>
            ⟨cl', _, _, _, _, rfl, fun x u hx => e6 _ _ (k5 x (fun z => ?_) u (e4 _ _ (e _ _ hx))), e6 _ _ h5, isRule_swap hr a0 a1 b0 b1⟩
          have hno := fresh_back ((e1.trans e2)) ho3
          rw [z, hno] at hx
          cases hx
        · subst hσ
          exact go_ret (ev_var rfl) fun H4 e4 => q r hr o H4 (fresh_back (e1.trans e2) ho3) (e.trans e4) (e4 _ _ hl)
      · have hpo : o ≠ p := fun z => by rw [z, h1] at ho; cases ho
        refine go_while (fun m σ' H' => ∃ cl r s y a b, σ' = [some (.int cl), some (.int c), y, some (.ref p), some (.ref o), a, b] ∧ Ex H H' ∧ H' p = some (.lst (r.map V.int)) ∧ H' o = some (.lst (s.map V.int)) ∧ IsRule (n4 c) (s ++ r) ∧ m = r.length) (n4 c)
          (fun H3 e3 => ⟨cell, rng (n4 c), [], _, _, _, rfl, (e1.trans e2).trans e3, e3 _ _ (e2 _ _ h1), e3 _ _ h2, List.Perm.refl _, hlr.symm⟩) (fun m σ' H' ⟨cl, r, s, y, a, b, hσ, e, hr, hs, hR, hm⟩ => ?_)
        subst hσ
        have hsr : SqL K H' p (r.map V.int) := sq_of hr
        have hrs := hR.len
        rw [List.length_append] at hrs
        refine ⟨decide (0 < (r.length : Int)), by walk_at "et", fun hb => ⟨fun σ2 H2 => ∃ cl r' s y a b, σ2 = [some (.int cl), some (.int c), y, some (.ref p), some (.ref o), a, b] ∧ Ex H H2 ∧ H2 p = some (.lst (r'.map V.int)) ∧ H2 o = some (.lst (s.map V.int)) ∧ IsRule (n4 c) (s ++ r') ∧ r'.length + 1 = r.length,
          fun σ2 H2 ⟨cl, r', s, y, a, b, hσ, e, hr', hs, hR, hm'⟩ => ⟨r'.length, by omega, cl, r', s, y, a, b, hσ, e, hr', hs, hR, rfl⟩, ?_⟩, fun hb => ?_⟩
        · have hpos : (0 : Int) < r.length := of_decide_eq_true hb
          refine go_asg (v := .int ((cl * 48271 + 29) % 2147483647)) (by walk_at "ev") ?_
          have a0 := Int.emod_nonneg ((cl * 48271 + 29) % 2147483647 / 3) (show (r.length : Int) ≠ 0 by omega)
          have a1 := Int.emod_lt_of_pos ((cl * 48271 + 29) % 2147483647 / 3) (show (0 : Int) < r.length by omega)
          refine gl_appPop (i := (cl * 48271 + 29) % 2147483647 / 3 % r.length) hs hr hpo (ev_var rfl) (ev_var rfl) (by walk_at "ev") a0 (by rw [List.length_map]; exact a1) (by rw [List.length_map]; omega) (by rw [List.length_map]; omega) fun H3 v e3 hv => fun H4 e4 => ?_
          generalize (cl * 48271 + 29) % 2147483647 / 3 % r.length = j at *
          have hj : j.toNat < r.length := by omega
          rw [List.getElem?_map, List.getElem?_eq_getElem hj] at hv
          have hv' : v = .int r[j.toNat] := (Option.some.inj hv).symm
          subst hv'
          refine ⟨_, r.eraseIdx j.toNat, s ++ [r[j.toNat]], y, a, b, rfl, fun x u hx => e4 _ _ ?_, ?_, ?_, ?_, ?_⟩
          · rw [upd_ne (fun z => by rw [z, fresh_back e1 ho] at hx; cases hx), upd_ne (fun z => by rw [z, hp] at hx; cases hx)]
            exact e3 _ _ (e _ _ hx)
          · rw [e4 _ _ (by rw [upd_ne hpo.symm]; exact upd_same), map_erase]
          · rw [e4 _ _ upd_same, List.map_append]
            rfl
          · refine List.Perm.trans ?_ hR
            rw [List.append_assoc]
            exact List.Perm.append_left s (perm_erase r _ hj)
          · rw [List.length_eraseIdx_of_lt hj]
            omega
        · have hz := of_decide_eq_false hb
          have hr0 : r = [] := List.eq_nil_of_length_eq_zero (by omega)
          subst hr0
          rw [List.append_nil] at hR
          exact go_ret (ev_var rfl) fun H3 e3 => q s hR o H3 (fresh_back e1 ho) (e.trans e3) (e3 _ _ hs)
/-! #### _law_board_by -/
def BdE (K : PySem.W.Frag) (h w : Nat) (c : Int) (v : V) (H : Hp) : Prop := ∃ f, Bnd h w c f ∧ BdV K (mk h w f) v H
theorem bd_fun {B : List (List Int)} {h w : Nat} {c : Int} (hl : B.length = h) (hr : ∀ r ∈ B, r.length = w ∧ ∀ x ∈ r, 0 ≤ x ∧ x < c) : ∃ f, Bnd h w c f ∧ B = mk h w f := by
  refine ⟨fun y x => at0 (B.getD y.toNat []) x, fun y x y0 y1 x0 x1 => ?_, ?_⟩
  · have hy : y.toNat < B.length := by omega
    dsimp only
    rw [List.getD_eq_getElem?_getD, List.getElem?_eq_getElem hy]
    obtain ⟨h1, h2⟩ := hr _ (List.getElem_mem hy)
    exact h2 _ (at0_mem x0 (by show x < (B[y.toNat].length : Int); omega))
  · apply List.ext_getElem?
    intro i
    by_cases hi : i < h
    · rw [mk_get hi, List.getElem?_eq_getElem (by omega)]
      obtain ⟨h1, _⟩ := hr _ (List.getElem_mem (show i < B.length by omega))
      refine congrArg some (ext_at0 (by rw [len_rowOf]; exact h1) fun x x0 x1 => ?_)
      rw [at0_rowOf x0 (by omega), Int.toNat_natCast, List.getD_eq_getElem?_getD, List.getElem?_eq_getElem (by omega)]
      rfl
    · rw [List.getElem?_eq_none (by omega), List.getElem?_eq_none (by rw [len_mk]; omega)]
def sp__law_board_by (K : PySem.W.Frag) : Sp := fun vs H Q _ => ∃ (cell c : Int) (w h : Nat), vs = [.int cell, .int (w : Int), .int (h : Int), .int c] ∧ w ≤ 1000 ∧ h ≤ 1000 ∧ 2 ≤ c ∧ c ≤ 3 ∧ RetP (BdE K h w c) H Q
theorem spp__law_board_by {K : PySem.W.Frag} {H : Hp} {cell c : Int} {w h : Nat} (hw : w ≤ 1000) (hh : h ≤ 1000) (c0 : 2 ≤ c) (c1 : c ≤ 3) : SpP (sp__law_board_by K) [.int cell, .int (w : Int), .int (h : Int), .int c] H (BdE K h w c) :=
  fun H1 e Q q E => ⟨cell, c, w, h, rfl, hw, hh, c0, c1, q⟩
theorem col_mul {a c : Int} (k : Bool) (c0 : 2 ≤ c) : 0 ≤ a % c * (if k then (1 : Int) else 0) ∧ a % c * (if k then (1 : Int) else 0) < c := by
  have h0 := Int.emod_nonneg a (show c ≠ 0 by omega)
  have h1 := Int.emod_lt_of_pos a (show 0 < c by omega)
  cases k
  · simp; omega
  · simp; omega
theorem cal__law_board_by {P : Program} {w : World} {K : PySem.W.Frag} {mg : Str → Option Value} {base : Heap} {f : Addr} {fd : FuncData} (Bt : Bl mg) (D : DefAt K mg "_law_board_by" s__law_board_by ["cell", "width", "height", "colours"] f fd)  :
    CalE P w K mg base CX0 1 "_law_board_by" ["cell", "width", "height", "colours"] (sp__law_board_by K) := by
  refine ⟨f, fd, D.F.ok sc__law_board_by (fun vs H Q E h => ?_) (fun cdv A outer s H vs Q E hRm h => ?_), D.g, D.F.kp, D.b⟩
  · obtain ⟨cell, c, w, h, rfl, _⟩ := h; rfl
  · obtain ⟨cell, c, w, h, rfl, hw, hh, c0, c1, q⟩ := h
    refine ⟨_, (pss_cons (ps_set (i := 4) sc__law_board_by.nd rfl (Or.inl rfl) (pe_lst pa_nil))
 (pss_cons (ps_for PassesOwn.never rfl (pi_range1 (by rfl) Bt.range_ (pa_cons (pv 2) pa_nil)) (pg_name (i := 5) sc__law_board_by.nd rfl (Or.inl rfl))
 (pss_cons (ps_set (i := 6) sc__law_board_by.nd rfl (Or.inl rfl) (pe_lst pa_nil))
 (pss_cons (ps_for PassesOwn.never rfl (pi_range1 (by rfl) Bt.range_ (pa_cons (pv 1) pa_nil)) (pg_name (i := 7) sc__law_board_by.nd rfl (Or.inl rfl))
 (pss_cons (ps_set (i := 0) sc__law_board_by.nd rfl (Or.inl rfl) (pe_op op_mod (pe_op op_add (pe_op op_mul (pv 0) pe_int) pe_int) pe_int))
 (pss_one (ps_expr (pe_bm PySem.F.plainAttrs_list PySem.F.slot_list_append PySem.F.type_list_append mt_append (pv 6) (pa_cons (pe_op op_mul (pe_op op_mod (pe_op op_fdiv (pv 0) pe_int) (pv 3)) (pe_callTy call_int1S (by rfl) Bt.int_ (by decide +kernel) (pa_cons (pe_cmpR op_gt (pe_op op_mod (pe_op op_fdiv (pv 0) pe_int) pe_int) pe_int (nomark _)) pa_nil))) pa_nil))))))
 (pss_one (ps_expr (pe_bm PySem.F.plainAttrs_list PySem.F.slot_list_append PySem.F.type_list_append mt_append (pv 4) (pa_cons (pe_callTy (call_tupK (K := K) rfl) (by rfl) Bt.tuple_ (by decide +kernel) (pa_cons (pv 6) pa_nil)) pa_nil)))))))
 (pss_one (ps_ret (pe_callTy (call_tupK (K := K) rfl) (by rfl) Bt.tuple_ (by decide +kernel) (pa_cons (pv 4) pa_nil)))))), Go.at ?_⟩
    refine go_asgL (el_lst ea_nil (by decide)) fun p H1 hp e1 h1 => ?_
    refine go_forR1 (n := (h : Int)) (by walk_at "ea") (by omega) (fun i σ' H' => ∃ cl y5 y6 y7 vs B, σ' = [some (.int cl), some (.int (w : Int)), some (.int (h : Int)), some (.int c), some (.ref p), y5, y6, y7] ∧ Ex H H' ∧ H' p = some (.lst vs) ∧ RwsV K B vs H' ∧ vs.length = i ∧ ∀ r ∈ B, r.length = w ∧ ∀ x ∈ r, 0 ≤ x ∧ x < c)
      (fun H2 e2 => ⟨cell, _, _, _, [], [], rfl, e1.trans e2, e2 _ _ h1, ⟨rfl, fun i u r h1 _ => by cases h1⟩, rfl, by simp⟩) (fun i σ' H' hi ⟨cl, y5, y6, y7, vs, B, hσ, e, hl, hR, hlen, hB⟩ => ?_) (fun σ' H' ⟨cl, y5, y6, y7, vs, B, hσ, e, hl, hR, hlen, hB⟩ => ?_)
    · subst hσ
      refine go_asgL (el_lst ea_nil (by decide)) fun o H2 ho e2 h2 => ?_
      have hpo : p ≠ o := fun z => by rw [← z, hl] at ho; cases ho
      refine go_forR1 (n := (w : Int)) (by walk_at "ea") (by omega) (fun j σ' H' => ∃ cl y7 ns, σ' = [some (.int cl), some (.int (w : Int)), some (.int (h : Int)), some (.int c), some (.ref p), some (.int (i : Int)), some (.ref o), y7] ∧ Ex H H' ∧ H' p = some (.lst vs) ∧ RwsV K B vs H' ∧ H' o = some (.lst (ns.map V.int)) ∧ ns.length = j ∧ ∀ x ∈ ns, 0 ≤ x ∧ x < c)
        (fun H3 e3 => ⟨cl, _, [], rfl, (e.trans e2).trans e3, e3 _ _ (e2 _ _ hl), hR.imm (ExI.of (e2.trans e3)), e3 _ _ h2, rfl, by simp⟩) (fun j σ' H3 hj ⟨cl, y7, ns, hσ, e3, hl3, hR3, h3, hns, hx⟩ => ?_) (fun σ' H3 ⟨cl, y7, ns, hσ, e3, hl3, hR3, h3, hns, hx⟩ => ?_)
      · subst hσ
        refine go_asg (v := .int ((cl * 48271 + 13) % 2147483647)) (by walk_at "ev") ?_
        generalize (cl * 48271 + 13) % 2147483647 = cl' at *
        have hb := int_bool (decide (0 < cl' / 77 % 3))
        refine gl_app h3 (ev_var rfl) (v := .int (cl' / 7 % c * (if decide (0 < cl' / 77 % 3) then 1 else 0))) (ev_op (by walk_at "ev") (ev_intB (by walk_at "ev")) (rv_mulR hb.1 hb.2)) (by rw [List.length_map]; omega) fun H4 e4 => fun H5 e5 => ?_
        refine ⟨_, _, ns ++ [cl' / 7 % c * (if decide (0 < cl' / 77 % 3) then 1 else 0)], rfl, ((e3.trans e4).mut (fresh_back e ho)).trans e5, ?_, ?_, ?_, ?_, ?_⟩
        · exact e5 _ _ (by rw [upd_ne hpo]; exact e4 _ _ hl3)
        · exact hR3.imm ((ExI.upd' (ExI.of e4) (e4 _ _ h3)).trans (ExI.of e5))
        · rw [e5 _ _ upd_same, List.map_append]
          rfl
        · rw [List.length_append, hns]
          rfl
        · intro x hxm
          rcases List.mem_append.mp hxm with hxm | hxm
          · exact hx x hxm
          · rw [List.mem_singleton.mp hxm]
            exact col_mul _ c0
      · subst hσ
        refine gl_appP (P := RwV K ns) hl3 (ev_var rfl) (ep_U (eu_tupV (ev_var rfl) (sq_of h3)) fun t H4 _ h4 => ⟨t, rfl, st_of h4⟩) (by omega) fun v H4 e4 hv => fun H5 e5 => ?_
        refine ⟨_, _, _, _, vs ++ [v], B ++ [ns], rfl, ((e3.trans e4).mut hp).trans e5, e5 _ _ upd_same, ?_, by rw [List.length_append, hlen]; rfl, ?_⟩
        · exact ((hR3.imm (ExI.of e4)).snoc hv).imm ((ExI.upd (e4 _ _ hl3)).trans (ExI.of e5))
        · intro r hr
          rcases List.mem_append.mp hr with hr | hr
          · exact hB r hr
          · rw [List.mem_singleton.mp hr]
            exact ⟨by omega, hx⟩
    · subst hσ
      have hBl : B.length = h := by rw [← hR.1, hlen]; omega
      obtain ⟨f, hf, rfl⟩ := bd_fun hBl hB
      refine go_retP (P := BdE K h w c) (ep_U (eu_tupV (ev_var rfl) (sq_of hl)) fun t H2 e2 h2 => ⟨f, hf, t, vs, rfl, st_of h2, hR.1, (hR.imm (ExI.of e2)).2⟩) fun v H2 e2 p => q v H2 (e.trans e2) p
/-! #### _law_bad_board -/
/-- a row, sign by sign -/
def sgnX (r : List Int) : Str := ⟨(r.map fun x => 48 + x.toNat).toArray⟩
theorem sgn_tl (r : List Int) : TL.tl (sgnX r) = r.map fun x => 48 + x.toNat := rfl
theorem rowV_of {z : Str} {r : List Int} (h : rowV z = some r) : (∀ c ∈ TL.tl z, c ∈ ("0123456789" : Str).cps.toList) ∧ r = (TL.tl z).map fun c : Nat => (c : Int) - 48 := by
  unfold rowV at h
  split at h
  · rename_i h1
    exact ⟨h1, (Option.some.inj h).symm⟩
  · cases h
theorem rowV_len {z : Str} {r : List Int} (h : rowV z = some r) : r.length = z.length := by rw [(rowV_of h).2, List.length_map, TL.len_tl]
def BadRows (c : Int) (bs : List Str) : Prop := (∃ p ∈ bs, rowV p = none) ∨ ¬ GoodB c (rowsV bs)
theorem rowsV_get {bs : List Str} {i : Nat} {p : Str} {r : List Int} (h : bs[i]? = some p) (hr : rowV p = some r) : (rowsV bs)[i]? = some r := by
  unfold rowsV
  rw [List.getElem?_map, h]
  show some ((rowV p).getD []) = _
  rw [hr]
  rfl
theorem bad_len {c : Int} {bs : List Str} {i j : Nat} {p q : Str} (hi : bs[i]? = some p) (hj : bs[j]? = some q) (hne : p.length ≠ q.length) : BadRows c bs := by
  cases hp : rowV p with
  | none => exact .inl ⟨p, List.mem_of_getElem? hi, hp⟩
  | some r =>
    cases hq : rowV q with
    | none => exact .inl ⟨q, List.mem_of_getElem? hj, hq⟩
    | some s =>
      refine .inr fun g => hne ?_
      have h1 := (g.r i r (rowsV_get hi hp)).1
      have h2 := (g.r j s (rowsV_get hj hq)).1
      rw [← rowV_len hp, ← rowV_len hq, h1, h2]
theorem bad_sign {c : Int} {bs : List Str} {i d : Nat} {p : Str} (hi : bs[i]? = some p) (hd : d ∈ TL.tl p) (h : d ∈ ("0123456789" : Str).cps.toList → c ≤ (d : Int) - 48) : BadRows c bs := by
  cases hp : rowV p with
  | none => exact .inl ⟨p, List.mem_of_getElem? hi, hp⟩
  | some r =>
    refine .inr fun g => ?_
    obtain ⟨k1, k2⟩ := rowV_of hp
    have h1 := h (k1 d hd)
    have h2 := (g.r i r (rowsV_get hi hp)).2 ((d : Int) - 48) (by rw [k2]; exact List.mem_map.mpr ⟨d, hd, rfl⟩)
    omega
theorem bad_size {c : Int} {bs : List Str} (h : bs.length % 2 = 1 ∨ bs.length = 0) : BadRows c bs := .inr fun g => by
  have := sizeT_iff.mp g.h
  unfold rowsV at this
  rw [List.length_map] at this
  omega
structure RowsOk (bs : List Str) : Prop where
  few : bs.length ≤ 20
  each : ∀ p ∈ bs, 10 ∉ TL.tl p ∧ p.length ≤ 20
theorem lns_of {bs : List Str} (ok : RowsOk bs) : LnsOk (bs ++ [("" : Str)]) := by
  have ea : ∀ p ∈ bs ++ [("" : Str)], 10 ∉ TL.tl p ∧ p.length ≤ 20 := fun p hp => by
    rcases List.mem_append.mp hp with hp | hp
    · exact ok.each p hp
    · rw [List.mem_singleton.mp hp]
      decide
  have hl : (bs ++ [("" : Str)]).length ≤ 21 := by rw [List.length_append]; have := ok.few; show bs.length + 1 ≤ 21; omega
  refine ⟨by simp, fun p hp => (ea p hp).1, by omega, ?_, fun p hp => by have := (ea p hp).2; omega⟩
  have := joinTx_le (b := 20) ("\n" : Str) _ fun p hp => (ea p hp).2
  have e1 : ("\n" : Str).length = 1 := by decide
  rw [e1] at this
  omega
/-- a text that writes no board -/
def TxtB (c : Int) (v : V) (_ : Hp) : Prop := ∃ ls, v = .str (Str.join ("\n" : Str) ls) ∧ LnsOk ls ∧ BadB c ls
theorem cut_to {z : Str} {n : Nat} (h : n ≤ z.length) : TL.tl (cutS z none (some (n : Int))) = (TL.tl z).take n := by
  show ((TL.tl z).drop 0).take (HT.sIx z.length z.length (some (n : Int)) - 0) = _
  rw [HT.sIx_nat, List.drop_zero, Nat.min_eq_left h]
  rfl
theorem cut_from {z : Str} {n : Nat} (h : n ≤ z.length) : TL.tl (cutS z (some (n : Int)) none) = (TL.tl z).drop n := by
  show ((TL.tl z).drop (HT.sIx z.length 0 (some (n : Int)))).take (z.length - HT.sIx z.length 0 (some (n : Int))) = _
  rw [HT.sIx_nat, Nat.min_eq_left h, List.take_of_length_le]
  rw [List.length_drop, ← TL.len_tl]
  exact Nat.le_refl _
theorem cut_last {z : Str} : TL.tl (cutS z none (some (-1))) = (TL.tl z).take (z.length - 1) := by
  have e : HT.sIx z.length z.length (some (-1)) = z.length - 1 := by
    show (if (-1 : Int) < 0 then ((-1 : Int) + (z.length : Int)).toNat else min (-1 : Int).toNat z.length) = _
    rw [if_pos (by decide)]
    omega
  show ((TL.tl z).drop 0).take (HT.sIx z.length z.length (some (-1)) - 0) = _
  rw [e, List.drop_zero]
  rfl
/-- signs that are no colours -/
def SgP (c : Int) (x : V) : Prop := ∃ (s : Str) (d : Nat), x = .str s ∧ TL.tl s = [d] ∧ d ≠ 10 ∧ (d ∈ ("0123456789" : Str).cps.toList → c ≤ (d : Int) - 48)
theorem sg_lit {c : Int} (c1 : c ≤ 3) : SgP c (.str ("9" : Str)) ∧ SgP c (.str (" " : Str)) ∧ SgP c (.str ("-" : Str)) ∧ SgP c (.str ("_" : Str)) ∧ SgP c (.str ("a" : Str)) ∧ SgP c (.str ("+" : Str)) ∧ SgP c (.str ("." : Str)) := by
  refine ⟨⟨_, 57, rfl, by decide, by decide, fun _ => by omega⟩, ⟨_, 32, rfl, by decide, by decide, fun z => absurd z (by decide)⟩, ⟨_, 45, rfl, by decide, by decide, fun z => absurd z (by decide)⟩, ⟨_, 95, rfl, by decide, by decide, fun z => absurd z (by decide)⟩, ⟨_, 97, rfl, by decide, by decide, fun z => absurd z (by decide)⟩,
    ⟨_, 43, rfl, by decide, by decide, fun z => absurd z (by decide)⟩, ⟨_, 46, rfl, by decide, by decide, fun z => absurd z (by decide)⟩⟩
theorem sg_col {c : Int} (c0 : 2 ≤ c) (c1 : c ≤ 3) : SgP c (.str (toString c : Str)) := by
  rcases (show c = 2 ∨ c = 3 by omega) with rfl | rfl
  · exact ⟨_, 50, rfl, by decide +kernel, by decide, fun _ => by decide⟩
  · exact ⟨_, 51, rfl, by decide +kernel, by decide, fun _ => by decide⟩
theorem ev_pick {K : PySem.W.Frag} {σ : L2.St} {H : Hp} {ta tb : TE} {xs : List V} {i : Int} (ha : EvL ta σ H xs) (hb : ∀ H1, Ex H H1 → Ev tb σ H1 (.int i)) (h0 : 0 ≤ i) (h1 : i < (xs.length : Int)) : ∃ x, x ∈ xs ∧ Ev (tOp (rIxL K) ta tb) σ H x := by
  obtain ⟨k, rfl⟩ := Int.eq_ofNat_of_zero_le h0
  have hk : k < xs.length := by omega
  exact ⟨xs[k], List.getElem_mem hk, ev_ixNL ha hb (atI_nat (List.getElem?_eq_getElem hk))⟩
/-- some signs put in at a place, n signs left out there -/
theorem put_tl {p s : Str} {a n : Nat} (h : a + n ≤ p.length) : TL.tl (cutS p none (some (a : Int)) ++ s ++ cutS p (some ((a + n : Nat) : Int)) none) = (TL.tl p).take a ++ TL.tl s ++ (TL.tl p).drop (a + n) := by
  rw [TL.tl_append, TL.tl_append, cut_to (by omega), cut_from h]
theorem put_ok {p s : Str} {a n : Nat} (h : a + n ≤ p.length) (hp : 10 ∉ TL.tl p) (hs : 10 ∉ TL.tl s) : 10 ∉ TL.tl (cutS p none (some (a : Int)) ++ s ++ cutS p (some ((a + n : Nat) : Int)) none) ∧ (cutS p none (some (a : Int)) ++ s ++ cutS p (some ((a + n : Nat) : Int)) none).length = p.length + s.length - n := by
  rw [TL.len_tl, put_tl h]
  refine ⟨fun z => ?_, ?_⟩
  · rcases List.mem_append.mp z with z | z
    · rcases List.mem_append.mp z with z | z
      · exact hp (List.mem_of_mem_take z)
      · exact hs z
    · exact hp (List.mem_of_mem_drop z)
  · rw [List.length_append, List.length_append, List.length_take, List.length_drop, TL.len_tl p, TL.len_tl s]
    rw [TL.len_tl p] at h
    omega
theorem set_ok {ps : List Str} {y : Nat} {q : Str} (ok : RowsOk ps) (h : 10 ∉ TL.tl q ∧ q.length ≤ 20) : RowsOk (ps.set y q) := by
  refine ⟨by rw [List.length_set]; exact ok.few, fun p hp => ?_⟩
  rcases List.mem_or_eq_of_mem_set hp with hp | rfl
  · exact ok.each p hp
  · exact h
/-- a row of another length -/
theorem bad_set {c : Int} {ps : List Str} {w y : Nat} {q : Str} (hy : y < ps.length) (h2 : 2 ≤ ps.length) (hw : ∀ p ∈ ps, p.length = w) (hq : q.length ≠ w) : BadRows c (ps.set y q) := by
  obtain ⟨j, hj, hjy⟩ : ∃ j, j < ps.length ∧ y ≠ j := by
    by_cases h : y = 0
    · exact ⟨1, by omega, by omega⟩
    · exact ⟨0, by omega, h⟩
  refine bad_len (i := y) (j := j) (p := q) (q := ps[j]) (by rw [List.getElem?_set_self hy]) (by rw [List.getElem?_set_ne hjy]; exact List.getElem?_eq_getElem hj) ?_
  rw [hw _ (List.getElem_mem hj)]
  exact hq
theorem el_mapLS {K : PySem.W.Frag} {σ : L2.St} {H : Hp} {te tl : TE} {a : Addr} {ns : List Str} {j : Nat} {vs : List Nat} (g : Str → V) (h : Ev tl σ H (.ref a)) (hx : SqL K H a (ns.map V.str)) (hz : ns.length ≤ 40000) (hw : ∀ x, wipe ((wipe σ vs).set j (some x)) vs = wipe σ vs)
    (he : ∀ (x : Str), x ∈ ns → Ev te ((wipe σ vs).set j (some (.str x))) H (g x)) : EvL (tLc (iList K tl) (gName j) tYes te vs) σ H (ns.map g) := by
  have := el_lcL (t := tYes) (te := te) (fun _ => true) (fun i : Nat => g (ns.getD i ("" : Str))) h hx (by rw [List.length_map]; exact hz) hw (fun _ _ _ _ _ => et_yes) (fun i x H1 e hi _ => by
    rw [List.getElem?_map] at hi
    obtain ⟨s, hs, rfl⟩ := Option.map_eq_some_iff.mp hi
    have : ns.getD i ("" : Str) = s := by rw [List.getD_eq_getElem?_getD, hs]; rfl
    rw [this]
    exact (he s (List.mem_of_getElem? hs)).mono e)
  rw [given_all, List.length_map] at this
  refine el_is this (List.ext_getElem (by simp) fun i h1 h2 => ?_)
  simp only [List.length_map, List.length_range] at h1
  simp [h1]
theorem ev_joinV {K : PySem.W.Frag} {σ : L2.St} {H : Hp} {to te : TE} {a : Str} {p : Addr} {ys : List Str} (ho : Ev to σ H (.str a)) (he : Ev te σ H (.ref p)) (hs : SqL K H p (ys.map V.str)) (h : (ys.map (·.length)).sum + ys.length * a.length ≤ 16777216) :
    Ev (tM1 (fun x xs H Q => ∃ a p, ∃ ys : List Str, x = V.str a ∧ xs = [.ref p] ∧ (SqL K H p (ys.map V.str) ∨ SqT K H p (ys.map V.str)) ∧ (ys.map (·.length)).sum + ys.length * a.length ≤ 16777216 ∧ Q (.str (Txt.join a ys)) H) to te) σ H (.str (Txt.join a ys)) :=
  fun H1 e Q q => ho H1 e _ fun H2 e2 => ⟨⟨a, rfl⟩, he H2 (e.trans e2) _ fun H3 e3 => ⟨a, p, ys, rfl, rfl, .inl (ex_l (e.trans (e2.trans e3)) hs), h, q H3 (e2.trans e3)⟩⟩
theorem cutV_one (xs : List V) : cutV xs none (some 1) = xs.take 1 := by
  have e : HT.sIx xs.length xs.length (some 1) = min 1 xs.length := HT.sIx_nat _ _ 1
  unfold cutV
  rw [e]
  show (xs.drop 0).take (min 1 xs.length - 0) = _
  rw [List.drop_zero, Nat.sub_zero]
  cases xs with
  | nil => rfl
  | cons x xs => rw [Nat.min_eq_left (by simp)]
/-- a list of rows that are no board -/
def BadL (c : Int) (v : V) (H : Hp) : Prop := ∃ q bs, v = .ref q ∧ H q = some (.lst (bs.map V.str)) ∧ RowsOk bs ∧ BadRows c bs
theorem badL_mono (c : Int) : Mono (BadL c) := fun v H H' e ⟨q, bs, h1, h2, h3⟩ => ⟨q, bs, h1, e _ _ h2, h3⟩
theorem badL_of {c : Int} {σ : L2.St} {H : Hp} {te : TE} {bs : List Str} {xs : List V} (h : EvL te σ H xs) (e : xs = bs.map V.str) (ok : RowsOk bs) (bad : BadRows c bs) : EvP te σ H (BadL c) := by
  subst e
  exact ep_L h fun p H1 _ hp => ⟨p, bs, rfl, hp, ok, bad⟩
def sp__law_bad_board (K : PySem.W.Frag) : Sp := fun vs H Q _ => ∃ (a : Addr) (ps : List Str) (w : Nat) (c cell : Int), vs = [.ref a, .int c, .int cell] ∧ SqL K H a (ps.map V.str) ∧ 2 ≤ c ∧ c ≤ 3 ∧ 2 ≤ ps.length ∧ ps.length ≤ 6 ∧ ps.length % 2 = 0 ∧ 2 ≤ w ∧ w ≤ 6 ∧ (∀ p ∈ ps, p.length = w ∧ 10 ∉ TL.tl p) ∧ RetP (TxtB c) H Q
set_option maxHeartbeats 1000000 in
theorem cal__law_bad_board {P : Program} {w : World} {K : PySem.W.Frag} {mg : Str → Option Value} {base : Heap} {f : Addr} {fd : FuncData} (Bt : Bl mg) (D : DefAt K mg "_law_bad_board" s__law_bad_board ["rows", "colours", "cell"] f fd)  :
    CalE P w K mg base CX0 1 "_law_bad_board" ["rows", "colours", "cell"] (sp__law_bad_board K) := by
  refine ⟨f, fd, D.F.ok sc__law_bad_board (fun vs H Q E h => ?_) (fun cdv A outer s H vs Q E hRm h => ?_), D.g, D.F.kp, D.b⟩
  · obtain ⟨a, ps, w, c, cell, rfl, _⟩ := h; rfl
  · obtain ⟨a, ps, w, c, cell, rfl, hS, c0, c1, h2, h6, hev, w2, w6, hps, q⟩ := h
    have hz : (16777216 : Nat) ≤ sizeLine := by rw [sizeLine_eq]; exact Nat.le_refl _
    have hpl : (ps.map V.str).length = ps.length := List.length_map ..
    have okp : RowsOk ps := ⟨by omega, fun p hp => ⟨(hps p hp).2, by have := (hps p hp).1; omega⟩⟩
    refine ⟨_, (pss_cons (ps_set (i := 3) sc__law_bad_board.nd rfl (Or.inl rfl) (pe_op op_mod (pv 2) pe_int))
 (pss_cons (ps_set (i := 4) sc__law_bad_board.nd rfl (Or.inl rfl) (pe_op op_mod (pe_op op_fdiv (pv 2) pe_int) (pe_callB (call_lenK (K := K) rfl) (by rfl) Bt.len_ (by decide +kernel) (pa_cons (pv 0) pa_nil))))
 (pss_cons (ps_set (i := 5) sc__law_bad_board.nd rfl (Or.inl rfl) (pe_op op_mod (pe_op op_fdiv (pv 2) pe_int) (pe_op op_add (pe_callB call_len_str (by rfl) Bt.len_ (by decide +kernel) (pa_cons (pe_ix (ix_listK (K := K) rfl) (pv 0) (pv 4) (fun _ _ => rfl)) pa_nil)) pe_int)))
 (pss_cons (ps_set (i := 6) sc__law_bad_board.nd rfl (Or.inl rfl) (pe_callTy (call_listK (K := K) rfl) (by rfl) Bt.list_ (by decide +kernel) (pa_cons (pv 0) pa_nil)))
 (pss_cut (ps_if (pt_cmpR op_eq (pv 3) pe_int (nomark _)) (pss_cons (ps_set (i := 7) sc__law_bad_board.nd rfl (Or.inl rfl) (pe_ix (ix_listK (K := K) rfl) (pe_lst (pa_cons (pe_callTy call_str_int (by rfl) Bt.str_ (by decide +kernel) (pa_cons (pv 1) pa_nil)) (pa_cons pe_str (pa_cons pe_str (pa_cons pe_str (pa_cons pe_str (pa_cons pe_str (pa_cons pe_str (pa_cons pe_str pa_nil))))))))) (pe_op op_mod (pe_op op_fdiv (pv 2) pe_int) pe_int) (fun _ _ => rfl)))
 (pss_one (ps_asg (pe_op op_add_str (pe_op op_add_str (pe_slice sl_str (pe_ix (ix_listK (K := K) rfl) (pv 6) (pv 4) (fun _ _ => rfl)) po_none (po_some (pv 5))) (pv 7)) (pe_slice sl_str (pe_ix (ix_listK (K := K) rfl) (pv 6) (pv 4) (fun _ _ => rfl)) (po_some (pv 5)) po_none)) (pg_sub (pv 6) (pv 4) set_list)))) (pss_one (ps_if (pt_cmpR op_eq (pv 3) pe_int (nomark _)) (pss_one (ps_asg (pe_op op_add_str (pe_op op_add_str (pe_slice sl_str (pe_ix (ix_listK (K := K) rfl) (pv 6) (pv 4) (fun _ _ => rfl)) po_none (po_some (pv 5))) pe_str) (pe_slice sl_str (pe_ix (ix_listK (K := K) rfl) (pv 6) (pv 4) (fun _ _ => rfl)) (po_some (pv 5)) po_none)) (pg_sub (pv 6) (pv 4) set_list))) (pss_one (ps_if (pt_cmpR op_eq (pv 3) pe_int (nomark _)) (pss_one (ps_set (i := 6) sc__law_bad_board.nd rfl (Or.inl rfl) (pe_ix (ix_listK (K := K) rfl) (pe_lst (pa_cons (pe_slice (sl_listK (K := K) rfl) (pv 6) po_none (po_some (pe_un un_neg pe_int))) (pa_cons (pe_op op_cat (pv 6) (pe_slice (sl_listK (K := K) rfl) (pv 6) po_none (po_some pe_int))) (pa_cons (pe_lst pa_nil) (pa_cons (pe_lst (pa_cons pe_str (pa_cons pe_str pa_nil))) (pa_cons (pe_op op_cat (pv 6) (pe_lst (pa_cons pe_str pa_nil))) pa_nil)))))) (pe_op op_mod (pe_op op_fdiv (pv 2) pe_int) pe_int) (fun _ _ => rfl)))) (pss_one (ps_if (pt_cmpR op_eq (pv 3) pe_int (nomark _)) (pss_one (ps_ret (pe_joinK (K := K) rfl pe_str (pv 6)))) (pss_one (ps_if (pt_cmpR op_eq (pv 3) pe_int (nomark _)) (pss_cons (ps_set (i := 5) sc__law_bad_board.nd rfl (Or.inl rfl) (pe_op op_mod (pe_op op_fdiv (pv 2) pe_int) (pe_callB call_len_str (by rfl) Bt.len_ (by decide +kernel) (pa_cons (pe_ix (ix_listK (K := K) rfl) (pv 0) (pv 4) (fun _ _ => rfl)) pa_nil))))
 (pss_one (ps_asg (pe_op op_add_str (pe_op op_add_str (pe_slice sl_str (pe_ix (ix_listK (K := K) rfl) (pv 6) (pv 4) (fun _ _ => rfl)) po_none (po_some (pv 5))) (pe_ix (ix_listK (K := K) rfl) (pe_lst (pa_cons (pe_callTy call_str_int (by rfl) Bt.str_ (by decide +kernel) (pa_cons (pv 1) pa_nil)) (pa_cons pe_str (pa_cons pe_str (pa_cons pe_str (pa_cons pe_str (pa_cons (pe_callTy call_str_int (by rfl) Bt.str_ (by decide +kernel) (pa_cons (pv 1) pa_nil)) pa_nil))))))) (pe_op op_mod (pe_op op_fdiv (pv 2) pe_int) pe_int) (fun _ _ => rfl))) (pe_slice sl_str (pe_ix (ix_listK (K := K) rfl) (pv 6) (pv 4) (fun _ _ => rfl)) (po_some (pe_op op_add (pv 5) pe_int)) po_none)) (pg_sub (pv 6) (pv 4) set_list)))) (pss_one (ps_asg (pe_slice sl_str (pe_ix (ix_listK (K := K) rfl) (pv 6) (pv 4) (fun _ _ => rfl)) po_none (po_some (pe_un un_neg pe_int))) (pg_sub (pv 6) (pv 4) set_list))))))))))))
 (pss_one (ps_ret (pe_joinK (K := K) rfl pe_str (pe_lc (own := [("row", 8)]) (g := gName 8) (by rfl) sc__law_bad_board.nd (pi_listK (K := K) rfl (pv 6)) (blkOk_by (own := [("row", 8)]) (N := ["rows", "colours", "cell", "way", "y", "at", "bad", "sign", "row"]) (sc := defScope s__law_bad_board) (by decide +kernel)) (fun _ _ _ _ _ => pg_name (i := 8) sc__law_bad_board.nd rfl (Or.inl rfl)) (fun _ _ _ _ _ => pts_nil) (fun _ _ _ _ _ => (pe_op op_add_str (pv 8) pe_str))))))))))), Go.at ?_⟩
    refine go_asg (v := .int (cell % 6)) (by walk_at "ev") ?_
    have y0 := Int.emod_nonneg (cell / 6) (show (ps.length : Int) ≠ 0 by omega)
    have y1 := Int.emod_lt_of_pos (cell / 6) (show (0 : Int) < (ps.length : Int) by omega)
    refine go_asg (v := .int (cell / 6 % (ps.length : Int))) (ev_op (by walk_at "ev") (ev_is (ev_lenL (ev_var rfl) hS) (by rw [hpl])) (rv_mod (by omega))) ?_
    obtain ⟨y, hy⟩ := Int.eq_ofNat_of_zero_le y0
    rw [hy] at y1 ⊢
    have hyl : y < ps.length := by omega
    obtain ⟨hpw, hpn⟩ := hps _ (List.getElem_mem hyl)
    have hyx : atI (ps.map V.str) (y : Int) = some (.str ps[y]) := atI_nat (by rw [List.getElem?_map, List.getElem?_eq_getElem hyl]; rfl)
    have hset : ∀ s : Str, (ps.map V.str).set (y : Int).toNat (.str s) = (ps.set y s).map V.str := fun s => by rw [Int.toNat_natCast, List.map_set]
    have hself : ∀ s : Str, (ps.set y s)[y]? = some s := fun s => List.getElem?_set_self hyl
    have hwid : ∀ p ∈ ps, p.length = w := fun p hp => (hps p hp).1
    generalize ps[y] = p at *
    have a0 := Int.emod_nonneg (cell / 48) (show ((w : Int) + 1) ≠ 0 by omega)
    have a1 := Int.emod_lt_of_pos (cell / 48) (show (0 : Int) < (w : Int) + 1 by omega)
    refine go_asg (v := .int (cell / 48 % ((w : Int) + 1))) (ev_op (by walk_at "ev") (ev_op (ev_is (ev_lenS (ev_ixL (ev_var rfl) (ev_var rfl) hS hyx) (by omega)) (by rw [hpw])) ev_c rv_I0) (rv_mod (by omega))) ?_
    obtain ⟨at_, hat⟩ := Int.eq_ofNat_of_zero_le a0
    rw [hat] at a1 ⊢
    have hal : at_ ≤ p.length := by omega
    refine go_asgL (el_list (ev_var rfl) hS) fun b H1 hb e1 h1 => ?_
    have hS1 := ex_l e1 hS
    have hb1 := sq_of (K := K) h1
    refine go_cutIfd (p := cell % 6 = 0) (fun σ' H' => ∃ (bs : List Str) (pb : Addr) (y5 y7 : Option V), σ' = [some (.ref a), some (.int c), some (.int cell), some (.int (cell % 6)), some (.int (y : Int)), y5, some (.ref pb), y7, none] ∧ Ex H H' ∧ SqL K H' pb (bs.map V.str) ∧ RowsOk bs ∧ BadRows c bs) (by walk_at "et") (fun _ => ?_) (fun _ => ?_) (fun σ' H2 ⟨bs, pb, y5, y7, hσ, e2, hbs, okb, bad⟩ => ?_)
    · -- a sign put in
      have k0 := Int.emod_nonneg (cell / 500) (show (8 : Int) ≠ 0 by decide)
      have k1 := Int.emod_lt_of_pos (cell / 500) (show (0 : Int) < 8 by decide)
      obtain ⟨l1, l2, l3, l4, l5, l6, l7⟩ := sg_lit c1
      refine go_asgP (P := fun v _ => SgP c v) ?_ fun v H2 e2 ⟨s, d, hv, hs1, hs2, hs3⟩ => ?_
      · obtain ⟨x, hx, hxe⟩ := ev_pick (K := K) (σ := [some (.ref a), some (.int c), some (.int cell), some (.int (cell % 6)), some (.int (y : Int)), some (.int (at_ : Int)), some (.ref b), none, none]) (H := H1) (tb := tOp (rI (fun _ j => 0 < j) fun i j => V.int (i % j)) (tOp (rI CDiv fun i j => V.int (i / j)) (tVar 2) (tC (.int 500))) (tC (.int 8)))
          (el_lst (vs := [.str (toString c : Str), .str ("9" : Str), .str (" " : Str), .str ("-" : Str), .str ("_" : Str), .str ("a" : Str), .str ("+" : Str), .str ("." : Str)]) (ea_cons (ev_strI (ev_var (i := 1) rfl) (by rcases (show c = 2 ∨ c = 3 by omega) with rfl | rfl <;> decide)) (ea_cons ev_c (ea_cons ev_c (ea_cons ev_c (ea_cons ev_c (ea_cons ev_c (ea_cons ev_c (ea_cons ev_c ea_nil)))))))) (by show (8 : Nat) ≤ 100000; decide)) (i := cell / 500 % 8) (fun H2 e2 => by walk_at "ev") k0 k1
        refine ep_of hxe fun _ _ => ?_
        simp only [List.mem_cons, List.not_mem_nil, or_false] at hx
        rcases hx with rfl | rfl | rfl | rfl | rfl | rfl | rfl | rfl
        · exact sg_col c0 c1
        all_goals assumption
      · subst hv
        have sl : s.length = 1 := by rw [TL.len_tl, hs1]; rfl
        have sn : 10 ∉ TL.tl s := by rw [hs1]; simpa using fun z : 10 = d => hs2 z.symm
        have hput := put_tl (s := s) (n := 0) hal
        obtain ⟨g1, g2⟩ := put_ok (s := s) (n := 0) hal hpn sn
        have hb2 := ex_l e2 hb1
        refine gl_setL (v := .str (cutS p none (some (at_ : Int)) ++ s ++ cutS p (some ((at_ + 0 : Nat) : Int)) none)) (e2 _ _ h1) (ev_op (ev_op (ev_slS (ev_ixL (ev_var rfl) (ev_var rfl) hb2 hyx) eo_none (eo_some (ev_var rfl)) (by omega)) (ev_var rfl) (rv_addS ?_)) (ev_slS (ev_ixL (ev_var rfl) (ev_var rfl) hb2 hyx) (eo_some (ev_var rfl)) eo_none (by omega)) (rv_addS ?_)) (ev_var rfl) (ev_var rfl) (by omega) (by omega) fun H3 e3 => fun H4 e4 => ⟨ps.set y _, b, _, _, rfl, ((e1.trans (e2.trans e3)).mut hb).trans e4, sq_of (by rw [← hset]; exact e4 _ _ upd_same), set_ok okp ⟨g1, by omega⟩, bad_sign (hself _) (by rw [hput, hs1]; simp) hs3⟩
        · rw [TL.len_tl, cut_to hal, List.length_take]
          rw [TL.len_tl] at hpw
          omega
        · rw [← len_app]
          have : (cutS p none (some (at_ : Int)) ++ s ++ cutS p (some ((at_ + 0 : Nat) : Int)) none).length ≤ sizeLine := by omega
          exact this
    · refine gl_ifd (p := cell % 6 = 1) (by walk_at "et") (fun _ => ?_) (fun _ => ?_)
      · have sl : ("0" : Str).length = 1 := by decide
        obtain ⟨g1, g2⟩ := put_ok (s := ("0" : Str)) (n := 0) hal hpn (by decide)
        refine gl_setL (v := .str (cutS p none (some (at_ : Int)) ++ ("0" : Str) ++ cutS p (some ((at_ + 0 : Nat) : Int)) none)) h1 (ev_op (ev_op (ev_slS (ev_ixL (ev_var rfl) (ev_var rfl) hb1 hyx) eo_none (eo_some (ev_var rfl)) (by omega)) ev_c (rv_addS ?_)) (ev_slS (ev_ixL (ev_var rfl) (ev_var rfl) hb1 hyx) (eo_some (ev_var rfl)) eo_none (by omega)) (rv_addS ?_)) (ev_var rfl) (ev_var rfl) (by omega) (by omega) fun H3 e3 => fun H4 e4 => ⟨ps.set y _, b, _, _, rfl, ((e1.trans e3).mut hb).trans e4, sq_of (by rw [← hset]; exact e4 _ _ upd_same), set_ok okp ⟨g1, by omega⟩, bad_set hyl h2 hwid (by omega)⟩
        · rw [TL.len_tl, cut_to hal, List.length_take]
          rw [TL.len_tl] at hpw
          omega
        · rw [← len_app]
          have : (cutS p none (some (at_ : Int)) ++ ("0" : Str) ++ cutS p (some ((at_ + 0 : Nat) : Int)) none).length ≤ sizeLine := by omega
          exact this
      · refine gl_ifd (p := cell % 6 = 2) (by walk_at "et") (fun _ => ?_) (fun _ => ?_)
        · refine gl_asgP (P := BadL c) ?_ fun v H2 e2 ⟨q2, bs, hv, h2q, okb, bad⟩ => ?_
          · have k0 := Int.emod_nonneg (cell / 500) (show (5 : Int) ≠ 0 by decide)
            have k1 := Int.emod_lt_of_pos (cell / 500) (show (0 : Int) < 5 by decide)
            refine ep_ixP (Ps := [BadL c, BadL c, BadL c, BadL c, BadL c]) (i := cell / 500 % 5) (ep_lstP (fun P hP => ?_) (eap_consP (badL_mono c) ?_ (eap_consP (badL_mono c) ?_ (eap_consP (badL_mono c) ?_ (eap_consP (badL_mono c) ?_ (eap_consP (badL_mono c) ?_ eap_nilP))))) (by show (5 : Nat) ≤ 1000; decide)) (fun H2 e2 => by walk_at "ev") (badL_mono c) k0 ?_
            · have : P = BadL c := by simpa using hP
              rw [this]
              exact badL_mono c
            · have hne : ps ≠ [] := fun z => by rw [z] at h2; exact absurd h2 (by decide)
              have hdl : ps.dropLast.length = ps.length - 1 := List.length_dropLast
              refine badL_of (bs := ps.dropLast) (el_sl (ev_var rfl) eo_none (eo_some (ev_un ev_c ru_neg)) hb1) ?_ ⟨by omega, fun p hp => okp.each p (List.dropLast_subset _ hp)⟩ (bad_size (.inl (by omega)))
              have e1 : ps.map V.str = ps.dropLast.map V.str ++ [V.str (ps.getLast hne)] := by
                conv => lhs; rw [← List.dropLast_concat_getLast hne]
                rw [List.map_append]
                rfl
              rw [e1]
              exact cut_snoc _ _
            · refine badL_of (bs := ps ++ ps.take 1) (el_cat (ev_var rfl) h1 (el_sl (ev_var rfl) eo_none (eo_some ev_c) hb1) ?_) ?_ ⟨?_, fun p hp => okp.each p ?_⟩ (bad_size (.inl ?_))
              · rw [cutV_one, List.length_take]
                omega
              · rw [cutV_one, List.map_append, List.map_take]
              · rw [List.length_append, List.length_take]
                omega
              · rcases List.mem_append.mp hp with hp | hp
                · exact hp
                · exact List.mem_of_mem_take hp
              · rw [List.length_append, List.length_take]
                omega
            · exact badL_of (bs := []) (el_lst ea_nil (by show (0 : Nat) ≤ 100000; decide)) rfl ⟨by decide, fun p hp => by cases hp⟩ (bad_size (.inr rfl))
            · refine badL_of (bs := [("" : Str), ("" : Str)]) (el_lst (ea_cons ev_c (ea_cons ev_c ea_nil)) (by show (2 : Nat) ≤ 100000; decide)) rfl ⟨by show (2 : Nat) ≤ 20; decide, by decide⟩ (.inr fun g => ?_)
              have := g.w
              revert this
              decide +kernel
            · refine badL_of (bs := ps ++ [("" : Str)]) (el_cat (ev_var rfl) h1 (el_lst (ea_cons ev_c ea_nil) (by show (1 : Nat) ≤ 100000; decide)) ?_) (by rw [List.map_append]; rfl) ⟨?_, fun p hp => ?_⟩ (bad_size (.inl ?_))
              · rw [hpl]
                show ps.length + 1 ≤ 100000
                omega
              · rw [List.length_append]
                show ps.length + 1 ≤ 20
                omega
              · rcases List.mem_append.mp hp with hp | hp
                · exact okp.each p hp
                · rw [List.mem_singleton.mp hp]
                  decide
              · rw [List.length_append]
                show (ps.length + 1) % 2 = 1
                omega
            · rcases (show cell / 500 % 5 = 0 ∨ cell / 500 % 5 = 1 ∨ cell / 500 % 5 = 2 ∨ cell / 500 % 5 = 3 ∨ cell / 500 % 5 = 4 by omega) with h | h | h | h | h <;> rw [h] <;> rfl
          · subst hv
            exact fun H3 e3 => ⟨bs, q2, _, _, rfl, (e1.trans e2).trans e3, sq_of (e3 _ _ h2q), okb, bad⟩
        · refine gl_ifd (p := cell % 6 = 3) (by walk_at "et") (fun _ => ?_) (fun _ => ?_)
          · refine go_ret (ev_joinV ev_c (ev_var rfl) hb1 ?_) fun H2 e2 => q _ H2 (e1.trans e2) ⟨ps, by rw [TL.join_eq], ⟨fun z => by rw [z] at h2; exact absurd h2 (by decide), fun p hp => (hps p hp).2, by omega, ?_, fun p hp => by have := hwid p hp; omega⟩, .inl fun qs z => ?_⟩
            · have := sumTx_le (b := 6) ps fun p hp => by have := hwid p hp; omega
              have e1 : ("\n" : Str).length = 1 := by decide
              rw [e1]
              omega
            · have := joinTx_le (b := 6) ("\n" : Str) ps fun p hp => by have := hwid p hp; omega
              have e1 : ("\n" : Str).length = 1 := by decide
              rw [e1] at this
              omega
            · have := hwid ("" : Str) (by rw [z]; simp)
              have e1 : ("" : Str).length = 0 := by decide
              omega
          · refine gl_ifd (p := cell % 6 = 4) (by walk_at "et") (fun _ => ?_) (fun _ => ?_)
            · have b0 := Int.emod_nonneg (cell / 48) (show (w : Int) ≠ 0 by omega)
              have b1 := Int.emod_lt_of_pos (cell / 48) (show (0 : Int) < (w : Int) by omega)
              have k0 := Int.emod_nonneg (cell / 500) (show (6 : Int) ≠ 0 by decide)
              have k1 := Int.emod_lt_of_pos (cell / 500) (show (0 : Int) < 6 by decide)
              obtain ⟨l1, l2, l3, l4, l5, l6, l7⟩ := sg_lit c1
              refine go_asg (v := .int (cell / 48 % (w : Int))) (ev_op (by walk_at "ev") (ev_is (ev_lenS (ev_ixL (ev_var rfl) (ev_var rfl) hS1 hyx) (by omega)) (by rw [hpw])) (rv_mod (by omega))) ?_
              obtain ⟨at2, hat2⟩ := Int.eq_ofNat_of_zero_le b0
              rw [hat2] at b1 ⊢
              have hal2 : at2 + 1 ≤ p.length := by omega
              obtain ⟨x, hx, hxe⟩ := ev_pick (K := K) (σ := [some (.ref a), some (.int c), some (.int cell), some (.int (cell % 6)), some (.int (y : Int)), some (.int (at2 : Int)), some (.ref b), none, none]) (H := H1) (tb := tOp (rI (fun _ j => 0 < j) fun i j => V.int (i % j)) (tOp (rI CDiv fun i j => V.int (i / j)) (tVar 2) (tC (.int 500))) (tC (.int 6)))
                (el_lst (vs := [.str (toString c : Str), .str ("9" : Str), .str (" " : Str), .str ("-" : Str), .str ("_" : Str), .str (toString c : Str)]) (ea_cons (ev_strI (ev_var (i := 1) rfl) (by rcases (show c = 2 ∨ c = 3 by omega) with rfl | rfl <;> decide)) (ea_cons ev_c (ea_cons ev_c (ea_cons ev_c (ea_cons ev_c (ea_cons (ev_strI (ev_var (i := 1) rfl) (by rcases (show c = 2 ∨ c = 3 by omega) with rfl | rfl <;> decide)) ea_nil)))))) (by show (6 : Nat) ≤ 100000; decide)) (i := cell / 500 % 6) (fun H2 e2 => by walk_at "ev") k0 k1
              obtain ⟨s, d, rfl, hs1, hs2, hs3⟩ : SgP c x := by
                simp only [List.mem_cons, List.not_mem_nil, or_false] at hx
                rcases hx with rfl | rfl | rfl | rfl | rfl | rfl
                · exact sg_col c0 c1
                · exact l1
                · exact l2
                · exact l3
                · exact l4
                · exact sg_col c0 c1
              have sl : s.length = 1 := by rw [TL.len_tl, hs1]; rfl
              have sn : 10 ∉ TL.tl s := by rw [hs1]; simpa using fun z : 10 = d => hs2 z.symm
              have hput := put_tl (s := s) (n := 1) hal2
              obtain ⟨g1, g2⟩ := put_ok (s := s) (n := 1) hal2 hpn sn
              refine gl_setL (v := .str (cutS p none (some (at2 : Int)) ++ s ++ cutS p (some ((at2 + 1 : Nat) : Int)) none)) h1 (ev_op (ev_op (ev_slS (ev_ixL (ev_var rfl) (ev_var rfl) hb1 hyx) eo_none (eo_some (ev_var rfl)) (by omega)) hxe (rv_addS ?_)) (ev_slS (ev_ixL (ev_var rfl) (ev_var rfl) hb1 hyx) (eo_some (ev_is (v := .int ((at2 : Int) + 1)) (ev_op (ev_var rfl) ev_c rv_I0) rfl)) eo_none (by omega)) (rv_addS ?_)) (ev_var rfl) (ev_var rfl) (by omega) (by omega) fun H3 e3 => fun H4 e4 => ⟨ps.set y _, b, _, _, rfl, ((e1.trans e3).mut hb).trans e4, sq_of (by rw [← hset]; exact e4 _ _ upd_same), set_ok okp ⟨g1, by omega⟩, bad_sign (hself _) (by rw [hput, hs1]; simp) hs3⟩
              · rw [TL.len_tl, cut_to (by omega), List.length_take]
                rw [TL.len_tl] at hpw
                omega
              · rw [← len_app]
                have : (cutS p none (some (at2 : Int)) ++ s ++ cutS p (some ((at2 + 1 : Nat) : Int)) none).length ≤ sizeLine := by omega
                exact this
            · have ql : (cutS p none (some (-1))).length = w - 1 := by
                rw [TL.len_tl, cut_last, List.length_take]
                rw [TL.len_tl] at hpw
                rw [TL.len_tl]
                omega
              refine gl_setL (v := .str (cutS p none (some (-1)))) h1 (ev_slS (ev_ixL (ev_var rfl) (ev_var rfl) hb1 hyx) eo_none (eo_some (ev_un ev_c ru_neg)) (by omega)) (ev_var rfl) (ev_var rfl) (by omega) (by omega) fun H3 e3 => fun H4 e4 => ⟨ps.set y _, b, _, _, rfl, ((e1.trans e3).mut hb).trans e4, sq_of (by rw [← hset]; exact e4 _ _ upd_same), set_ok okp ⟨?_, by omega⟩, bad_set hyl h2 hwid (by omega)⟩
              rw [cut_last]
              exact fun z => hpn (List.mem_of_mem_take z)
    · subst hσ
      have okl := okb.few
      have hsum := sumTx_le (b := 21) (bs.map fun p => p ++ ("\n" : Str)) fun y hy => by
        obtain ⟨p, hp, rfl⟩ := List.mem_map.mp hy
        have := (okb.each p hp).2
        have e1 : ("\n" : Str).length = 1 := by decide
        rw [len_app, e1]
        omega
      have e0 : ("" : Str).length = 0 := by decide
      refine go_ret (v := .str (Txt.join ("" : Str) (bs.map fun p => p ++ ("\n" : Str)))) (ev_join ev_c (el_is (el_mapLS (K := K) (fun p => V.str (p ++ ("\n" : Str))) (ev_var rfl) hbs (by omega) (fun _ => rfl) fun x hx => ev_op (ev_var rfl) ev_c (rv_addS ?_)) (by rw [List.map_map]; rfl)) ?_) fun H3 e3 => q _ H3 (e2.trans e3) ⟨bs ++ [("" : Str)], by rw [TL.join_eq, ends_join], lns_of okb, .inr ⟨bs, rfl, bad⟩⟩
      · have := (okb.each x hx).2
        have e1 : ("\n" : Str).length = 1 := by decide
        rw [e1]
        omega
      · rw [e0]
        rw [List.length_map] at hsum ⊢
        omega
/-! #### _law_bad_rule -/
def numW (r : List Int) : List Str := r.map fun x => (toString x : Str)
theorem numW_len (r : List Int) : (numW r).length = r.length := List.length_map ..
theorem numW_val : ((List.range 81).all fun n => decide (wordV (toString ((n : Nat) : Int) : Str) = some (n : Int))) = true := by decide +kernel
theorem wordsV_num {r : List Int} (h : ∀ x ∈ r, 0 ≤ x ∧ x < 81) : wordsV (numW r) = r := by
  unfold wordsV numW
  rw [List.map_map]
  conv => rhs; rw [← List.map_id r]
  refine List.map_congr_left fun x hx => ?_
  obtain ⟨h0, h1⟩ := h x hx
  obtain ⟨n, rfl⟩ := Int.eq_ofNat_of_zero_le h0
  have := of_decide_eq_true (List.all_eq_true.mp numW_val n (List.mem_range.mpr (by omega)))
  show (wordV (toString ((n : Nat) : Int) : Str)).getD 0 = _
  rw [this]
  rfl
theorem log81 {i : Int} (h0 : 0 ≤ i) (h1 : i < 81) : i.natAbs.log2 < 1920 := by
  by_cases hz : i.natAbs = 0
  · rw [hz]; decide
  · exact (Nat.log2_lt hz).mpr (Nat.lt_of_lt_of_le (show i.natAbs < 2 ^ 7 by omega) (Nat.pow_le_pow_right (by decide) (by decide)))
structure WdOk (ws : List Str) : Prop where
  ne : ws ≠ []
  few : ws.length ≤ 90
  each : ∀ w ∈ ws, w.length ≤ 3 ∧ 10 ∉ TL.tl w ∧ 32 ∉ TL.tl w
theorem num_ok {r : List Int} (h : ∀ x ∈ r, 0 ≤ x ∧ x < 81) (l0 : 1 ≤ r.length) (l1 : r.length ≤ 81) : WdOk (numW r) := by
  refine ⟨fun z => ?_, by rw [numW_len]; omega, fun w hw => ?_⟩
  · have := numW_len r
    rw [z] at this
    simp only [List.length_nil] at this
    omega
  · obtain ⟨x, hx, rfl⟩ := List.mem_map.mp hw
    obtain ⟨h0, h1⟩ := h x hx
    refine ⟨by have := str_small h0 h1; omega, fun z => ?_, fun z => ?_⟩ <;> have := num_sigs h0 h1 z <;> omega
/-- words that write no rule -/
def BadW (c : Int) (ws : List Str) : Prop := (∃ w ∈ ws, wordV w = none) ∨ ¬ IsRule (n4 c) (wordsV ws)
theorem badW_len {c : Int} {ws : List Str} (h : ws.length ≠ n4 c) : BadW c ws := .inr fun k => h (by
  have := k.len
  unfold wordsV at this
  rwa [List.length_map] at this)
theorem badW_none {c : Int} {ws : List Str} {w : Str} (hw : w ∈ ws) (h : wordV w = none) : BadW c ws := .inl ⟨w, hw, h⟩
theorem badW_big {c : Int} {ws : List Str} {w : Str} (c0 : 2 ≤ c) (c1 : c ≤ 3) (hw : w ∈ ws) (h : wordV w = some 81) : BadW c ws := .inr fun k => by
  have h1 := (k.mem (x := 81)).mp (by
    unfold wordsV
    refine List.mem_map.mpr ⟨w, hw, ?_⟩
    rw [h]
    rfl)
  have := (n4_int c0 c1).2.1
  omega
theorem badW_twice {c : Int} {ws : List Str} {i j : Nat} (hi : i < ws.length) (hj : j < ws.length) (hij : i ≠ j) : BadW c (ws.set i ws[j]) := .inr fun k => by
  have hl : (wordsV (ws.set i ws[j])).length = ws.length := by unfold wordsV; rw [List.length_map, List.length_set]
  have := (List.getElem_inj (h₀ := by omega) (h₁ := by omega) k.nodup (i := i) (j := j)).mp (by
    unfold wordsV
    rw [List.getElem_map, List.getElem_map, List.getElem_set_self, List.getElem_set_ne hij])
  exact hij this
structure HdOk (hd : Str) : Prop where
  nl : 10 ∉ TL.tl hd
  len : hd.length ≤ 10
structure RlBad (hd : Str) (ws : List Str) : Prop where
  w : WdOk ws
  h : HdOk hd
  b : headC hd = none ∨ ∃ c, headC hd = some c ∧ BadW c ws
/-- a text that writes no rule -/
def TxtR (v : V) (_ : Hp) : Prop := ∃ ls, v = .str (Str.join ("\n" : Str) ls) ∧ LnsOk ls ∧ BadR ls
theorem one_nl : ("\n" : Str).length = 1 := by decide
theorem one_sp : (" " : Str).length = 1 := by decide
theorem wd_join {ws : List Str} (ok : WdOk ws) : 10 ∉ TL.tl (Str.join (" " : Str) ws) ∧ (Str.join (" " : Str) ws).length ≤ 360 := by
  refine ⟨fun z => ?_, ?_⟩
  · rcases mem_join z with z | ⟨p, hp, z⟩
    · revert z; decide
    · exact (ok.each p hp).2.1 z
  · have := joinTx_le (b := 3) (" " : Str) ws fun p hp => (ok.each p hp).1
    rw [one_sp] at this
    have := ok.few
    omega
theorem lns_few {ls : List Str} (ne : ls ≠ []) (few : ls.length ≤ 5) (each : ∀ p ∈ ls, 10 ∉ TL.tl p ∧ p.length ≤ 400) : LnsOk ls := by
  refine ⟨ne, fun p hp => (each p hp).1, by omega, ?_, fun p hp => by have := (each p hp).2; omega⟩
  have := joinTx_le (b := 400) ("\n" : Str) ls fun p hp => (each p hp).2
  rw [one_nl] at this
  omega
theorem txtR_end {hd : Str} {ws : List Str} (k : RlBad hd ws) {H : Hp} : TxtR (.str (hd ++ ("\n" : Str) ++ Txt.join (" " : Str) ws ++ ("\n" : Str))) H := by
  obtain ⟨j1, j2⟩ := wd_join k.w
  refine ⟨[hd, Str.join (" " : Str) ws] ++ [("" : Str)], ?_, lns_few (by simp) (by show (3 : Nat) ≤ 5; decide) fun p hp => ?_, .inr ⟨_, rfl, .inr ⟨hd, _, rfl, ?_⟩⟩⟩
  · show _ = V.str (hd ++ ("\n" : Str) ++ (Str.join (" " : Str) ws ++ ("\n" : Str) ++ ("" : Str)))
    rw [app_empty, TL.join_eq, app_assoc _ (Str.join (" " : Str) ws) ("\n" : Str)]
  · simp only [List.mem_append, List.mem_cons, List.not_mem_nil, or_false] at hp
    rcases hp with (rfl | rfl) | rfl
    · exact ⟨k.h.nl, by have := k.h.len; omega⟩
    · exact ⟨j1, by omega⟩
    · decide
  · rcases k.b with h | ⟨c, h, b⟩
    · exact .inl h
    · exact .inr ⟨c, ws, h, rfl, ⟨k.w.ne, fun w hw => (k.w.each w hw).2.2, by have := k.w.few; omega, fun w hw => by have := (k.w.each w hw).1; omega⟩, b⟩
theorem txtR_cut {hd : Str} {ws : List Str} (w : WdOk ws) (h : HdOk hd) (h2 : 2 ≤ ws.length) {H : Hp} : TxtR (.str (hd ++ ("\n" : Str) ++ Txt.join (" " : Str) ws)) H := by
  obtain ⟨j1, j2⟩ := wd_join w
  refine ⟨[hd, Str.join (" " : Str) ws], ?_, lns_few (by simp) (by show (2 : Nat) ≤ 5; decide) fun p hp => ?_, .inl fun ps z => ?_⟩
  · rw [TL.join_eq]
    rfl
  · simp only [List.mem_cons, List.not_mem_nil, or_false] at hp
    rcases hp with rfl | rfl
    · exact ⟨h.nl, by have := h.len; omega⟩
    · exact ⟨j1, by omega⟩
  · have e : Str.join (" " : Str) ws = ("" : Str) := by
      have z2 : [hd] ++ [Str.join (" " : Str) ws] = ps ++ [("" : Str)] := z
      have := List.append_inj_right' z2 rfl
      simpa using this
    match ws, h2 with
    | p :: q :: r, _ =>
      have e2 := congrArg Str.length e
      have e3 : (Str.join (" " : Str) (p :: q :: r)) = p ++ (" " : Str) ++ Str.join (" " : Str) (q :: r) := rfl
      rw [e3, len_app, len_app, one_sp] at e2
      have e0 : ("" : Str).length = 0 := by decide
      omega
/-- a line more -/
def MoreP (v : V) : Prop := ∃ m : Str, v = .str (m ++ ("\n" : Str)) ∧ 10 ∉ TL.tl m ∧ m.length ≤ 5
theorem more_lit : MoreP (.str ("\n" : Str)) ∧ MoreP (.str ("x\n" : Str)) ∧ MoreP (.str (" \n" : Str)) :=
  ⟨⟨("" : Str), rfl, by decide, by decide⟩, ⟨("x" : Str), rfl, by decide, by decide⟩, ⟨(" " : Str), rfl, by decide, by decide⟩⟩
theorem txtR_more {hd m : Str} {ws : List Str} (w : WdOk ws) (h : HdOk hd) (m1 : 10 ∉ TL.tl m) (m2 : m.length ≤ 5) {H : Hp} : TxtR (.str (hd ++ ("\n" : Str) ++ Txt.join (" " : Str) ws ++ ("\n" : Str) ++ (m ++ ("\n" : Str)))) H := by
  obtain ⟨j1, j2⟩ := wd_join w
  refine ⟨[hd, Str.join (" " : Str) ws, m] ++ [("" : Str)], ?_, lns_few (by simp) (by show (4 : Nat) ≤ 5; decide) fun p hp => ?_, .inr ⟨_, rfl, .inl (by show (3 : Nat) ≠ 2; decide)⟩⟩
  · show _ = V.str (hd ++ ("\n" : Str) ++ (Str.join (" " : Str) ws ++ ("\n" : Str) ++ (m ++ ("\n" : Str) ++ ("" : Str))))
    rw [app_empty, TL.join_eq]
    simp only [app_assoc]
  · simp only [List.mem_append, List.mem_cons, List.not_mem_nil, or_false] at hp
    rcases hp with (rfl | rfl | rfl) | rfl
    · exact ⟨h.nl, by have := h.len; omega⟩
    · exact ⟨j1, by omega⟩
    · exact ⟨m1, by omega⟩
    · decide
/-- bad heads, bad words -/
def HeadP (v : V) : Prop := ∃ s : Str, v = .str s ∧ HdOk s ∧ headC s = none
def WordP (v : V) : Prop := ∃ s : Str, v = .str s ∧ (s.length ≤ 3 ∧ 10 ∉ TL.tl s ∧ 32 ∉ TL.tl s) ∧ (wordV s = none ∨ wordV s = some 81)
def headsX : List Str := [("" : Str), ("rule" : Str), ("rule 4" : Str), ("rule 1" : Str), ("Rule 2" : Str), ("rule  2" : Str), ("rule 2 " : Str), (" rule 2" : Str), ("rule 02" : Str), ("rules 2" : Str), ("2" : Str)]
def wordsX : List Str := [("" : Str), ("-1" : Str), ("+1" : Str), ("00" : Str), ("1_0" : Str), ("x" : Str), ("81" : Str), ("100" : Str), ("1.0" : Str), ("-0" : Str), ("1e1" : Str)]
theorem headsX_ok : ∀ s ∈ headsX, 10 ∉ TL.tl s ∧ s.length ≤ 10 ∧ headC s = none := by decide +kernel
theorem wordsX_ok : ∀ s ∈ wordsX, (s.length ≤ 3 ∧ 10 ∉ TL.tl s ∧ 32 ∉ TL.tl s) ∧ (wordV s = none ∨ wordV s = some 81) := by decide +kernel
theorem empty_word : wordV ("" : Str) = none := by decide +kernel
theorem head_col {c : Int} (c0 : 2 ≤ c) (c1 : c ≤ 3) : headC (("rule " : Str) ++ (toString c : Str)) = some c ∧ HdOk (("rule " : Str) ++ (toString c : Str)) := by
  rcases (show c = 2 ∨ c = 3 by omega) with rfl | rfl <;> exact ⟨by decide +kernel, by decide +kernel, by decide +kernel⟩
theorem n4_other {c : Int} (c0 : 2 ≤ c) (c1 : c ≤ 3) : n4 c ≠ n4 (5 - c) := by
  rcases (show c = 2 ∨ c = 3 by omega) with rfl | rfl <;> decide +kernel
theorem ev_pickV {K : PySem.W.Frag} {σ : L2.St} {H : Hp} {ta tb : TE} {p : Addr} {xs : List V} {i : Int} (ha : Ev ta σ H (.ref p)) (hs : SqL K H p xs) (hb : Ev tb σ H (.int i)) (h0 : 0 ≤ i) (h1 : i < (xs.length : Int)) : ∃ x, x ∈ xs ∧ Ev (tOp (rIxL K) ta tb) σ H x := by
  obtain ⟨k, rfl⟩ := Int.eq_ofNat_of_zero_le h0
  have hk : k < xs.length := by omega
  exact ⟨xs[k], List.getElem_mem hk, ev_ixL ha hb hs (atI_nat (List.getElem?_eq_getElem hk))⟩
theorem wd_set {ws : List Str} {i : Nat} {s : Str} (ok : WdOk ws) (h : s.length ≤ 3 ∧ 10 ∉ TL.tl s ∧ 32 ∉ TL.tl s) : WdOk (ws.set i s) := by
  refine ⟨fun z => ok.ne ?_, by rw [List.length_set]; exact ok.few, fun w hw => ?_⟩
  · have := congrArg List.length z
    rw [List.length_set] at this
    exact List.length_eq_zero_iff.mp this
  · rcases List.mem_or_eq_of_mem_set hw with hw | rfl
    · exact ok.each w hw
    · exact h
theorem wd_ins {ws : List Str} {i : Nat} {s : Str} (ok : WdOk ws) (few : ws.length ≤ 81) (h : s.length ≤ 3 ∧ 10 ∉ TL.tl s ∧ 32 ∉ TL.tl s) : WdOk (ws.take i ++ [s] ++ ws.drop i) ∧ (ws.take i ++ [s] ++ ws.drop i).length = ws.length + 1 := by
  have hl : (ws.take i ++ [s] ++ ws.drop i).length = ws.length + 1 := by
    rw [List.length_append, List.length_append, List.length_take, List.length_drop]
    show min i ws.length + 1 + (ws.length - i) = _
    omega
  refine ⟨⟨fun z => ?_, by omega, fun w hw => ?_⟩, hl⟩
  · rw [z] at hl
    simp only [List.length_nil] at hl
    omega
  · rcases List.mem_append.mp hw with hw | hw
    · rcases List.mem_append.mp hw with hw | hw
      · exact ok.each w (List.mem_of_mem_take hw)
      · rw [List.mem_singleton.mp hw]
        exact h
    · exact ok.each w (List.mem_of_mem_drop hw)
theorem wd_pop {ws : List Str} {i : Nat} (ok : WdOk ws) (h2 : 2 ≤ ws.length) (hi : i < ws.length) : WdOk (ws.eraseIdx i) ∧ (ws.eraseIdx i).length = ws.length - 1 := by
  have hl : (ws.eraseIdx i).length = ws.length - 1 := List.length_eraseIdx_of_lt hi
  refine ⟨⟨fun z => ?_, by have := ok.few; omega, fun w hw => ok.each w (List.mem_of_mem_eraseIdx hw)⟩, hl⟩
  rw [z] at hl
  simp only [List.length_nil] at hl
  omega
theorem far_ne {a t n : Int} (a0 : 0 ≤ a) (a1 : a < n) (t0 : 0 ≤ t) (t1 : t < n - 1) : 0 ≤ (a + 1 + t) % n ∧ (a + 1 + t) % n < n ∧ (a + 1 + t) % n ≠ a := by
  refine ⟨Int.emod_nonneg _ (by omega), Int.emod_lt_of_pos _ (by omega), ?_⟩
  rcases (show a + 1 + t < n ∨ n ≤ a + 1 + t by omega) with h | h
  · rw [Int.emod_eq_of_lt (by omega) h]
    omega
  · have : (a + 1 + t) % n = (a + 1 + t - n) % n := by rw [Int.sub_emod_right]
    rw [this, Int.emod_eq_of_lt (by omega) (by omega)]
    omega
theorem ep_pickV {K : PySem.W.Frag} {σ : L2.St} {H : Hp} {ta tb : TE} {p : Addr} {xs : List V} {i : Int} (ha : Ev ta σ H (.ref p)) (hs : SqL K H p xs) (hb : Ev tb σ H (.int i)) (h0 : 0 ≤ i) (h1 : i < (xs.length : Int)) : EvP (tOp (rIxL K) ta tb) σ H fun v _ => v ∈ xs := by
  obtain ⟨x, hx, hxe⟩ := ev_pickV (K := K) ha hs hb h0 h1
  exact ep_of hxe fun _ _ => hx
theorem ep_pickN {K : PySem.W.Frag} {σ : L2.St} {H : Hp} {ta tb : TE} {xs : List V} {i : Int} (ha : EvL ta σ H xs) (hb : ∀ H1, Ex H H1 → Ev tb σ H1 (.int i)) (h0 : 0 ≤ i) (h1 : i < (xs.length : Int)) : EvP (tOp (rIxL K) ta tb) σ H fun v _ => v ∈ xs := by
  obtain ⟨x, hx, hxe⟩ := ev_pick (K := K) ha hb h0 h1
  exact ep_of hxe fun _ _ => hx
theorem gl_setLQ {σ : L2.St} {H : Hp} {te ta tb : TE} {D : Ends} {P : V → Prop} {l : Addr} {xs : List V} {i : Int} (hl : H l = some (.lst xs)) (h : EvP te σ H fun v _ => P v) (ho : Ev ta σ H (.ref l)) (hi : Ev tb σ H (.int i)) (h0 : 0 ≤ i) (h1 : i < (xs.length : Int)) (k : ∀ v H1, Ex H H1 → P v → GoN D σ (upd H1 l (.lst (xs.set i.toNat v)))) :
    Go (tAsg te (gSub ta tb rSetL)) D σ H := fun H1 e => h H1 e _ fun v H2 e2 hp =>
  (gl_setL (te := tC v) ((e.trans e2) _ _ hl) ev_c (ho.mono (e.trans e2)) (hi.mono (e.trans e2)) h0 h1 fun H3 e3 => k v H3 ((e.trans e2).trans e3) hp) H2 (Ex.refl H2)
def sp__law_bad_rule (K : PySem.W.Frag) : Sp := fun vs H Q _ => ∃ (a : Addr) (r : List Int) (c cell : Int), vs = [.ref a, .int c, .int cell] ∧ SqL K H a (r.map V.int) ∧ 2 ≤ c ∧ c ≤ 3 ∧ IsRule (n4 c) r ∧ RetP TxtR H Q
set_option maxHeartbeats 1000000 in
theorem cal__law_bad_rule {P : Program} {w : World} {K : PySem.W.Frag} {mg : Str → Option Value} {base : Heap} {f : Addr} {fd : FuncData} (Bt : Bl mg) (D : DefAt K mg "_law_bad_rule" s__law_bad_rule ["rule", "colours", "cell"] f fd)  :
    CalE P w K mg base CX0 1 "_law_bad_rule" ["rule", "colours", "cell"] (sp__law_bad_rule K) := by
  refine ⟨f, fd, D.F.ok sc__law_bad_rule (fun vs H Q E h => ?_) (fun cdv A outer s H vs Q E hRm h => ?_), D.g, D.F.kp, D.b⟩
  · obtain ⟨a, r, c, cell, rfl, _⟩ := h; rfl
  · obtain ⟨a, r, c, cell, rfl, hS, c0, c1, hr, q⟩ := h
    have hz : (16777216 : Nat) ≤ sizeLine := by rw [sizeLine_eq]; exact Nat.le_refl _
    obtain ⟨hn, hn2, hn3⟩ := n4_int c0 c1
    have hx : ∀ x ∈ r, 0 ≤ x ∧ x < 81 := fun x hx => by have := hr.mem.mp hx; omega
    have hrl := hr.len
    have okw := num_ok hx (by omega) (by omega)
    have hwv := wordsV_num hx
    have hwl := numW_len r
    obtain ⟨hc1, hc2⟩ := head_col c0 c1
    have e5 : ("rule " : Str).length = 5 := by decide
    refine ⟨_, (pss_cons (ps_setLc (i := 3) (own := [("number", 9)]) (g := gName 9) (by rfl) sc__law_bad_rule.nd rfl rfl (sw_true rfl rfl rfl (by decide +kernel)) (pi_listK (K := K) rfl (pv 0)) (blkOk_by (own := [("number", 9)]) (N := ["rule", "colours", "cell", "words", "head", "way", "at", "some", "more", "number"]) (sc := defScope s__law_bad_rule) (by decide +kernel)) (fun _ _ _ _ _ => pg_name (i := 9) sc__law_bad_rule.nd rfl (Or.inl rfl)) (fun _ _ _ _ _ => pts_nil) (fun _ _ _ _ _ => (pe_callTy call_str_int (by rfl) Bt.str_ (by decide +kernel) (pa_cons (pv 9) pa_nil))))
 (pss_cons (ps_set (i := 4) sc__law_bad_rule.nd rfl (Or.inl rfl) (pe_op op_add_str pe_str (pe_callTy call_str_int (by rfl) Bt.str_ (by decide +kernel) (pa_cons (pv 1) pa_nil))))
 (pss_cons (ps_set (i := 5) sc__law_bad_rule.nd rfl (Or.inl rfl) (pe_op op_mod (pv 2) pe_int))
 (pss_cons (ps_set (i := 6) sc__law_bad_rule.nd rfl (Or.inl rfl) (pe_op op_mod (pe_op op_fdiv (pv 2) pe_int) (pe_callB (call_lenK (K := K) rfl) (by rfl) Bt.len_ (by decide +kernel) (pa_cons (pv 3) pa_nil))))
 (pss_cut (ps_if (pt_cmpR op_eq (pv 5) pe_int (nomark _)) (pss_cons (ps_set (i := 7) sc__law_bad_rule.nd rfl (Or.inl rfl) (pe_lst (pa_cons pe_str (pa_cons pe_str (pa_cons pe_str (pa_cons pe_str (pa_cons pe_str (pa_cons pe_str (pa_cons pe_str (pa_cons pe_str (pa_cons pe_str (pa_cons pe_str (pa_cons pe_str pa_nil)))))))))))))
 (pss_one (ps_set (i := 4) sc__law_bad_rule.nd rfl (Or.inl rfl) (pe_ix (ix_listK (K := K) rfl) (pv 7) (pe_op op_mod (pe_op op_fdiv (pv 2) pe_int) (pe_callB (call_lenK (K := K) rfl) (by rfl) Bt.len_ (by decide +kernel) (pa_cons (pv 7) pa_nil))) (fun _ _ => rfl))))) (pss_one (ps_if (pt_cmpR op_eq (pv 5) pe_int (nomark _)) (pss_one (ps_asg (pe_ix (ix_listK (K := K) rfl) (pe_lst (pa_cons pe_str (pa_cons pe_str (pa_cons pe_str (pa_cons pe_str (pa_cons pe_str (pa_cons pe_str (pa_cons pe_str (pa_cons pe_str (pa_cons pe_str (pa_cons pe_str (pa_cons pe_str pa_nil)))))))))))) (pe_op op_mod (pe_op op_fdiv (pv 2) pe_int) pe_int) (fun _ _ => rfl)) (pg_sub (pv 3) (pv 6) set_list))) (pss_one (ps_if (pt_cmpR op_eq (pv 5) pe_int (nomark _)) (pss_one (ps_expr (pe_bm PySem.F.plainAttrs_list PySem.F.slot_list_insert PySem.F.type_list_insert mt_insertS (pv 3) (pa_cons (pv 6) (pa_cons (pe_ix (ix_listK (K := K) rfl) (pv 3) (pv 6) (fun _ _ => rfl)) pa_nil))))) (pss_one (ps_if (pt_cmpR op_eq (pv 5) pe_int (nomark _)) (pss_one (ps_expr (pe_bm PySem.F.plainAttrs_list PySem.F.slot_list_pop PySem.F.type_list_pop mt_popAt (pv 3) (pa_cons (pv 6) pa_nil)))) (pss_one (ps_if (pt_cmpR op_eq (pv 5) pe_int (nomark _)) (pss_one (ps_asg (pe_ix (ix_listK (K := K) rfl) (pv 3) (pe_op op_mod (pe_op op_add (pe_op op_add (pv 6) pe_int) (pe_op op_mod (pe_op op_fdiv (pv 2) pe_int) (pe_op op_sub (pe_callB (call_lenK (K := K) rfl) (by rfl) Bt.len_ (by decide +kernel) (pa_cons (pv 3) pa_nil)) pe_int))) (pe_callB (call_lenK (K := K) rfl) (by rfl) Bt.len_ (by decide +kernel) (pa_cons (pv 3) pa_nil))) (fun _ _ => rfl)) (pg_sub (pv 3) (pv 6) set_list))) (pss_one (ps_if (pt_cmpR op_eq (pv 5) pe_int (nomark _)) (pss_one (ps_ret (pe_op op_add_str (pe_op op_add_str (pv 4) pe_str) (pe_joinK (K := K) rfl pe_str (pv 3))))) (pss_one (ps_if (pt_cmpR op_eq (pv 5) pe_int (nomark _)) (pss_one (ps_expr (pe_bm PySem.F.plainAttrs_list PySem.F.slot_list_insert PySem.F.type_list_insert mt_insertS (pv 3) (pa_cons (pe_op op_mod (pe_op op_fdiv (pv 2) pe_int) (pe_op op_add (pe_callB (call_lenK (K := K) rfl) (by rfl) Bt.len_ (by decide +kernel) (pa_cons (pv 3) pa_nil)) pe_int)) (pa_cons pe_str pa_nil))))) (pss_one (ps_if (pt_cmpR op_eq (pv 5) pe_int (nomark _)) (pss_one (ps_set (i := 4) sc__law_bad_rule.nd rfl (Or.inl rfl) (pe_op op_add_str pe_str (pe_callTy call_str_int (by rfl) Bt.str_ (by decide +kernel) (pa_cons (pe_op op_sub pe_int (pv 1)) pa_nil))))) (pss_cons (ps_set (i := 8) sc__law_bad_rule.nd rfl (Or.inl rfl) (pe_ix (ix_listK (K := K) rfl) (pe_lst (pa_cons pe_str (pa_cons pe_str (pa_cons pe_str pa_nil)))) (pe_op op_mod (pe_op op_fdiv (pv 2) pe_int) pe_int) (fun _ _ => rfl)))
 (pss_one (ps_ret (pe_op op_add_str (pe_op op_add_str (pe_op op_add_str (pe_op op_add_str (pv 4) pe_str) (pe_joinK (K := K) rfl pe_str (pv 3))) pe_str) (pv 8))))))))))))))))))))
 (pss_one (ps_ret (pe_op op_add_str (pe_op op_add_str (pe_op op_add_str (pv 4) pe_str) (pe_joinK (K := K) rfl pe_str (pv 3))) pe_str)))))))), Go.at ?_⟩
    refine go_asgL (xs := (numW r).map V.str) (el_is (el_mapL (K := K) (fun x => V.str (toString x)) (ev_var rfl) hS (by omega) (fun _ => rfl) (fun x hxm => ev_strI (ev_var rfl) (log81 (hx x hxm).1 (hx x hxm).2))) (by unfold numW; rw [List.map_map]; rfl)) fun b H1 hb e1 h1 => ?_
    have hb1 := sq_of (K := K) h1
    generalize hws : numW r = ws at *
    have hpl : (ws.map V.str).length = ws.length := List.length_map ..
    refine go_asg (v := .str (("rule " : Str) ++ (toString c : Str))) (ev_op ev_c (ev_strI (ev_var rfl) (log81 (by omega) (by omega))) (rv_addS (by have := str_small (i := c) (by omega) (by omega); rw [e5]; omega))) ?_
    generalize hhd : ("rule " : Str) ++ (toString c : Str) = hd at *
    refine go_asg (v := .int (cell % 9)) (by walk_at "ev") ?_
    have a0 := Int.emod_nonneg (cell / 9) (show (ws.length : Int) ≠ 0 by omega)
    have a1 := Int.emod_lt_of_pos (cell / 9) (show (0 : Int) < (ws.length : Int) by omega)
    refine go_asg (v := .int (cell / 9 % (ws.length : Int))) (ev_op (by walk_at "ev") (ev_is (ev_lenL (ev_var rfl) hb1) (by rw [hpl])) (rv_mod (by omega))) ?_
    obtain ⟨at_, hat⟩ := Int.eq_ofNat_of_zero_le a0
    rw [hat] at a1 ⊢
    have hal : at_ < ws.length := by omega
    have hax : atI (ws.map V.str) (at_ : Int) = some (.str ws[at_]) := atI_nat (by rw [List.getElem?_map, List.getElem?_eq_getElem hal]; rfl)
    have hset : ∀ s : Str, (ws.map V.str).set (at_ : Int).toNat (.str s) = (ws.set at_ s).map V.str := fun s => by rw [Int.toNat_natCast, List.map_set]
    have hhl := hc2.len
    have hsum := sumTx_le (b := 3) ws fun p hp => (okw.each p hp).1
    obtain ⟨j1, j2⟩ := wd_join okw
    rw [← TL.join_eq] at j2
    refine go_cutIfd (p := cell % 9 = 0) (fun σ' H' => ∃ (ws : List Str) (hd : Str) (y7 y8 : Option V), σ' = [some (.ref a), some (.int c), some (.int cell), some (.ref b), some (.str hd), some (.int (cell % 9)), some (.int (at_ : Int)), y7, y8, none] ∧ Ex H H' ∧ SqL K H' b (ws.map V.str) ∧ RlBad hd ws) (by walk_at "et") (fun _ => ?_) (fun _ => ?_) (fun σ' H2 ⟨ws, hd, y7, y8, hσ, e2, hbs, bad⟩ => ?_)
    · refine go_asgL (xs := headsX.map V.str) (el_lst (ea_cons ev_c (ea_cons ev_c (ea_cons ev_c (ea_cons ev_c (ea_cons ev_c (ea_cons ev_c (ea_cons ev_c (ea_cons ev_c (ea_cons ev_c (ea_cons ev_c (ea_cons ev_c ea_nil))))))))))) (by show (11 : Nat) ≤ 100000; decide)) fun p H2 hp2 e2 h2 => ?_
      have hp3 := sq_of (K := K) h2
      have h11 : (0 : Int) < ((headsX.map V.str).length : Int) := by decide
      refine gl_asgP (ep_pickV (ev_var rfl) hp3 (ev_op (by walk_at "ev") (ev_lenL (ev_var rfl) hp3) (rv_mod h11)) (Int.emod_nonneg (cell / 700) (by omega)) (Int.emod_lt_of_pos (cell / 700) h11)) fun v H3 e3 hv => ?_
      obtain ⟨s, hs, rfl⟩ := List.mem_map.mp hv
      obtain ⟨s1, s2, s3⟩ := headsX_ok s hs
      exact fun H4 e4 => ⟨ws, s, _, _, rfl, ((e1.trans e2).trans e3).trans e4, ex_l ((e2.trans e3).trans e4) hb1, okw, ⟨s1, s2⟩, .inl s3⟩
    · refine gl_ifd (p := cell % 9 = 1) (by walk_at "et") (fun _ => ?_) (fun _ => ?_)
      · refine gl_setLQ (P := fun v => v ∈ wordsX.map V.str) h1 (ep_pickN (el_lst (ea_cons ev_c (ea_cons ev_c (ea_cons ev_c (ea_cons ev_c (ea_cons ev_c (ea_cons ev_c (ea_cons ev_c (ea_cons ev_c (ea_cons ev_c (ea_cons ev_c (ea_cons ev_c ea_nil))))))))))) (by show (11 : Nat) ≤ 100000; decide)) (i := cell / 700 % 11) (fun H2 e2 => by walk_at "ev") (Int.emod_nonneg _ (by decide)) (Int.emod_lt_of_pos _ (by decide))) (ev_var rfl) (ev_var rfl) (by omega) (by omega) fun v H2 e2 hv => ?_
        obtain ⟨s, hs, rfl⟩ := List.mem_map.mp hv
        obtain ⟨s1, s2⟩ := wordsX_ok s hs
        have hm : s ∈ ws.set at_ s := List.mem_of_getElem? (List.getElem?_set_self hal)
        exact fun H4 e4 => ⟨ws.set at_ s, hd, _, _, rfl, ((e1.trans e2).mut hb).trans e4, sq_of (by rw [← hset]; exact e4 _ _ upd_same), wd_set okw s1, hc2, .inr ⟨c, hc1, s2.elim (badW_none hm) (badW_big c0 c1 hm)⟩⟩
      · refine gl_ifd (p := cell % 9 = 2) (by walk_at "et") (fun _ => ?_) (fun _ => ?_)
        · obtain ⟨g1, g2⟩ := wd_ins (i := at_) okw (by omega) (okw.each _ (List.getElem_mem hal))
          exact gl_insAt h1 (ev_var rfl) (ev_var rfl) (ev_ixL (ev_var rfl) (ev_var rfl) hb1 hax) (by omega) (by omega) (by omega) fun H2 e2 => fun H3 e3 => ⟨ws.take at_ ++ [ws[at_]] ++ ws.drop at_, hd, _, _, rfl, ((e1.trans e2).mut hb).trans e3, sq_of (by
            have := e3 _ _ (upd_same (H := H2) (a := b) (o := .lst ((ws.map V.str).take (at_ : Int).toNat ++ [V.str ws[at_]] ++ (ws.map V.str).drop (at_ : Int).toNat)))
            rw [Int.toNat_natCast] at this
            rw [List.map_append, List.map_append, List.map_take, List.map_drop]
            exact this), g1, hc2, .inr ⟨c, hc1, badW_len (by omega)⟩⟩
        · refine gl_ifd (p := cell % 9 = 3) (by walk_at "et") (fun _ => ?_) (fun _ => ?_)
          · obtain ⟨g1, g2⟩ := wd_pop (i := at_) okw (by omega) hal
            exact gl_popAt h1 (ev_var rfl) (ev_var rfl) (by omega) (by omega) (by omega) fun H2 e2 => fun H3 e3 => ⟨ws.eraseIdx at_, hd, _, _, rfl, ((e1.trans e2).mut hb).trans e3, sq_of (by
              have := e3 _ _ (upd_same (H := H2) (a := b) (o := .lst ((ws.map V.str).eraseIdx (at_ : Int).toNat)))
              rw [Int.toNat_natCast, List.eraseIdx_eq_take_drop_succ] at this
              rw [List.eraseIdx_eq_take_drop_succ, List.map_append, List.map_take, List.map_drop]
              exact this), g1, hc2, .inr ⟨c, hc1, badW_len (by omega)⟩⟩
          · refine gl_ifd (p := cell % 9 = 4) (by walk_at "et") (fun _ => ?_) (fun _ => ?_)
            · have t0 := Int.emod_nonneg (cell / 700) (show (ws.length : Int) - 1 ≠ 0 by omega)
              have t1 := Int.emod_lt_of_pos (cell / 700) (show (0 : Int) < (ws.length : Int) - 1 by omega)
              obtain ⟨f0, f1, f2⟩ := far_ne (a := (at_ : Int)) (n := (ws.length : Int)) (by omega) a1 t0 t1
              obtain ⟨j, hj⟩ := Int.eq_ofNat_of_zero_le f0
              have hjl : j < ws.length := by omega
              have hjx : atI (ws.map V.str) (((at_ : Int) + 1 + cell / 700 % ((ws.length : Int) - 1)) % (ws.length : Int)) = some (.str ws[j]) := by
                rw [hj]
                exact atI_nat (by rw [List.getElem?_map, List.getElem?_eq_getElem hjl]; rfl)
              exact gl_setL (v := .str ws[j]) h1 (ev_ixL (ev_var rfl) (ev_op (ev_op (ev_op (ev_var rfl) ev_c rv_I0) (ev_op (by walk_at "ev") (ev_op (ev_is (ev_lenL (ev_var rfl) hb1) (by rw [hpl])) ev_c rv_I0) (rv_mod (by omega))) rv_I0) (ev_is (ev_lenL (ev_var rfl) hb1) (by rw [hpl])) (rv_mod (by omega))) hb1 hjx) (ev_var rfl) (ev_var rfl) (by omega) (by omega) fun H2 e2 => fun H4 e4 => ⟨ws.set at_ ws[j], hd, _, _, rfl, ((e1.trans e2).mut hb).trans e4, sq_of (by rw [← hset]; exact e4 _ _ upd_same), wd_set okw (okw.each _ (List.getElem_mem hjl)), hc2, .inr ⟨c, hc1, badW_twice hal hjl (by omega)⟩⟩
            · refine gl_ifd (p := cell % 9 = 5) (by walk_at "et") (fun _ => ?_) (fun _ => ?_)
              · refine go_ret (v := .str (hd ++ ("\n" : Str) ++ Txt.join (" " : Str) ws)) (ev_op (ev_op (ev_var rfl) ev_c (rv_addS ?_)) (ev_joinV ev_c (ev_var rfl) hb1 ?_) (rv_addS ?_)) fun H3 e3 => q _ H3 (e1.trans e3) (txtR_cut okw hc2 (by omega))
                · rw [one_nl]; omega
                · rw [one_sp]; omega
                · rw [len_app, one_nl]; omega
              · refine gl_ifd (p := cell % 9 = 7) (by walk_at "et") (fun _ => ?_) (fun _ => ?_)
                · have i0 := Int.emod_nonneg (cell / 9) (show (ws.length : Int) + 1 ≠ 0 by omega)
                  have i1 := Int.emod_lt_of_pos (cell / 9) (show (0 : Int) < (ws.length : Int) + 1 by omega)
                  obtain ⟨k, hk⟩ := Int.eq_ofNat_of_zero_le i0
                  obtain ⟨g1, g2⟩ := wd_ins (i := k) (s := ("" : Str)) okw (by omega) (by decide)
                  exact gl_insAt (i := (k : Int)) h1 (ev_var rfl) (ev_is (ev_op (by walk_at "ev") (ev_op (ev_is (ev_lenL (ev_var rfl) hb1) (by rw [hpl])) ev_c rv_I0) (rv_mod (by omega))) (by rw [hk])) ev_c (by omega) (by omega) (by omega) fun H2 e2 => fun H3 e3 => ⟨ws.take k ++ [("" : Str)] ++ ws.drop k, hd, _, _, rfl, ((e1.trans e2).mut hb).trans e3, sq_of (by
                    have := e3 _ _ (upd_same (H := H2) (a := b) (o := .lst ((ws.map V.str).take (k : Int).toNat ++ [V.str ("" : Str)] ++ (ws.map V.str).drop (k : Int).toNat)))
                    rw [Int.toNat_natCast] at this
                    rw [List.map_append, List.map_append, List.map_take, List.map_drop]
                    exact this), g1, hc2, .inr ⟨c, hc1, badW_none (w := ("" : Str)) (by simp) empty_word⟩⟩
                · refine gl_ifd (p := cell % 9 = 8) (by walk_at "et") (fun _ => ?_) (fun _ => ?_)
                  · obtain ⟨z1, z2⟩ := head_col (c := 5 - c) (by omega) (by omega)
                    exact gl_asg (v := .str (("rule " : Str) ++ (toString (5 - c) : Str))) (ev_op ev_c (ev_strI (ev_op ev_c (ev_var rfl) rv_I0) (log81 (by omega) (by omega))) (rv_addS (by have := str_small (i := 5 - c) (by omega) (by omega); rw [e5]; omega))) fun H2 e2 => ⟨ws, _, _, _, rfl, e1.trans e2, ex_l e2 hb1, okw, z2, .inr ⟨5 - c, z1, badW_len (by have := n4_other c0 c1; omega)⟩⟩
                  · refine go_asgP (ep_pickN (xs := [.str ("\n" : Str), .str ("x\n" : Str), .str (" \n" : Str)]) (el_lst (ea_cons ev_c (ea_cons ev_c (ea_cons ev_c ea_nil))) (by show (3 : Nat) ≤ 100000; decide)) (i := cell / 700 % 3) (fun H2 e2 => by walk_at "ev") (Int.emod_nonneg _ (by decide)) (Int.emod_lt_of_pos _ (by decide))) fun v H2 e2 hv => ?_
                    obtain ⟨l1, l2, l3⟩ := more_lit
                    obtain ⟨m, rfl, m1, m2⟩ : MoreP v := by
                      simp only [List.mem_cons, List.not_mem_nil, or_false] at hv
                      rcases hv with rfl | rfl | rfl <;> assumption
                    refine go_ret (v := .str (hd ++ ("\n" : Str) ++ Txt.join (" " : Str) ws ++ ("\n" : Str) ++ (m ++ ("\n" : Str)))) (ev_op (ev_op (ev_op (ev_op (ev_var rfl) ev_c (rv_addS ?_)) (ev_joinV ev_c (ev_var rfl) (ex_l e2 hb1) ?_) (rv_addS ?_)) ev_c (rv_addS ?_)) (ev_var rfl) (rv_addS ?_)) fun H3 e3 => q _ H3 ((e1.trans e2).trans e3) (txtR_more okw hc2 m1 m2)
                    · rw [one_nl]; omega
                    · rw [one_sp]; omega
                    · rw [len_app, one_nl]; omega
                    · rw [len_app, len_app, one_nl]; omega
                    · rw [len_app, len_app, len_app, len_app, one_nl]; omega
    · subst hσ
      obtain ⟨k1, k2⟩ := wd_join bad.w
      rw [← TL.join_eq] at k2
      have kf := bad.w.few
      have kh := bad.h.len
      have ks := sumTx_le (b := 3) ws fun p hp => (bad.w.each p hp).1
      refine go_ret (v := .str (hd ++ ("\n" : Str) ++ Txt.join (" " : Str) ws ++ ("\n" : Str))) (ev_op (ev_op (ev_op (ev_var rfl) ev_c (rv_addS ?_)) (ev_joinV ev_c (ev_var rfl) hbs ?_) (rv_addS ?_)) ev_c (rv_addS ?_)) fun H3 e3 => q _ H3 (e2.trans e3) (txtR_end bad)
      · rw [one_nl]; omega
      · rw [one_sp]; omega
      · rw [len_app, one_nl]; omega
      · rw [len_app, len_app, one_nl]; omega
/-! #### law -/
theorem join0_tl : ∀ ps : List Str, TL.tl (Str.join ("" : Str) ps) = (ps.map TL.tl).flatten
  | [] => rfl
  | [p] => by simp [Str.join]
  | p :: q :: r => by
    have ih := join0_tl (q :: r)
    show TL.tl (p ++ ("" : Str) ++ Str.join ("" : Str) (q :: r)) = TL.tl p ++ ((q :: r).map TL.tl).flatten
    rw [app_empty, TL.tl_append, ih]
theorem signs_join (r : List Int) : Txt.join ("" : Str) (r.map fun x => (⟨#[48 + x.toNat]⟩ : Str)) = sgnX r := by
  apply TL.ext_tl
  rw [TL.join_eq, join0_tl, List.map_map, sgn_tl]
  induction r with
  | nil => rfl
  | cons x r ih =>
    rw [List.map_cons, List.flatten_cons, ih]
    rfl
theorem ev_callP {σ : L2.St} {H : Hp} {sp : Sp} {dvs : List V} {E : XK} {ta : TA} {z : V} {R : List V → Hp → Prop} (h : EvAP ta σ H R) (hs : ∀ vs H1, Ex H H1 → R vs H1 → SpV sp (vs ++ dvs) H1 z) : Ev (tCall sp dvs E ta) σ H z :=
  fun H1 e Q q => h H1 e _ fun vs H2 e2 p => hs vs H2 (e.trans e2) p H2 (Ex.refl H2) Q (fun H3 e3 => q H3 (e2.trans e3)) E
theorem dig_ix : ∀ d ∈ [(0 : Int), 1, 2], atI ("012" : Str).cps.toList d = some (48 + d.toNat) := by decide +kernel
theorem row_in {h w : Nat} {c : Int} {f : Int → Int → Int} (hf : Bnd h w c f) (hc : c ≤ 3) {i : Nat} (hi : i < h) : ∀ x ∈ rowOf w (f (i : Int)), 0 ≤ x ∧ x < 3 := by
  intro x hx
  obtain ⟨j, hj, rfl⟩ := mem_at0 hx
  rw [len_rowOf] at hj
  rw [at0_rowOf (by omega) (by omega)]
  have := hf (i : Int) (j : Int) (by omega) (by omega) (by omega) (by omega)
  omega
theorem spp__law_bad_board {K : PySem.W.Frag} {H : Hp} {a : Addr} {ps : List Str} {w : Nat} {c cell : Int} (h : SqL K H a (ps.map V.str)) (c0 : 2 ≤ c) (c1 : c ≤ 3) (h2 : 2 ≤ ps.length) (h6 : ps.length ≤ 6) (hev : ps.length % 2 = 0) (w2 : 2 ≤ w) (w6 : w ≤ 6) (hp : ∀ p ∈ ps, p.length = w ∧ 10 ∉ TL.tl p) : SpP (sp__law_bad_board K) [.ref a, .int c, .int cell] H (TxtB c) :=
  fun H1 e Q q E => ⟨a, ps, w, c, cell, rfl, ex_l e h, c0, c1, h2, h6, hev, w2, w6, hp, q⟩
theorem spp__law_bad_rule {K : PySem.W.Frag} {H : Hp} {a : Addr} {r : List Int} {c cell : Int} (h : SqL K H a (r.map V.int)) (c0 : 2 ≤ c) (c1 : c ≤ 3) (hr : IsRule (n4 c) r) : SpP (sp__law_bad_rule K) [.ref a, .int c, .int cell] H TxtR :=
  fun H1 e Q q E => ⟨a, r, c, cell, rfl, ex_l e h, c0, c1, hr, q⟩
theorem spv_refB {K : PySem.W.Frag} {H : Hp} {c : Int} {v : V} (h : TxtB c v H) : SpV (sp__law_refused K) [.int 0, v, .int c] H (.bl true) := fun H1 e Q q E => by
  obtain ⟨ls, rfl, ok, bad⟩ := h
  exact ⟨0, c, ls, rfl, ok, fun _ => bad, fun z => absurd rfl z, q⟩
theorem spv_refR {K : PySem.W.Frag} {H : Hp} {c : Int} {v : V} (h : TxtR v H) : SpV (sp__law_refused K) [.int 1, v, .int c] H (.bl true) := fun H1 e Q q E => by
  obtain ⟨ls, rfl, ok, bad⟩ := h
  exact ⟨1, c, ls, rfl, ok, fun z => absurd z (by decide), fun _ => bad, q⟩
theorem ea_mid {σ : L2.St} {H : Hp} {ta tb tc : TE} {P : V → Prop} {i c : Int} (ha : Ev ta σ H (.int i)) (hb : EvP tb σ H fun v _ => P v) (hc : Ev tc σ H (.int c)) : EvAP (tCons ta (tCons tb (tCons tc tNil))) σ H fun vs _ => ∃ v, vs = [.int i, v, .int c] ∧ P v :=
  eap_cons (P := fun v _ => v = .int i) (R := fun vs _ => ∃ v, vs = [v, .int c] ∧ P v) (fun v H H' _ h => h) (ep_of ha fun _ _ => rfl)
    (eap_cons (P := fun v _ => P v) (R := fun vs _ => vs = [.int c]) (fun v H H' _ h => h) hb (eap_of (ea_cons hc ea_nil) fun _ _ => rfl) fun v vs H1 _ hv hvs => ⟨v, by rw [hvs], hv⟩) fun v vs H1 _ hv ⟨u, hu, hp⟩ => ⟨u, by rw [hv, hu], hp⟩
set_option maxHeartbeats 1000000 in
theorem ok_law {P : Program} {w : World} {K : PySem.W.Frag} {mg : Str → Option Value} {base : Heap} {f : Addr} {fd : FuncData} (Bt : Bl mg) (D : DefAt K mg "law" s_law ["script"] f fd) (C__law_cell_at : CalE P w K mg base CX0 1 "_law_cell_at" ["script", "k"] (sp__law_cell_at K)) (C__law_rule_by : CalE P w K mg base CX0 2 "_law_rule_by" ["cell", "colours"] (sp__law_rule_by K)) (C__law_board_by : CalE P w K mg base CX0 1 "_law_board_by" ["cell", "width", "height", "colours"] (sp__law_board_by K)) (C__law_bad_board : CalE P w K mg base CX0 1 "_law_bad_board" ["rows", "colours", "cell"] (sp__law_bad_board K)) (C__law_refused : CalE P w K mg base CX0 4 "_law_refused" ["way", "text", "colours"] (sp__law_refused K)) (C__law_bad_rule : CalE P w K mg base CX0 1 "_law_bad_rule" ["rule", "colours", "cell"] (sp__law_bad_rule K)) :
    FnOk P w K mg base CX0 5 f fd ["script"] (sp_law K) := by
  obtain ⟨f__law_cell_at, fd__law_cell_at, G__law_cell_at, g__law_cell_at, k__law_cell_at, b__law_cell_at⟩ := C__law_cell_at.ex
  obtain ⟨f__law_rule_by, fd__law_rule_by, G__law_rule_by, g__law_rule_by, k__law_rule_by, b__law_rule_by⟩ := C__law_rule_by.ex
  obtain ⟨f__law_board_by, fd__law_board_by, G__law_board_by, g__law_board_by, k__law_board_by, b__law_board_by⟩ := C__law_board_by.ex
  obtain ⟨f__law_bad_board, fd__law_bad_board, G__law_bad_board, g__law_bad_board, k__law_bad_board, b__law_bad_board⟩ := C__law_bad_board.ex
  obtain ⟨f__law_refused, fd__law_refused, G__law_refused, g__law_refused, k__law_refused, b__law_refused⟩ := C__law_refused.ex
  obtain ⟨f__law_bad_rule, fd__law_bad_rule, G__law_bad_rule, g__law_bad_rule, k__law_bad_rule, b__law_bad_rule⟩ := C__law_bad_rule.ex
  refine D.F.ok sc_law (fun vs H Q E h => ?_) (fun cdv A outer s H vs Q E hRm h => ?_)
  · obtain ⟨a, ns, rfl, _⟩ := h; rfl
  · obtain ⟨a, ns, rfl, hS, hlen, q⟩ := h
    refine ⟨_, (pss_cons (ps_set (i := 1) sc_law.nd rfl (Or.inl rfl) (pe_op op_add pe_int (pe_op op_mod (pe_call G__law_cell_at (hRm.mono (by decide)) (by rfl) g__law_cell_at k__law_cell_at b__law_cell_at .nil pass0 (pa_cons (pv 0) (pa_cons pe_int pa_nil))) pe_int)))
 (pss_cons (ps_set (i := 2) sc_law.nd rfl (Or.inl rfl) (pe_call G__law_rule_by (hRm.mono (by decide)) (by rfl) g__law_rule_by k__law_rule_by b__law_rule_by .nil pass0 (pa_cons (pe_call G__law_cell_at (hRm.mono (by decide)) (by rfl) g__law_cell_at k__law_cell_at b__law_cell_at .nil pass0 (pa_cons (pv 0) (pa_cons pe_int pa_nil))) (pa_cons (pv 1) pa_nil))))
 (pss_cons (ps_set (i := 3) sc_law.nd rfl (Or.inl rfl) (pe_op op_add pe_int (pe_op op_mul pe_int (pe_op op_mod (pe_call G__law_cell_at (hRm.mono (by decide)) (by rfl) g__law_cell_at k__law_cell_at b__law_cell_at .nil pass0 (pa_cons (pv 0) (pa_cons pe_int pa_nil))) pe_int))))
 (pss_cons (ps_set (i := 4) sc_law.nd rfl (Or.inl rfl) (pe_call G__law_board_by (hRm.mono (by decide)) (by rfl) g__law_board_by k__law_board_by b__law_board_by .nil pass0 (pa_cons (pe_call G__law_cell_at (hRm.mono (by decide)) (by rfl) g__law_cell_at k__law_cell_at b__law_cell_at .nil pass0 (pa_cons (pv 0) (pa_cons pe_int pa_nil))) (pa_cons (pv 3) (pa_cons (pe_op op_add pe_int (pe_op op_mul pe_int (pe_op op_mod (pe_call G__law_cell_at (hRm.mono (by decide)) (by rfl) g__law_cell_at k__law_cell_at b__law_cell_at .nil pass0 (pa_cons (pv 0) (pa_cons pe_int pa_nil))) pe_int))) (pa_cons (pv 1) pa_nil))))))
 (pss_cons (ps_setLc (i := 5) (own := [("row", 7)]) (g := gName 7) (by rfl) sc_law.nd rfl rfl (sw_true rfl rfl rfl (by decide +kernel)) (pi_tupK (K := K) rfl (pv 4)) (blkOk_by (own := [("row", 7)]) (N := ["script", "colours", "rule", "width", "board", "rows", "k", "row", "colour"]) (sc := defScope s_law) (by decide +kernel)) (fun _ _ _ _ _ => pg_name (i := 7) sc_law.nd rfl (Or.inl rfl)) (fun _ _ _ _ _ => pts_nil) (fun _ _ _ _ _ => (pe_joinK (K := K) rfl pe_str (pe_lc (own := [("colour", 8)]) (g := gName 8) (by rfl) sc_law.nd (pi_tupK (K := K) rfl (pv 7)) (blkOk_by (own := [("colour", 8)]) (N := ["script", "colours", "rule", "width", "board", "rows", "k", "row", "colour"]) (sc := (relS { kind := .function, names := [(".0", .local), ("row", .local)], isGenerator := false, isCoroutine := false } (defScope s_law))) (by decide +kernel)) (fun _ _ _ _ _ => pg_name (i := 8) sc_law.nd rfl (Or.inl rfl)) (fun _ _ _ _ _ => pts_nil) (fun _ _ _ _ _ => (pe_ix ix_str pe_str (pv 8) (fun _ _ => rfl)))))))
 (pss_cons (ps_for PassesOwn.never rfl (pi_range1 (by rfl) Bt.range_ (pa_cons pe_int pa_nil)) (pg_name (i := 6) sc_law.nd rfl (Or.inl rfl))
 (pss_cons (ps_if (pt_not (pt_val (pe_call G__law_refused (hRm.mono (by decide)) (by rfl) g__law_refused k__law_refused b__law_refused .nil pass0 (pa_cons pe_int (pa_cons (pe_call G__law_bad_board (hRm.mono (by decide)) (by rfl) g__law_bad_board k__law_bad_board b__law_bad_board .nil pass0 (pa_cons (pv 5) (pa_cons (pv 1) (pa_cons (pe_call G__law_cell_at (hRm.mono (by decide)) (by rfl) g__law_cell_at k__law_cell_at b__law_cell_at .nil pass0 (pa_cons (pv 0) (pa_cons (pe_op op_add pe_int (pv 6)) pa_nil))) pa_nil)))) (pa_cons (pv 1) pa_nil)))))) (pss_one (ps_ret pe_bl)) pss_nil)
 (pss_one (ps_if (pt_not (pt_val (pe_call G__law_refused (hRm.mono (by decide)) (by rfl) g__law_refused k__law_refused b__law_refused .nil pass0 (pa_cons pe_int (pa_cons (pe_call G__law_bad_rule (hRm.mono (by decide)) (by rfl) g__law_bad_rule k__law_bad_rule b__law_bad_rule .nil pass0 (pa_cons (pv 2) (pa_cons (pv 1) (pa_cons (pe_call G__law_cell_at (hRm.mono (by decide)) (by rfl) g__law_cell_at k__law_cell_at b__law_cell_at .nil pass0 (pa_cons (pv 0) (pa_cons (pe_op op_add pe_int (pv 6)) pa_nil))) pa_nil)))) (pa_cons (pv 1) pa_nil)))))) (pss_one (ps_ret pe_bl)) pss_nil))))
 (pss_one (ps_ret pe_bl)))))))), Go.at ?_⟩
    obtain ⟨c0, c1⟩ := col_of (at0 ns 0)
    refine go_asg (v := .int (2 + at0 ns 0 % 2)) (by walk_at "ev") ?_
    generalize 2 + at0 ns 0 % 2 = c at *
    obtain ⟨hn, hn2, hn3⟩ := n4_int c0 c1
    refine go_asgR (by walk_at "ea") (spr__law_rule_by (cell := at0 ns 1) c0 c1) fun r b H1 hr hb e1 h1 => ?_
    have hS1 := ex_l e1 hS
    have hR : SqL K H1 b (r.map V.int) := sq_of h1
    have x0 := Int.emod_nonneg (at0 ns 2) (show (3 : Int) ≠ 0 by decide)
    have x1 := Int.emod_lt_of_pos (at0 ns 2) (show (0 : Int) < 3 by decide)
    have y0 := Int.emod_nonneg (at0 ns 3) (show (3 : Int) ≠ 0 by decide)
    have y1 := Int.emod_lt_of_pos (at0 ns 3) (show (0 : Int) < 3 by decide)
    obtain ⟨ww, hw, w1, w2⟩ : ∃ ww : Nat, 2 + 2 * (at0 ns 2 % 3) = ((2 * ww : Nat) : Int) ∧ 1 ≤ ww ∧ ww ≤ 3 := ⟨1 + (at0 ns 2 % 3).toNat, by omega, by omega, by omega⟩
    obtain ⟨hh, hhe, h1', h2'⟩ : ∃ hh : Nat, 2 + 2 * (at0 ns 3 % 3) = ((2 * hh : Nat) : Int) ∧ 1 ≤ hh ∧ hh ≤ 3 := ⟨1 + (at0 ns 3 % 3).toNat, by omega, by omega, by omega⟩
    refine go_asg (v := .int (2 + 2 * (at0 ns 2 % 3))) (by walk_at "ev") ?_
    rw [hw]
    refine go_asgP (ep_call (vs := [.int (at0 ns 4), .int ((2 * ww : Nat) : Int), .int ((2 * hh : Nat) : Int), .int c]) (ea_cons (by walk_at "ev") (ea_cons (ev_var rfl) (ea_cons (ev_is (v := .int (2 + 2 * (at0 ns 3 % 3))) (by walk_at "ev") (by rw [hhe])) (ea_cons (ev_var rfl) ea_nil)))) (spp__law_board_by (cell := at0 ns 4) (w := 2 * ww) (h := 2 * hh) (by omega) (by omega) c0 c1)) fun v H4 e4 hp4 => ?_
    obtain ⟨f, hf, hB⟩ := hp4
    have hS4 := ex_l e4 hS1
    have hR4 := ex_l e4 hR
    clear hS hS1 hR h1 hb
    obtain ⟨p, us, rfl, hs, hul, hrows⟩ := id hB
    rw [len_mk] at hul
    refine go_asgL (xs := ((mk (2 * hh) (2 * ww) f).map sgnX).map V.str) (el_is (el_lcT (t := tYes) (fun _ => true) (fun i : Nat => V.str (sgnX (rowOf (2 * ww) (f (i : Int))))) (ev_var rfl) hs (by omega) (fun _ => rfl) (fun _ _ _ _ _ => et_yes) (fun i x H5 e5 hi _ => ?_)) ?_) fun l H5 hl e5 h5 => ?_
    · have hi2 : i < 2 * hh := by rw [← hul]; exact (List.getElem?_eq_some_iff.mp hi).1
      obtain ⟨ra, rfl, hra⟩ := hrows i x _ hi (mk_get hi2)
      have hra5 := ex_t e5 hra
      have hdig := row_in hf c1 hi2
      have hlw : (rowOf (2 * ww) (f (i : Int))).length = 2 * ww := len_rowOf _ _
      generalize rowOf (2 * ww) (f (i : Int)) = rr at *
      rw [← signs_join]
      refine ev_join ev_c (el_is (el_mapT (K := K) (fun x => V.str (⟨#[48 + x.toNat]⟩ : Str)) (ev_var rfl) hra5 (by omega) (fun _ => rfl) fun x hx => ev_op ev_c (ev_var rfl) (BT.rv_ixS (Nat.le_trans (show ("012" : Str).length ≤ 100 by decide) (by rw [sizeLine_eq]; decide)) (dig_ix _ (by have := hdig x hx; simp; omega)))) (by rw [List.map_map]; rfl)) ?_
      have := sumTx_le (b := 1) (rr.map fun x => (⟨#[48 + x.toNat]⟩ : Str)) fun y hy => by
        obtain ⟨x, _, rfl⟩ := List.mem_map.mp hy
        exact Nat.le_refl 1
      have e0 : ("" : Str).length = 0 := by decide
      rw [e0]
      rw [List.length_map] at *
      omega
    · rw [given_all, hul]
      unfold mk
      rw [List.map_map, List.map_map]
      rfl
    have hL := sq_of (K := K) h5
    have hps : ∀ p ∈ (mk (2 * hh) (2 * ww) f).map sgnX, p.length = 2 * ww ∧ 10 ∉ TL.tl p := fun p hp => by
      obtain ⟨r, hr, rfl⟩ := List.mem_map.mp hp
      unfold mk at hr
      obtain ⟨i, _, rfl⟩ := List.mem_map.mp hr
      rw [TL.len_tl, sgn_tl]
      refine ⟨by rw [List.length_map, len_rowOf], fun z => ?_⟩
      obtain ⟨x, _, hx⟩ := List.mem_map.mp z
      omega
    have hpl : ((mk (2 * hh) (2 * ww) f).map sgnX).length = 2 * hh := by rw [List.length_map, len_mk]
    generalize (mk (2 * hh) (2 * ww) f).map sgnX = ps at *
    have hS5 := ex_l e5 hS4
    have hR5 := ex_l e5 hR4
    refine go_forR1 (n := 4) (ea_cons ev_c ea_nil) (by decide) (fun i σ' H' => ∃ y6, σ' = [some (.ref a), some (.int c), some (.ref b), some (.int ((2 * ww : Nat) : Int)), some (.ref p), some (.ref l), y6, none, none] ∧ Ex H5 H')
      (fun H6 e6 => ⟨_, rfl, e6⟩) (fun i σ' H6 hi ⟨y6, hσ, e6⟩ => ?_) (fun σ' H6 ⟨y6, hσ, e6⟩ => ?_)
    · subst hσ
      have hS6 := ex_l e6 hS5
      have hR6 := ex_l e6 hR5
      have hL6 := ex_l e6 hL
      refine go_not (b := !true) (et_not (et_B (ev_callP (ea_mid (P := fun v => TxtB c v H6) ev_c (ep_call (ea_cons (ev_var rfl) (ea_cons (ev_var rfl) (ea_cons (x := .int (at0 ns (5 + (i : Int)))) (by walk_at "ev") ea_nil))) (spp__law_bad_board (w := 2 * ww) hL6 c0 c1 (by omega) (by omega) (by omega) (by omega) (by omega) hps)) (ev_var rfl)) fun vs H7 e7 ⟨v, hvs, hv⟩ => by rw [hvs]; exact spv_refB hv))) rfl ?_
      exact gl_whenb (b := !true) (et_not (et_B (ev_callP (ea_mid (P := fun v => TxtR v H6) ev_c (ep_call (ea_cons (ev_var rfl) (ea_cons (ev_var rfl) (ea_cons (x := .int (at0 ns (9 + (i : Int)))) (by walk_at "ev") ea_nil))) (spp__law_bad_rule hR6 c0 c1 hr)) (ev_var rfl)) fun vs H7 e7 ⟨v, hvs, hv⟩ => by rw [hvs]; exact spv_refR hv))) (fun z => by cases z) fun _ => fun H7 e7 => ⟨_, rfl, e6.trans e7⟩
    · subst hσ
      exact go_ret ev_c fun H7 _ => q H7
end BT
/-! ### what the top has written -/
namespace BT
open PySem PySem.Spec PyProof.Rows L2 Evl
theorem all_mk {l : PySem.W.OpenLaw} {w : World} {K : PySem.W.Frag} {h : Heap} {mg : Str → Option Value} {fa f1 f2 f3 f4 f5 f6 f7 f8 f9 f10 f11 f12 f13 f14 f15 f16 C_BlockError C_NoBoard C_NoRule C_NotBack C_BadNote : Addr} (X : K.In h) (G : h.Ns mainGlobals mg) (hfa : mg "law" = some (.ref fa))
    {od1 an1 od2 an2 od3 an3 od4 an4 od5 an5 od6 an6 od7 an7 od8 an8 od9 an9 od10 an10 od11 an11 od12 an12 od13 an13 od14 an14 od15 an15 od16 an16 : Option Addr} {sl1 sl2 sl3 sl4 sl5 sl6 sl7 sl8 sl9 sl10 sl11 sl12 sl13 sl14 sl15 sl16 : Array (Option Value)} {oc1 kV1 dc1 pm1 cd1 ct1 oc2 kV2 dc2 pm2 cd2 ct2 oc3 kV3 dc3 pm3 cd3 ct3 oc4 kV4 dc4 pm4 cd4 ct4 oc5 kV5 dc5 pm5 cd5 ct5 oc6 kV6 dc6 pm6 cd6 ct6 oc7 kV7 dc7 pm7 cd7 ct7 oc8 kV8 dc8 pm8 cd8 ct8 oc9 kV9 dc9 pm9 cd9 ct9 oc10 kV10 dc10 pm10 cd10 ct10 oc11 kV11 dc11 pm11 cd11 ct11 oc12 kV12 dc12 pm12 cd12 ct12 oc13 kV13 dc13 pm13 cd13 ct13 oc14 kV14 dc14 pm14 cd14 ct14 oc15 kV15 dc15 pm15 cd15 ct15 oc16 kV16 dc16 pm16 cd16 ct16 : Value}
    (a1 : PySem.W.nsIn K mainGlobals "looked" = some (some (.ref f1))) (l1 : K.lookup f1 = some ⟨oc1, od1, .func (PySem.W.fnOf "looked" "looked" (defArgs s_looked) (defBody s_looked) (defScope s_looked) .none kV1 dc1 pm1 an1 cd1 ct1), sl1⟩) (c1 : PySem.W.codeIn K cd1 "looked" = true) (k1 : PySem.W.keepIn K (.ref f1) = true)
    (a2 : PySem.W.nsIn K mainGlobals "is_size" = some (some (.ref f2))) (l2 : K.lookup f2 = some ⟨oc2, od2, .func (PySem.W.fnOf "is_size" "is_size" (defArgs s_is_size) (defBody s_is_size) (defScope s_is_size) .none kV2 dc2 pm2 an2 cd2 ct2), sl2⟩) (c2 : PySem.W.codeIn K cd2 "is_size" = true) (k2 : PySem.W.keepIn K (.ref f2) = true)
    (a3 : PySem.W.nsIn K mainGlobals "looked_board" = some (some (.ref f3))) (l3 : K.lookup f3 = some ⟨oc3, od3, .func (PySem.W.fnOf "looked_board" "looked_board" (defArgs s_looked_board) (defBody s_looked_board) (defScope s_looked_board) .none kV3 dc3 pm3 an3 cd3 ct3), sl3⟩) (c3 : PySem.W.codeIn K cd3 "looked_board" = true) (k3 : PySem.W.keepIn K (.ref f3) = true)
    (a4 : PySem.W.nsIn K mainGlobals "lines_of" = some (some (.ref f4))) (l4 : K.lookup f4 = some ⟨oc4, od4, .func (PySem.W.fnOf "lines_of" "lines_of" (defArgs s_lines_of) (defBody s_lines_of) (defScope s_lines_of) .none kV4 dc4 pm4 an4 cd4 ct4), sl4⟩) (c4 : PySem.W.codeIn K cd4 "lines_of" = true) (k4 : PySem.W.keepIn K (.ref f4) = true)
    (a5 : PySem.W.nsIn K mainGlobals "row_of" = some (some (.ref f5))) (l5 : K.lookup f5 = some ⟨oc5, od5, .func (PySem.W.fnOf "row_of" "row_of" (defArgs s_row_of) (defBody s_row_of) (defScope s_row_of) .none kV5 dc5 pm5 an5 cd5 ct5), sl5⟩) (c5 : PySem.W.codeIn K cd5 "row_of" = true) (k5 : PySem.W.keepIn K (.ref f5) = true)
    (a6 : PySem.W.nsIn K mainGlobals "read_board" = some (some (.ref f6))) (l6 : K.lookup f6 = some ⟨oc6, od6, .func (PySem.W.fnOf "read_board" "read_board" (defArgs s_read_board) (defBody s_read_board) (defScope s_read_board) .none kV6 dc6 pm6 an6 cd6 ct6), sl6⟩) (c6 : PySem.W.codeIn K cd6 "read_board" = true) (k6 : PySem.W.keepIn K (.ref f6) = true)
    (a7 : PySem.W.nsIn K mainGlobals "whole_of" = some (some (.ref f7))) (l7 : K.lookup f7 = some ⟨oc7, od7, .func (PySem.W.fnOf "whole_of" "whole_of" (defArgs s_whole_of) (defBody s_whole_of) (defScope s_whole_of) .none kV7 dc7 pm7 an7 cd7 ct7), sl7⟩) (c7 : PySem.W.codeIn K cd7 "whole_of" = true) (k7 : PySem.W.keepIn K (.ref f7) = true)
    (a8 : PySem.W.nsIn K mainGlobals "read_rule" = some (some (.ref f8))) (l8 : K.lookup f8 = some ⟨oc8, od8, .func (PySem.W.fnOf "read_rule" "read_rule" (defArgs s_read_rule) (defBody s_read_rule) (defScope s_read_rule) .none kV8 dc8 pm8 an8 cd8 ct8), sl8⟩) (c8 : PySem.W.codeIn K cd8 "read_rule" = true) (k8 : PySem.W.keepIn K (.ref f8) = true)
    (a9 : PySem.W.nsIn K mainGlobals "_law_cell_at" = some (some (.ref f9))) (l9 : K.lookup f9 = some ⟨oc9, od9, .func (PySem.W.fnOf "_law_cell_at" "_law_cell_at" (defArgs s__law_cell_at) (defBody s__law_cell_at) (defScope s__law_cell_at) .none kV9 dc9 pm9 an9 cd9 ct9), sl9⟩) (c9 : PySem.W.codeIn K cd9 "_law_cell_at" = true) (k9 : PySem.W.keepIn K (.ref f9) = true)
    (a10 : PySem.W.nsIn K mainGlobals "_law_rule_by" = some (some (.ref f10))) (l10 : K.lookup f10 = some ⟨oc10, od10, .func (PySem.W.fnOf "_law_rule_by" "_law_rule_by" (defArgs s__law_rule_by) (defBody s__law_rule_by) (defScope s__law_rule_by) .none kV10 dc10 pm10 an10 cd10 ct10), sl10⟩) (c10 : PySem.W.codeIn K cd10 "_law_rule_by" = true) (k10 : PySem.W.keepIn K (.ref f10) = true)
    (a11 : PySem.W.nsIn K mainGlobals "_law_named" = some (some (.ref f11))) (l11 : K.lookup f11 = some ⟨oc11, od11, .func (PySem.W.fnOf "_law_named" "_law_named" (defArgs s__law_named) (defBody s__law_named) (defScope s__law_named) .none kV11 dc11 pm11 an11 cd11 ct11), sl11⟩) (c11 : PySem.W.codeIn K cd11 "_law_named" = true) (k11 : PySem.W.keepIn K (.ref f11) = true)
    (a12 : PySem.W.nsIn K mainGlobals "_law_board_by" = some (some (.ref f12))) (l12 : K.lookup f12 = some ⟨oc12, od12, .func (PySem.W.fnOf "_law_board_by" "_law_board_by" (defArgs s__law_board_by) (defBody s__law_board_by) (defScope s__law_board_by) .none kV12 dc12 pm12 an12 cd12 ct12), sl12⟩) (c12 : PySem.W.codeIn K cd12 "_law_board_by" = true) (k12 : PySem.W.keepIn K (.ref f12) = true)
    (a13 : PySem.W.nsIn K mainGlobals "_law_refused" = some (some (.ref f13))) (l13 : K.lookup f13 = some ⟨oc13, od13, .func (PySem.W.fnOf "_law_refused" "_law_refused" (defArgs s__law_refused) (defBody s__law_refused) (defScope s__law_refused) .none kV13 dc13 pm13 an13 cd13 ct13), sl13⟩) (c13 : PySem.W.codeIn K cd13 "_law_refused" = true) (k13 : PySem.W.keepIn K (.ref f13) = true)
    (a14 : PySem.W.nsIn K mainGlobals "_law_bad_board" = some (some (.ref f14))) (l14 : K.lookup f14 = some ⟨oc14, od14, .func (PySem.W.fnOf "_law_bad_board" "_law_bad_board" (defArgs s__law_bad_board) (defBody s__law_bad_board) (defScope s__law_bad_board) .none kV14 dc14 pm14 an14 cd14 ct14), sl14⟩) (c14 : PySem.W.codeIn K cd14 "_law_bad_board" = true) (k14 : PySem.W.keepIn K (.ref f14) = true)
    (a15 : PySem.W.nsIn K mainGlobals "_law_bad_rule" = some (some (.ref f15))) (l15 : K.lookup f15 = some ⟨oc15, od15, .func (PySem.W.fnOf "_law_bad_rule" "_law_bad_rule" (defArgs s__law_bad_rule) (defBody s__law_bad_rule) (defScope s__law_bad_rule) .none kV15 dc15 pm15 an15 cd15 ct15), sl15⟩) (c15 : PySem.W.codeIn K cd15 "_law_bad_rule" = true) (k15 : PySem.W.keepIn K (.ref f15) = true)
    (a16 : PySem.W.nsIn K mainGlobals "law" = some (some (.ref f16))) (l16 : K.lookup f16 = some ⟨oc16, od16, .func (PySem.W.fnOf "law" "law" (defArgs s_law) (defBody s_law) (defScope s_law) .none kV16 dc16 pm16 an16 cd16 ct16), sl16⟩) (c16 : PySem.W.codeIn K cd16 "law" = true) (k16 : PySem.W.keepIn K (.ref f16) = true)
    (nP_BlockError : PySem.W.nsIn K mainGlobals "BlockError" = some (some (.ref C_BlockError))) (xP_BlockError : PySem.W.excIn K C_BlockError [.type "ValueError", .type "Exception", .type "BaseException", .type "object"] "ValueError.__new__" = true) (kP_BlockError : PySem.W.keepIn K (.ref C_BlockError) = true) (bP_BlockError : PySem.W.subIn K (.ref C_BlockError) (.type "BaseException") = some true) (vP_BlockError : PySem.W.subIn K (.ref C_BlockError) (.type "ValueError") = some true) (tP_BlockError : PySem.W.typeIn K (.ref C_BlockError) = some (.type "type")) (iP_BlockError : PySem.W.isClsIn K C_BlockError = true) (sP_BlockError : PySem.W.subIn K (.ref C_BlockError) (.ref C_BlockError) = some true)
    (eg_BlockError : PySem.W.findIn K (.ref C_BlockError) "__getattribute__" = some (some (.builtin "BaseException.__getattribute__"))) (ek_BlockError : PySem.W.findIn K (.ref C_BlockError) "__getattr__" = some none) (ed_BlockError : PySem.W.hasDictIn K C_BlockError = true) (ea_BlockError : PySem.W.findIn K (.ref C_BlockError) "__class__" = some (some (.builtin "object.__class__"))) (em_BlockError : PySem.W.mroIn K C_BlockError (.type "object") = some true)
    (nP_NoBoard : PySem.W.nsIn K mainGlobals "NoBoard" = some (some (.ref C_NoBoard))) (xP_NoBoard : PySem.W.excIn K C_NoBoard [.type "ValueError", .type "Exception", .type "BaseException", .type "object"] "ValueError.__new__" = true) (kP_NoBoard : PySem.W.keepIn K (.ref C_NoBoard) = true) (bP_NoBoard : PySem.W.subIn K (.ref C_NoBoard) (.type "BaseException") = some true) (vP_NoBoard : PySem.W.subIn K (.ref C_NoBoard) (.type "ValueError") = some true) (tP_NoBoard : PySem.W.typeIn K (.ref C_NoBoard) = some (.type "type")) (iP_NoBoard : PySem.W.isClsIn K C_NoBoard = true) (sP_NoBoard : PySem.W.subIn K (.ref C_NoBoard) (.ref C_NoBoard) = some true)
    (eg_NoBoard : PySem.W.findIn K (.ref C_NoBoard) "__getattribute__" = some (some (.builtin "BaseException.__getattribute__"))) (ek_NoBoard : PySem.W.findIn K (.ref C_NoBoard) "__getattr__" = some none) (ed_NoBoard : PySem.W.hasDictIn K C_NoBoard = true) (ea_NoBoard : PySem.W.findIn K (.ref C_NoBoard) "__class__" = some (some (.builtin "object.__class__"))) (em_NoBoard : PySem.W.mroIn K C_NoBoard (.type "object") = some true)
    (nP_NoRule : PySem.W.nsIn K mainGlobals "NoRule" = some (some (.ref C_NoRule))) (xP_NoRule : PySem.W.excIn K C_NoRule [.type "ValueError", .type "Exception", .type "BaseException", .type "object"] "ValueError.__new__" = true) (kP_NoRule : PySem.W.keepIn K (.ref C_NoRule) = true) (bP_NoRule : PySem.W.subIn K (.ref C_NoRule) (.type "BaseException") = some true) (vP_NoRule : PySem.W.subIn K (.ref C_NoRule) (.type "ValueError") = some true) (tP_NoRule : PySem.W.typeIn K (.ref C_NoRule) = some (.type "type")) (iP_NoRule : PySem.W.isClsIn K C_NoRule = true) (sP_NoRule : PySem.W.subIn K (.ref C_NoRule) (.ref C_NoRule) = some true)
    (eg_NoRule : PySem.W.findIn K (.ref C_NoRule) "__getattribute__" = some (some (.builtin "BaseException.__getattribute__"))) (ek_NoRule : PySem.W.findIn K (.ref C_NoRule) "__getattr__" = some none) (ed_NoRule : PySem.W.hasDictIn K C_NoRule = true) (ea_NoRule : PySem.W.findIn K (.ref C_NoRule) "__class__" = some (some (.builtin "object.__class__"))) (em_NoRule : PySem.W.mroIn K C_NoRule (.type "object") = some true)
    (nP_NotBack : PySem.W.nsIn K mainGlobals "NotBack" = some (some (.ref C_NotBack))) (xP_NotBack : PySem.W.excIn K C_NotBack [.type "ValueError", .type "Exception", .type "BaseException", .type "object"] "ValueError.__new__" = true) (kP_NotBack : PySem.W.keepIn K (.ref C_NotBack) = true) (bP_NotBack : PySem.W.subIn K (.ref C_NotBack) (.type "BaseException") = some true) (vP_NotBack : PySem.W.subIn K (.ref C_NotBack) (.type "ValueError") = some true) (tP_NotBack : PySem.W.typeIn K (.ref C_NotBack) = some (.type "type")) (iP_NotBack : PySem.W.isClsIn K C_NotBack = true) (sP_NotBack : PySem.W.subIn K (.ref C_NotBack) (.ref C_NotBack) = some true)
    (eg_NotBack : PySem.W.findIn K (.ref C_NotBack) "__getattribute__" = some (some (.builtin "BaseException.__getattribute__"))) (ek_NotBack : PySem.W.findIn K (.ref C_NotBack) "__getattr__" = some none) (ed_NotBack : PySem.W.hasDictIn K C_NotBack = true) (ea_NotBack : PySem.W.findIn K (.ref C_NotBack) "__class__" = some (some (.builtin "object.__class__"))) (em_NotBack : PySem.W.mroIn K C_NotBack (.type "object") = some true)
    (nP_BadNote : PySem.W.nsIn K mainGlobals "BadNote" = some (some (.ref C_BadNote))) (xP_BadNote : PySem.W.excIn K C_BadNote [.type "ValueError", .type "Exception", .type "BaseException", .type "object"] "ValueError.__new__" = true) (kP_BadNote : PySem.W.keepIn K (.ref C_BadNote) = true) (bP_BadNote : PySem.W.subIn K (.ref C_BadNote) (.type "BaseException") = some true) (vP_BadNote : PySem.W.subIn K (.ref C_BadNote) (.type "ValueError") = some true) (tP_BadNote : PySem.W.typeIn K (.ref C_BadNote) = some (.type "type")) (iP_BadNote : PySem.W.isClsIn K C_BadNote = true) (sP_BadNote : PySem.W.subIn K (.ref C_BadNote) (.ref C_BadNote) = some true)
    (eg_BadNote : PySem.W.findIn K (.ref C_BadNote) "__getattribute__" = some (some (.builtin "BaseException.__getattribute__"))) (ek_BadNote : PySem.W.findIn K (.ref C_BadNote) "__getattr__" = some none) (ed_BadNote : PySem.W.hasDictIn K C_BadNote = true) (ea_BadNote : PySem.W.findIn K (.ref C_BadNote) "__class__" = some (some (.builtin "object.__class__"))) (em_BadNote : PySem.W.mroIn K C_BadNote (.type "object") = some true)
    {V_FIGURES : Tok} (nC_FIGURES : PySem.W.nsIn K mainGlobals "FIGURES" = some (some (Value.str "0123456789" V_FIGURES)))
    (en_ : PySem.W.specialIn K (.builtin "object.__class__") "__get__" = some (some (.builtin "getset_descriptor.__get__"))) (et_ : PySem.W.takesIn K (.builtin "object.__class__") = some true)
    (s_BlockError_NoBoard : PySem.W.subIn K (.ref C_BlockError) (.ref C_NoBoard) = some false)
    (s_BlockError_NoRule : PySem.W.subIn K (.ref C_BlockError) (.ref C_NoRule) = some false)
    (s_BlockError_NotBack : PySem.W.subIn K (.ref C_BlockError) (.ref C_NotBack) = some false)
    (s_BlockError_BadNote : PySem.W.subIn K (.ref C_BlockError) (.ref C_BadNote) = some false)
    (s_NoBoard_BlockError : PySem.W.subIn K (.ref C_NoBoard) (.ref C_BlockError) = some true)
    (s_NoBoard_NoRule : PySem.W.subIn K (.ref C_NoBoard) (.ref C_NoRule) = some false)
    (s_NoBoard_NotBack : PySem.W.subIn K (.ref C_NoBoard) (.ref C_NotBack) = some false)
    (s_NoBoard_BadNote : PySem.W.subIn K (.ref C_NoBoard) (.ref C_BadNote) = some false)
    (s_NoRule_BlockError : PySem.W.subIn K (.ref C_NoRule) (.ref C_BlockError) = some true)
    (s_NoRule_NoBoard : PySem.W.subIn K (.ref C_NoRule) (.ref C_NoBoard) = some false)
    (s_NoRule_NotBack : PySem.W.subIn K (.ref C_NoRule) (.ref C_NotBack) = some false)
    (s_NoRule_BadNote : PySem.W.subIn K (.ref C_NoRule) (.ref C_BadNote) = some false)
    (s_NotBack_BlockError : PySem.W.subIn K (.ref C_NotBack) (.ref C_BlockError) = some true)
    (s_NotBack_NoBoard : PySem.W.subIn K (.ref C_NotBack) (.ref C_NoBoard) = some false)
    (s_NotBack_NoRule : PySem.W.subIn K (.ref C_NotBack) (.ref C_NoRule) = some false)
    (s_NotBack_BadNote : PySem.W.subIn K (.ref C_NotBack) (.ref C_BadNote) = some false)
    (s_BadNote_BlockError : PySem.W.subIn K (.ref C_BadNote) (.ref C_BlockError) = some true)
    (s_BadNote_NoBoard : PySem.W.subIn K (.ref C_BadNote) (.ref C_NoBoard) = some false)
    (s_BadNote_NoRule : PySem.W.subIn K (.ref C_BadNote) (.ref C_NoRule) = some false)
    (s_BadNote_NotBack : PySem.W.subIn K (.ref C_BadNote) (.ref C_NotBack) = some false)
    (z_ValueError : PySem.W.nsIn K mainGlobals "ValueError" = some none)
    (z_int : PySem.W.nsIn K mainGlobals "int" = some none)
    (z_isinstance : PySem.W.nsIn K mainGlobals "isinstance" = some none)
    (z_len : PySem.W.nsIn K mainGlobals "len" = some none)
    (z_list : PySem.W.nsIn K mainGlobals "list" = some none)
    (z_range : PySem.W.nsIn K mainGlobals "range" = some none)
    (z_set : PySem.W.nsIn K mainGlobals "set" = some none)
    (z_str : PySem.W.nsIn K mainGlobals "str" = some none)
    (z_sum : PySem.W.nsIn K mainGlobals "sum" = some none)
    (z_tuple : PySem.W.nsIn K mainGlobals "tuple" = some none)
    : ∃ fd : FuncData, (∀ (s : Shared) (v : Value), BindsTo s fd ⟨[v], []⟩ [("script", v)]) ∧ ∀ base : Heap, K.In base → base.Ns mainGlobals mg → FnOk l.prog w K mg base CX0 5 fa fd ["script"] (sp_law K) := by
  have e := hfa.symm.trans (PySem.W.mg_of X G a16)
  cases e
  have B : Bl mg := ⟨PySem.W.mg_none_of X G z_ValueError, PySem.W.mg_none_of X G z_int, PySem.W.mg_none_of X G z_isinstance, PySem.W.mg_none_of X G z_len, PySem.W.mg_none_of X G z_list, PySem.W.mg_none_of X G z_range, PySem.W.mg_none_of X G z_set, PySem.W.mg_none_of X G z_str, PySem.W.mg_none_of X G z_sum, PySem.W.mg_none_of X G z_tuple⟩
  have Cl : Cls K mg C_BlockError C_NoBoard C_NoRule C_NotBack C_BadNote := ⟨⟨nP_BlockError, PySem.W.mg_of X G nP_BlockError, xP_BlockError, kP_BlockError, bP_BlockError, vP_BlockError, tP_BlockError, iP_BlockError, sP_BlockError, ⟨eg_BlockError, ek_BlockError, bP_BlockError, ed_BlockError, ea_BlockError, en_, et_, em_BlockError⟩⟩, ⟨nP_NoBoard, PySem.W.mg_of X G nP_NoBoard, xP_NoBoard, kP_NoBoard, bP_NoBoard, vP_NoBoard, tP_NoBoard, iP_NoBoard, sP_NoBoard, ⟨eg_NoBoard, ek_NoBoard, bP_NoBoard, ed_NoBoard, ea_NoBoard, en_, et_, em_NoBoard⟩⟩, ⟨nP_NoRule, PySem.W.mg_of X G nP_NoRule, xP_NoRule, kP_NoRule, bP_NoRule, vP_NoRule, tP_NoRule, iP_NoRule, sP_NoRule, ⟨eg_NoRule, ek_NoRule, bP_NoRule, ed_NoRule, ea_NoRule, en_, et_, em_NoRule⟩⟩, ⟨nP_NotBack, PySem.W.mg_of X G nP_NotBack, xP_NotBack, kP_NotBack, bP_NotBack, vP_NotBack, tP_NotBack, iP_NotBack, sP_NotBack, ⟨eg_NotBack, ek_NotBack, bP_NotBack, ed_NotBack, ea_NotBack, en_, et_, em_NotBack⟩⟩, ⟨nP_BadNote, PySem.W.mg_of X G nP_BadNote, xP_BadNote, kP_BadNote, bP_BadNote, vP_BadNote, tP_BadNote, iP_BadNote, sP_BadNote, ⟨eg_BadNote, ek_BadNote, bP_BadNote, ed_BadNote, ea_BadNote, en_, et_, em_BadNote⟩⟩, s_BlockError_NoBoard, s_BlockError_NoRule, s_BlockError_NotBack, s_BlockError_BadNote, s_NoBoard_BlockError, s_NoBoard_NoRule, s_NoBoard_NotBack, s_NoBoard_BadNote, s_NoRule_BlockError, s_NoRule_NoBoard, s_NoRule_NotBack, s_NoRule_BadNote, s_NotBack_BlockError, s_NotBack_NoBoard, s_NotBack_NoRule, s_NotBack_BadNote, s_BadNote_BlockError, s_BadNote_NoBoard, s_BadNote_NoRule, s_BadNote_NotBack⟩
  have F1 := fun_mk (st := s_looked) l1 c1 k1
  have D1 : DefAt K mg "looked" s_looked ["rule", "colours"] _ _ := ⟨PySem.W.mg_of X G a1, F1, F1.binds (ps := ["rule", "colours"]) fun _ _ _ _ _ _ us hl => match us, hl with | [_, _], _ => rfl⟩
  have F2 := fun_mk (st := s_is_size) l2 c2 k2
  have D2 : DefAt K mg "is_size" s_is_size ["many"] _ _ := ⟨PySem.W.mg_of X G a2, F2, F2.binds (ps := ["many"]) fun _ _ _ _ _ _ us hl => match us, hl with | [_], _ => rfl⟩
  have F3 := fun_mk (st := s_looked_board) l3 c3 k3
  have D3 : DefAt K mg "looked_board" s_looked_board ["board", "colours"] _ _ := ⟨PySem.W.mg_of X G a3, F3, F3.binds (ps := ["board", "colours"]) fun _ _ _ _ _ _ us hl => match us, hl with | [_, _], _ => rfl⟩
  have F4 := fun_mk (st := s_lines_of) l4 c4 k4
  have D4 : DefAt K mg "lines_of" s_lines_of ["text"] _ _ := ⟨PySem.W.mg_of X G a4, F4, F4.binds (ps := ["text"]) fun _ _ _ _ _ _ us hl => match us, hl with | [_], _ => rfl⟩
  have F5 := fun_mk (st := s_row_of) l5 c5 k5
  have D5 : DefAt K mg "row_of" s_row_of ["line"] _ _ := ⟨PySem.W.mg_of X G a5, F5, F5.binds (ps := ["line"]) fun _ _ _ _ _ _ us hl => match us, hl with | [_], _ => rfl⟩
  have F6 := fun_mk (st := s_read_board) l6 c6 k6
  have D6 : DefAt K mg "read_board" s_read_board ["text", "colours"] _ _ := ⟨PySem.W.mg_of X G a6, F6, F6.binds (ps := ["text", "colours"]) fun _ _ _ _ _ _ us hl => match us, hl with | [_, _], _ => rfl⟩
  have F7 := fun_mk (st := s_whole_of) l7 c7 k7
  have D7 : DefAt K mg "whole_of" s_whole_of ["word"] _ _ := ⟨PySem.W.mg_of X G a7, F7, F7.binds (ps := ["word"]) fun _ _ _ _ _ _ us hl => match us, hl with | [_], _ => rfl⟩
  have F8 := fun_mk (st := s_read_rule) l8 c8 k8
  have D8 : DefAt K mg "read_rule" s_read_rule ["text"] _ _ := ⟨PySem.W.mg_of X G a8, F8, F8.binds (ps := ["text"]) fun _ _ _ _ _ _ us hl => match us, hl with | [_], _ => rfl⟩
  have F9 := fun_mk (st := s__law_cell_at) l9 c9 k9
  have D9 : DefAt K mg "_law_cell_at" s__law_cell_at ["script", "k"] _ _ := ⟨PySem.W.mg_of X G a9, F9, F9.binds (ps := ["script", "k"]) fun _ _ _ _ _ _ us hl => match us, hl with | [_, _], _ => rfl⟩
  have F10 := fun_mk (st := s__law_rule_by) l10 c10 k10
  have D10 : DefAt K mg "_law_rule_by" s__law_rule_by ["cell", "colours"] _ _ := ⟨PySem.W.mg_of X G a10, F10, F10.binds (ps := ["cell", "colours"]) fun _ _ _ _ _ _ us hl => match us, hl with | [_, _], _ => rfl⟩
  have F11 := fun_mk (st := s__law_named) l11 c11 k11
  have D11 : DefAt K mg "_law_named" s__law_named ["kind", "number"] _ _ := ⟨PySem.W.mg_of X G a11, F11, F11.binds (ps := ["kind", "number"]) fun _ _ _ _ _ _ us hl => match us, hl with | [_, _], _ => rfl⟩
  have F12 := fun_mk (st := s__law_board_by) l12 c12 k12
  have D12 : DefAt K mg "_law_board_by" s__law_board_by ["cell", "width", "height", "colours"] _ _ := ⟨PySem.W.mg_of X G a12, F12, F12.binds (ps := ["cell", "width", "height", "colours"]) fun _ _ _ _ _ _ us hl => match us, hl with | [_, _, _, _], _ => rfl⟩
  have F13 := fun_mk (st := s__law_refused) l13 c13 k13
  have D13 : DefAt K mg "_law_refused" s__law_refused ["way", "text", "colours"] _ _ := ⟨PySem.W.mg_of X G a13, F13, F13.binds (ps := ["way", "text", "colours"]) fun _ _ _ _ _ _ us hl => match us, hl with | [_, _, _], _ => rfl⟩
  have F14 := fun_mk (st := s__law_bad_board) l14 c14 k14
  have D14 : DefAt K mg "_law_bad_board" s__law_bad_board ["rows", "colours", "cell"] _ _ := ⟨PySem.W.mg_of X G a14, F14, F14.binds (ps := ["rows", "colours", "cell"]) fun _ _ _ _ _ _ us hl => match us, hl with | [_, _, _], _ => rfl⟩
  have F15 := fun_mk (st := s__law_bad_rule) l15 c15 k15
  have D15 : DefAt K mg "_law_bad_rule" s__law_bad_rule ["rule", "colours", "cell"] _ _ := ⟨PySem.W.mg_of X G a15, F15, F15.binds (ps := ["rule", "colours", "cell"]) fun _ _ _ _ _ _ us hl => match us, hl with | [_, _, _], _ => rfl⟩
  have F16 := fun_mk (st := s_law) l16 c16 k16
  have D16 : DefAt K mg "law" s_law ["script"] _ _ := ⟨PySem.W.mg_of X G a16, F16, F16.binds (ps := ["script"]) fun _ _ _ _ _ _ us hl => match us, hl with | [_], _ => rfl⟩
  refine ⟨PySem.W.fnOf "law" "law" (defArgs s_law) (defBody s_law) (defScope s_law) .none kV16 dc16 pm16 an16 cd16 ct16, fun s v => .of_eq rfl, fun base _ _ => ?_⟩
  have C_lines_of := cal_lines_of (P := l.prog) (w := w) (base := base) B D4 Cl 
  have C_row_of := cal_row_of (P := l.prog) (w := w) (base := base) B D5 Cl (PySem.W.mg_of X G nC_FIGURES) 
  have C_is_size := cal_is_size (P := l.prog) (w := w) (base := base) B D2 
  have C_looked_board := cal_looked_board (P := l.prog) (w := w) (base := base) B D3 Cl C_is_size
  have C_read_board := cal_read_board (P := l.prog) (w := w) (base := base) B D6 Cl C_lines_of C_row_of C_looked_board
  have C_whole_of := cal_whole_of (P := l.prog) (w := w) (base := base) B D7 Cl (PySem.W.mg_of X G nC_FIGURES) 
  have C_looked := cal_looked (P := l.prog) (w := w) (base := base) B D1 Cl 
  have C_read_rule := cal_read_rule (P := l.prog) (w := w) (base := base) B D8 Cl C_lines_of C_whole_of C_looked
  have C__law_refused := cal__law_refused (P := l.prog) (w := w) (base := base) B D13 Cl C_read_board C_read_rule
  have C__law_cell_at := cal__law_cell_at (P := l.prog) (w := w) (base := base) B D9 
  have C__law_named := cal__law_named (P := l.prog) (w := w) (base := base) B D11 
  have C__law_rule_by := cal__law_rule_by (P := l.prog) (w := w) (base := base) B D10 C__law_named
  have C__law_board_by := cal__law_board_by (P := l.prog) (w := w) (base := base) B D12 
  have C__law_bad_board := cal__law_bad_board (P := l.prog) (w := w) (base := base) B D14 
  have C__law_bad_rule := cal__law_bad_rule (P := l.prog) (w := w) (base := base) B D15 
  exact ok_law (P := l.prog) (w := w) (base := base) B D16 C__law_cell_at C__law_rule_by C__law_board_by C__law_bad_board C__law_refused C__law_bad_rule
end BT
open PySem PySem.W PyProof.Rows
set_option maxHeartbeats 0 in
theorem PySem.Challenge.cw_blockturn_k17_texts_refused_holds : PySem.Challenge.rw_blockturn_k17_texts_refused.Holds := by
  w_on; o_law; k_head; (case hw => w_witness2)
  k_fill
  refine L2.walk_of (l := PySem.Challenge.rw_blockturn_k17_texts_refused) (n := 63) (k := 5) (x := "script") (CX := fun _ => L2.CX0) (sp := fun w => BT.sp_law _) rfl (by decide) rfl ⟨rfl, by decide, by decide⟩ (fun w h Y => PySem.W.kIn_of Y) ?F (fun _ _ a ns hl _ hS => BT.sp_law_of hS hl) (fun _ _ _ _ _ h => h)
  case F =>
    intro w mg fa h KX G hmg
    refine' BT.all_mk KX G hmg ?a1 ?l1 ?c1 ?k1 ?a2 ?l2 ?c2 ?k2 ?a3 ?l3 ?c3 ?k3 ?a4 ?l4 ?c4 ?k4 ?a5 ?l5 ?c5 ?k5 ?a6 ?l6 ?c6 ?k6 ?a7 ?l7 ?c7 ?k7 ?a8 ?l8 ?c8 ?k8 ?a9 ?l9 ?c9 ?k9 ?a10 ?l10 ?c10 ?k10 ?a11 ?l11 ?c11 ?k11 ?a12 ?l12 ?c12 ?k12 ?a13 ?l13 ?c13 ?k13 ?a14 ?l14 ?c14 ?k14 ?a15 ?l15 ?c15 ?k15 ?a16 ?l16 ?c16 ?k16 ?nP_BlockError ?xP_BlockError ?kP_BlockError ?bP_BlockError ?vP_BlockError ?tP_BlockError ?iP_BlockError ?sP_BlockError ?eg_BlockError ?ek_BlockError ?ed_BlockError ?ea_BlockError ?em_BlockError ?nP_NoBoard ?xP_NoBoard ?kP_NoBoard ?bP_NoBoard ?vP_NoBoard ?tP_NoBoard ?iP_NoBoard ?sP_NoBoard ?eg_NoBoard ?ek_NoBoard ?ed_NoBoard ?ea_NoBoard ?em_NoBoard ?nP_NoRule ?xP_NoRule ?kP_NoRule ?bP_NoRule ?vP_NoRule ?tP_NoRule ?iP_NoRule ?sP_NoRule ?eg_NoRule ?ek_NoRule ?ed_NoRule ?ea_NoRule ?em_NoRule ?nP_NotBack ?xP_NotBack ?kP_NotBack ?bP_NotBack ?vP_NotBack ?tP_NotBack ?iP_NotBack ?sP_NotBack ?eg_NotBack ?ek_NotBack ?ed_NotBack ?ea_NotBack ?em_NotBack ?nP_BadNote ?xP_BadNote ?kP_BadNote ?bP_BadNote ?vP_BadNote ?tP_BadNote ?iP_BadNote ?sP_BadNote ?eg_BadNote ?ek_BadNote ?ed_BadNote ?ea_BadNote ?em_BadNote ?nC_FIGURES ?en_ ?et_ ?s_BlockError_NoBoard ?s_BlockError_NoRule ?s_BlockError_NotBack ?s_BlockError_BadNote ?s_NoBoard_BlockError ?s_NoBoard_NoRule ?s_NoBoard_NotBack ?s_NoBoard_BadNote ?s_NoRule_BlockError ?s_NoRule_NoBoard ?s_NoRule_NotBack ?s_NoRule_BadNote ?s_NotBack_BlockError ?s_NotBack_NoBoard ?s_NotBack_NoRule ?s_NotBack_BadNote ?s_BadNote_BlockError ?s_BadNote_NoBoard ?s_BadNote_NoRule ?s_BadNote_NotBack ?z_ValueError ?z_int ?z_isinstance ?z_len ?z_list ?z_range ?z_set ?z_str ?z_sum ?z_tuple
    (case a1 => k_is); (case l1 => k_is); (case c1 => k_is); (case k1 => k_is); (case a2 => k_is); (case l2 => k_is); (case c2 => k_is); (case k2 => k_is); (case a3 => k_is); (case l3 => k_is); (case c3 => k_is); (case k3 => k_is); (case a4 => k_is); (case l4 => k_is); (case c4 => k_is); (case k4 => k_is); (case a5 => k_is); (case l5 => k_is); (case c5 => k_is); (case k5 => k_is); (case a6 => k_is); (case l6 => k_is); (case c6 => k_is); (case k6 => k_is); (case a7 => k_is); (case l7 => k_is); (case c7 => k_is); (case k7 => k_is); (case a8 => k_is); (case l8 => k_is); (case c8 => k_is); (case k8 => k_is); (case a9 => k_is); (case l9 => k_is); (case c9 => k_is); (case k9 => k_is); (case a10 => k_is); (case l10 => k_is); (case c10 => k_is); (case k10 => k_is); (case a11 => k_is); (case l11 => k_is); (case c11 => k_is); (case k11 => k_is); (case a12 => k_is); (case l12 => k_is); (case c12 => k_is); (case k12 => k_is); (case a13 => k_is); (case l13 => k_is); (case c13 => k_is); (case k13 => k_is); (case a14 => k_is); (case l14 => k_is); (case c14 => k_is); (case k14 => k_is); (case a15 => k_is); (case l15 => k_is); (case c15 => k_is); (case k15 => k_is); (case a16 => k_is); (case l16 => k_is); (case c16 => k_is); (case k16 => k_is); (case nP_BlockError => k_is); (case xP_BlockError => k_exc); (case kP_BlockError => k_is); (case bP_BlockError => k_is); (case vP_BlockError => k_is); (case tP_BlockError => k_is); (case iP_BlockError => k_is); (case sP_BlockError => k_is); (case eg_BlockError => k_is); (case ek_BlockError => k_is); (case ed_BlockError => k_is); (case ea_BlockError => k_is); (case em_BlockError => k_is); (case nP_NoBoard => k_is); (case xP_NoBoard => k_exc); (case kP_NoBoard => k_is); (case bP_NoBoard => k_is); (case vP_NoBoard => k_is); (case tP_NoBoard => k_is); (case iP_NoBoard => k_is); (case sP_NoBoard => k_is); (case eg_NoBoard => k_is); (case ek_NoBoard => k_is); (case ed_NoBoard => k_is); (case ea_NoBoard => k_is); (case em_NoBoard => k_is); (case nP_NoRule => k_is); (case xP_NoRule => k_exc); (case kP_NoRule => k_is); (case bP_NoRule => k_is); (case vP_NoRule => k_is); (case tP_NoRule => k_is); (case iP_NoRule => k_is); (case sP_NoRule => k_is); (case eg_NoRule => k_is); (case ek_NoRule => k_is); (case ed_NoRule => k_is); (case ea_NoRule => k_is); (case em_NoRule => k_is); (case nP_NotBack => k_is); (case xP_NotBack => k_exc); (case kP_NotBack => k_is); (case bP_NotBack => k_is); (case vP_NotBack => k_is); (case tP_NotBack => k_is); (case iP_NotBack => k_is); (case sP_NotBack => k_is); (case eg_NotBack => k_is); (case ek_NotBack => k_is); (case ed_NotBack => k_is); (case ea_NotBack => k_is); (case em_NotBack => k_is); (case nP_BadNote => k_is); (case xP_BadNote => k_exc); (case kP_BadNote => k_is); (case bP_BadNote => k_is); (case vP_BadNote => k_is); (case tP_BadNote => k_is); (case iP_BadNote => k_is); (case sP_BadNote => k_is); (case eg_BadNote => k_is); (case ek_BadNote => k_is); (case ed_BadNote => k_is); (case ea_BadNote => k_is); (case em_BadNote => k_is); (case nC_FIGURES => k_is); (case en_ => k_is); (case et_ => k_is); (case s_BlockError_NoBoard => k_is); (case s_BlockError_NoRule => k_is); (case s_BlockError_NotBack => k_is); (case s_BlockError_BadNote => k_is); (case s_NoBoard_BlockError => k_is); (case s_NoBoard_NoRule => k_is); (case s_NoBoard_NotBack => k_is); (case s_NoBoard_BadNote => k_is); (case s_NoRule_BlockError => k_is); (case s_NoRule_NoBoard => k_is); (case s_NoRule_NotBack => k_is); (case s_NoRule_BadNote => k_is); (case s_NotBack_BlockError => k_is); (case s_NotBack_NoBoard => k_is); (case s_NotBack_NoRule => k_is); (case s_NotBack_BadNote => k_is); (case s_BadNote_BlockError => k_is); (case s_BadNote_NoBoard => k_is); (case s_BadNote_NoRule => k_is); (case s_BadNote_NotBack => k_is); (case z_ValueError => k_is); (case z_int => k_is); (case z_isinstance => k_is); (case z_len => k_is); (case z_list => k_is); (case z_range => k_is); (case z_set => k_is); (case z_str => k_is); (case z_sum => k_is); (case z_tuple => k_is)
